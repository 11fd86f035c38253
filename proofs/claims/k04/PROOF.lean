import PyProof.Rows.All
import Wide.All
import OpenK.AllK
import Wide.FinOn
import HandS.ForMost
import HandS.ForExc
import HandS.TryMany
import HandS.IsInst
import HandS.SetKeys
import HandS.TupAny
import HandS.TupMul
import HandS.Small
import HandS.Conv
import HandS.Zip
import HandS.Rev
import HandS.FStr
import HandS.RaiseMore
import HandS.Style
import HandS.ExcField
import HandS.ExcIs
import HandS.ExcInit
import HandS.CallSlots
import HandS.NoneIn
import HandS.StrMore
import HandS.StrSplit
import HandS.Strs
import HandS.Flow
import HandS.Codes
import KE.GoesMore
import PyProof.EnumMake
import OpenK.KOps
import PySem.Challenge.RW_partkeys_k04_whole_log_texts
set_option Elab.async false
set_option linter.all false
set_option maxRecDepth 100000
set_option maxHeartbeats 400000
/-! MP0: pure data over the abstract heap: data D, owned objects O, frames of pure values, steps of the heap. -/
namespace MP
open PySem PySem.Spec L2
/-- data, no heap in sight -/
inductive D where
  | non | bl (b : Bool) | int (i : Int) | str (x : Str) | ty (n : String) | cls (c : Nat) | scr (xs : List Int)
  | tup (xs : List D) | lst (xs : List D) | dic (ks : List Key) (vs : List D) | ins (c : Nat) (ns : List Str) (vs : List D)
/-- an object that one slot alone holds; what is in it is frozen -/
inductive O where
  | lst (xs : List D) | dic (ks : List Key) (vs : List D) | ins (c : Nat) (ns : List Str) (vs : List D)
def O.view : O → D
  | .lst xs => .lst xs
  | .dic ks vs => .dic ks vs
  | .ins c ns vs => .ins c ns vs
inductive Val where
  | fz (d : D) | own (o : O)
def Val.view : Val → D
  | .fz d => d
  | .own o => o.view
/-- a slot: nothing, data, an own object, a caller's object, the exception that is handled -/
inductive Sl where
  | non | fz (d : D) | own (o : O) | bor (o : O) | exn (c : Nat) (fs : Option (List Str × List D))
abbrev Fm := List Sl
/-- what an expression hands on: the name of a slot, or a value -/
inductive Opn where
  | sl (i : Nat) | vl (v : Val)
/-- an exception: its class, its fields -/
structure Xc where
  c : Nat
  fs : Option (List Str × List D)
inductive Out (α : Type) where
  | ok (a : α) (fr : Fm) | exc (x : Xc) (fr : Fm) | bad
def Out.bind {α β : Type} (x : Out α) (k : α → Fm → Out β) : Out β := match x with
  | .ok a fr => k a fr
  | .exc e fr => .exc e fr
  | .bad => .bad
inductive OutS where
  | nx (fr : Fm) | rt (v : Val) (fr : Fm) | bk (fr : Fm) | ct (fr : Fm) | exc (x : Xc) (fr : Fm) | bad
/-- what a call hands back: the value, the arguments as they are then -/
inductive Rs where
  | ret (v : Val) (os : List Val) | exc (x : Xc) (os : List Val) | bad
structure Gx where
  K : PySem.W.Frag
  cl : Nat → Addr
section
variable (G : Gx) (F : Addr → Prop) (H : Hp)
mutual
def Rep : D → V → Prop
  | .non, v => v = .non
  | .bl b, v => v = .bl b
  | .int i, v => v = .int i
  | .str x, v => v = .str x
  | .ty n, v => v = .ty n
  | .cls c, v => v = .ref (G.cl c)
  | .scr xs, v => ∃ a, v = .ref a ∧ ((∃ o, H a = some (.frz o (.lst (xs.map V.int)))) ∨ ∀ H', SqL G.K H' a (xs.map V.int))
  | .tup ds, v => ∃ a vs, v = .ref a ∧ H a = some (.tup vs) ∧ Reps ds vs
  | .lst ds, v => ∃ a vs, v = .ref a ∧ F a ∧ H a = some (.lst vs) ∧ Reps ds vs
  | .dic ks ds, v => ∃ a vs, v = .ref a ∧ F a ∧ H a = some (.dK (ks.zip vs)) ∧ ks.length = vs.length ∧ Reps ds vs
  | .ins c ns ds, v => ∃ a dx vs, v = .ref a ∧ F a ∧ H a = some (.ins (G.cl c) dx (ns.zip vs)) ∧ ns.length = vs.length ∧ Reps ds vs
def Reps : List D → List V → Prop
  | [], vs => vs = []
  | d :: ds, vs => ∃ v ws, vs = v :: ws ∧ Rep d v ∧ Reps ds ws
end
/-- .. where the object itself may be an owned one -/
def RRep : D → V → Prop
  | .lst ds, v => ∃ a vs, v = .ref a ∧ H a = some (.lst vs) ∧ Reps G F H ds vs
  | .dic ks ds, v => ∃ a vs, v = .ref a ∧ H a = some (.dK (ks.zip vs)) ∧ ks.length = vs.length ∧ Reps G F H ds vs
  | .ins c ns ds, v => ∃ a dx vs, v = .ref a ∧ H a = some (.ins (G.cl c) dx (ns.zip vs)) ∧ ns.length = vs.length ∧ Reps G F H ds vs
  | d, v => Rep G F H d v
def OwnAt : O → Addr → Prop
  | .lst ds, a => ∃ vs, H a = some (.lst vs) ∧ Reps G F H ds vs
  | .dic ks ds, a => ∃ vs, H a = some (.dK (ks.zip vs)) ∧ ks.length = vs.length ∧ Reps G F H ds vs
  | .ins c ns ds, a => ∃ dx vs, H a = some (.ins (G.cl c) dx (ns.zip vs)) ∧ ns.length = vs.length ∧ Reps G F H ds vs
def FsOk (fs : Option (List Str × List D)) (d : Option Addr) : Prop := match fs with
  | none => d = none
  | some (ns, ds) => ∃ dx vs, d = some dx ∧ H dx = some (.xd (ns.zip vs)) ∧ ns.length = vs.length ∧ Reps G F H ds vs
def SlOk (ex : Option (Addr × Option Addr)) : Sl → Option V → Prop
  | .non, _ => True
  | .fz d, s => ∃ v, s = some v ∧ Rep G F H d v
  | .own o, s => ∃ a, s = some (.ref a) ∧ OwnAt G F H o a ∧ ¬ F a
  | .bor o, s => ∃ a, s = some (.ref a) ∧ OwnAt G F H o a ∧ ¬ F a
  | .exn _ fs, s => ∃ a d, ex = some (a, d) ∧ s = some (.ref a) ∧ FsOk G F H fs d
def VOk : Val → V → Prop
  | .fz d, v => Rep G F H d v
  | .own o, v => ∃ a, v = .ref a ∧ OwnAt G F H o a ∧ ¬ F a
def XOk (x : Xc) (c : Value) (d : Option Addr) : Prop := c = .ref (G.cl x.c) ∧ FsOk G F H x.fs d
end
/-- objects that may be owned -/
def Ownable : HO → Bool
  | .lst _ => true
  | .dK _ => true
  | .ins _ _ _ => true
  | _ => false
/-- what data leans on stays -/
structure Kp (F : Addr → Prop) (H : Hp) (S : Addr → Prop) (F' : Addr → Prop) (H' : Hp) : Prop where
  keep : ∀ b o, H b = some o → ¬ S b → H' b = some o
  tups : ∀ b o, H b = some o → Ownable o = false → H' b = some o
  mono : ∀ b, F b → F' b
/-- from (F, H) to (F', H'): only what is in S may have changed -/
structure Step (F : Addr → Prop) (H : Hp) (S : Addr → Prop) (F' : Addr → Prop) (H' : Hp) : Prop extends Kp F H S F' H' where
  live : ∀ b, H b ≠ none → H' b ≠ none
  newF : ∀ b, F' b → F b ∨ S b ∨ H b = none
  lf : ∀ b, F' b → F b ∨ H' b ≠ none
section
variable {F F1 F2 F' : Addr → Prop} {H H1 H2 H' : Hp} {S S1 S' : Addr → Prop} {G : Gx}
theorem Step.refl : Step F H S F H := ⟨⟨fun _ _ e _ => e, fun _ _ e _ => e, fun _ e => e⟩, fun _ e => e, fun _ e => .inl e, fun _ e => .inl e⟩
theorem Step.free (st : Step F H S F1 H1) {a : Addr} (e : H1 a = none) : H a = none := by
  cases q : H a with
  | none => rfl
  | some o => exact absurd e (st.live a (by rw [q]; simp))
theorem Step.trans (a : Step F H S F1 H1) (b : Step F1 H1 S1 F2 H2) (h : ∀ x, S1 x → S x ∨ H x = none) : Step F H S F2 H2 where
  keep := fun x o e n => b.keep x o (a.keep x o e n) fun z => (h x z).elim n fun q => by rw [q] at e; cases e
  tups := fun x o e n => b.tups x o (a.tups x o e n) n
  live := fun x e => b.live x (a.live x e)
  mono := fun x e => b.mono x (a.mono x e)
  newF := fun x e => by
    rcases b.newF x e with z | z | z
    · exact a.newF x z
    · rcases h x z with y | y
      · exact .inr (.inl y)
      · exact .inr (.inr y)
    · exact .inr (.inr (a.free z))
  lf := fun x e => by
    rcases b.lf x e with z | z
    · rcases a.lf x z with y | y
      · exact .inl y
      · exact .inr (b.live x y)
    · exact .inr z
theorem Step.wide (a : Step F H S F1 H1) (h : ∀ x, S x → S' x) : Step F H S' F1 H1 :=
  ⟨⟨fun x o e n => a.keep x o e fun z => n (h x z), a.tups, a.mono⟩, a.live, fun x e => by
    rcases a.newF x e with z | z | z
    · exact .inl z
    · exact .inr (.inl (h x z))
    · exact .inr (.inr z), a.lf⟩
mutual
theorem Rep.step (st : Kp F H S F' H') (dj : ∀ b, F b → ¬ S b) : ∀ (d : D) (v : V), Rep G F H d v → Rep G F' H' d v
  | .non, v, h => by unfold Rep at h ⊢; exact h
  | .bl b, v, h => by unfold Rep at h ⊢; exact h
  | .int i, v, h => by unfold Rep at h ⊢; exact h
  | .str x, v, h => by unfold Rep at h ⊢; exact h
  | .ty n, v, h => by unfold Rep at h ⊢; exact h
  | .cls c, v, h => by unfold Rep at h ⊢; exact h
  | .scr xs, v, h => by
    unfold Rep at h ⊢
    obtain ⟨a, e, q⟩ := h
    rcases q with ⟨o, q⟩ | q
    · exact ⟨a, e, .inl ⟨o, st.tups _ _ q rfl⟩⟩
    · exact ⟨a, e, .inr q⟩
  | .tup ds, v, h => by
    unfold Rep at h ⊢
    obtain ⟨a, vs, e, q, r⟩ := h
    exact ⟨a, vs, e, st.tups _ _ q rfl, Reps.step st dj ds vs r⟩
  | .lst ds, v, h => by
    unfold Rep at h ⊢
    obtain ⟨a, vs, e, f, q, r⟩ := h
    exact ⟨a, vs, e, st.mono a f, st.keep _ _ q (dj a f), Reps.step st dj ds vs r⟩
  | .dic ks ds, v, h => by
    unfold Rep at h ⊢
    obtain ⟨a, vs, e, f, q, l, r⟩ := h
    exact ⟨a, vs, e, st.mono a f, st.keep _ _ q (dj a f), l, Reps.step st dj ds vs r⟩
  | .ins c ns ds, v, h => by
    unfold Rep at h ⊢
    obtain ⟨a, dx, vs, e, f, q, l, r⟩ := h
    exact ⟨a, dx, vs, e, st.mono a f, st.keep a _ q (dj a f), l, Reps.step st dj ds vs r⟩
theorem Reps.step (st : Kp F H S F' H') (dj : ∀ b, F b → ¬ S b) : ∀ (ds : List D) (vs : List V), Reps G F H ds vs → Reps G F' H' ds vs
  | [], vs, h => by unfold Reps at h ⊢; exact h
  | d :: ds, vs, h => by
    unfold Reps at h ⊢
    obtain ⟨v, ws, e, r, rs⟩ := h
    exact ⟨v, ws, e, Rep.step st dj d v r, Reps.step st dj ds ws rs⟩
end
theorem Reps.len : ∀ {ds : List D} {vs : List V}, Reps G F H ds vs → ds.length = vs.length
  | [], vs, h => by unfold Reps at h; subst h; rfl
  | d :: ds, vs, h => by
    unfold Reps at h
    obtain ⟨v, ws, e, _, rs⟩ := h
    subst e
    simp [Reps.len rs]
theorem Reps.nil : Reps G F H [] [] := by unfold Reps; rfl
theorem Reps.cons {d : D} {v : V} {ds : List D} {vs : List V} (a : Rep G F H d v) (b : Reps G F H ds vs) : Reps G F H (d :: ds) (v :: vs) := by unfold Reps; exact ⟨v, vs, rfl, a, b⟩
theorem Reps.of_cons {d : D} {ds : List D} {vs : List V} (h : Reps G F H (d :: ds) vs) : ∃ v ws, vs = v :: ws ∧ Rep G F H d v ∧ Reps G F H ds ws := by unfold Reps at h; exact h
theorem Reps.append : ∀ {ds es : List D} {vs ws : List V}, Reps G F H ds vs → Reps G F H es ws → Reps G F H (ds ++ es) (vs ++ ws)
  | [], es, vs, ws, a, b => by unfold Reps at a; subst a; exact b
  | d :: ds, es, vs, ws, a, b => by
    obtain ⟨v, us, rfl, r, rs⟩ := a.of_cons
    exact Reps.cons r (Reps.append rs b)
theorem Reps.get : ∀ {ds : List D} {vs : List V} {i : Nat} {d : D}, Reps G F H ds vs → ds[i]? = some d → ∃ v, vs[i]? = some v ∧ Rep G F H d v
  | [], vs, i, d, a, e => by simp at e
  | c :: ds, vs, 0, d, a, e => by
    obtain ⟨v, us, rfl, r, rs⟩ := a.of_cons
    simp at e; subst e
    exact ⟨v, rfl, r⟩
  | c :: ds, vs, i + 1, d, a, e => by
    obtain ⟨v, us, rfl, r, rs⟩ := a.of_cons
    obtain ⟨w, h1, h2⟩ := Reps.get (i := i) rs (by simpa using e)
    exact ⟨w, by simpa using h1, h2⟩
theorem Reps.take : ∀ {ds : List D} {vs : List V} (n : Nat), Reps G F H ds vs → Reps G F H (ds.take n) (vs.take n)
  | _, _, 0, _ => by simp; exact Reps.nil
  | [], vs, n + 1, a => by unfold Reps at a; subst a; simp; exact Reps.nil
  | d :: ds, vs, n + 1, a => by
    obtain ⟨v, us, rfl, r, rs⟩ := a.of_cons
    exact Reps.cons r (Reps.take n rs)
theorem Reps.drop : ∀ {ds : List D} {vs : List V} (n : Nat), Reps G F H ds vs → Reps G F H (ds.drop n) (vs.drop n)
  | _, _, 0, a => a
  | [], vs, n + 1, a => by unfold Reps at a; subst a; simp; exact Reps.nil
  | d :: ds, vs, n + 1, a => by
    obtain ⟨v, us, rfl, r, rs⟩ := a.of_cons
    exact Reps.drop n rs
theorem Reps.set : ∀ {ds : List D} {vs : List V} (i : Nat) {d : D} {v : V}, Reps G F H ds vs → Rep G F H d v → Reps G F H (ds.set i d) (vs.set i v)
  | [], vs, i, d, v, a, b => by unfold Reps at a; subst a; simp; exact Reps.nil
  | c :: ds, vs, 0, d, v, a, b => by
    obtain ⟨w, us, rfl, r, rs⟩ := a.of_cons
    exact Reps.cons b rs
  | c :: ds, vs, i + 1, d, v, a, b => by
    obtain ⟨w, us, rfl, r, rs⟩ := a.of_cons
    exact Reps.cons r (Reps.set i rs b)
theorem Reps.rev : ∀ {ds : List D} {vs : List V}, Reps G F H ds vs → Reps G F H ds.reverse vs.reverse
  | [], vs, a => by unfold Reps at a; subst a; exact Reps.nil
  | d :: ds, vs, a => by
    obtain ⟨v, us, rfl, r, rs⟩ := a.of_cons
    rw [List.reverse_cons, List.reverse_cons]
    exact Reps.append (Reps.rev rs) (Reps.cons r Reps.nil)
theorem OwnAt.step {o : O} {a : Addr} (st : Kp F H S F' H') (dj : ∀ b, F b → ¬ S b) (n : ¬ S a) (h : OwnAt G F H o a) : OwnAt G F' H' o a := by
  cases o with
  | lst ds => obtain ⟨vs, e, r⟩ := h; exact ⟨vs, st.keep _ _ e n, Reps.step st dj _ _ r⟩
  | dic ks ds => obtain ⟨vs, e, l, r⟩ := h; exact ⟨vs, st.keep _ _ e n, l, Reps.step st dj _ _ r⟩
  | ins c ns ds => obtain ⟨dx, vs, e, l, r⟩ := h; exact ⟨dx, vs, st.keep _ _ e n, l, Reps.step st dj _ _ r⟩
theorem OwnAt.there {o : O} {a : Addr} (h : OwnAt G F H o a) : H a ≠ none := by
  cases o with
  | lst ds => obtain ⟨vs, e, r⟩ := h; rw [e]; simp
  | dic ks ds => obtain ⟨vs, e, l, r⟩ := h; rw [e]; simp
  | ins c ns ds => obtain ⟨dx, vs, e, l, r⟩ := h; rw [e]; simp
theorem OwnAt.rrep {o : O} {a : Addr} (h : OwnAt G F H o a) : RRep G F H o.view (.ref a) := by
  cases o with
  | lst ds => obtain ⟨vs, e, r⟩ := h; exact ⟨a, vs, rfl, e, r⟩
  | dic ks ds => obtain ⟨vs, e, l, r⟩ := h; exact ⟨a, vs, rfl, e, l, r⟩
  | ins c ns ds => obtain ⟨dx, vs, e, l, r⟩ := h; exact ⟨a, dx, vs, rfl, e, l, r⟩
theorem OwnAt.frozen {o : O} {a : Addr} (h : OwnAt G F H o a) (hS : Kp F H S F' H) (dj : ∀ b, F b → ¬ S b) (ha : F' a) : Rep G F' H o.view (.ref a) := by
  cases o with
  | lst ds => obtain ⟨vs, e, r⟩ := h; unfold O.view Rep; exact ⟨a, vs, rfl, ha, e, Reps.step hS dj _ _ r⟩
  | dic ks ds => obtain ⟨vs, e, l, r⟩ := h; unfold O.view Rep; exact ⟨a, vs, rfl, ha, e, l, Reps.step hS dj _ _ r⟩
  | ins c ns ds => obtain ⟨dx, vs, e, l, r⟩ := h; unfold O.view Rep; exact ⟨a, dx, vs, rfl, ha, e, l, Reps.step hS dj _ _ r⟩
theorem kp_up {S : Addr → Prop} (h : ∀ b, F b → F' b) : Kp F H S F' H := ⟨fun _ _ e _ => e, fun _ _ e _ => e, h⟩
theorem Rep.up {d : D} {v : V} (h : ∀ b, F b → F' b) (r : Rep G F H d v) : Rep G F' H d v := Rep.step (S := fun _ => False) (kp_up h) (fun _ _ z => z) d v r
theorem OwnAt.up {o : O} {a : Addr} (h : ∀ b, F b → F' b) (r : OwnAt G F H o a) : OwnAt G F' H o a := OwnAt.step (S := fun _ => False) (kp_up h) (fun _ _ z => z) (fun z => z) r
theorem Rep.rrep {d : D} {v : V} (h : Rep G F H d v) : RRep G F H d v := by
  cases d with
  | lst ds => unfold Rep at h; obtain ⟨a, vs, e, f, q, r⟩ := h; exact ⟨a, vs, e, q, r⟩
  | dic ks ds => unfold Rep at h; obtain ⟨a, vs, e, f, q, l, r⟩ := h; exact ⟨a, vs, e, q, l, r⟩
  | ins c ns ds => unfold Rep at h; obtain ⟨a, dx, vs, e, f, q, l, r⟩ := h; exact ⟨a, dx, vs, e, q, l, r⟩
  | _ => exact h
end
/-- what a def's frame is bound to: the callers' objects by slot; the exception that is handled -/
structure Bx where
  p : List (Option V)
  ex : Option (Addr × Option Addr)
theorem FsOk.step {F F' : Addr → Prop} {H H' : Hp} {S : Addr → Prop} {G : Gx} {fs : Option (List Str × List D)} {d : Option Addr} (st : Kp F H S F' H') (dj : ∀ b, F b → ¬ S b) (h : FsOk G F H fs d) : FsOk G F' H' fs d := by
  cases fs with
  | none => exact h
  | some q =>
    obtain ⟨ns, ds⟩ := q
    obtain ⟨dx, vs, e, e2, l, r⟩ := h
    exact ⟨dx, vs, e, st.tups _ _ e2 rfl, l, Reps.step st dj _ _ r⟩
/-! ### frames -/
def Own (fr : Fm) (i : Nat) : Prop := ∃ o, fr[i]? = some (.own o) ∨ fr[i]? = some (.bor o)
/-- the addresses that a frame owns -/
def Ow (fr : Fm) (σ : St) (a : Addr) : Prop := ∃ i, Own fr i ∧ σ[i]? = some (some (.ref a))
structure SI (G : Gx) (F : Addr → Prop) (H : Hp) (B : Bx) (fr : Fm) (σ : St) : Prop where
  len : fr.length = σ.length
  ok : ∀ (i : Nat) (s : Sl) (t : Option V), fr[i]? = some s → σ[i]? = some t → SlOk G F H B.ex s t
  dj : ∀ (i j : Nat) (a : Addr), Own fr i → Own fr j → σ[i]? = some (some (.ref a)) → σ[j]? = some (some (.ref a)) → i = j
  bor : ∀ (i : Nat) (o : O), fr[i]? = some (.bor o) → ∃ v, B.p[i]? = some (some v) ∧ σ[i]? = some (some v)
  brw : ∀ (i : Nat) (v : V), B.p[i]? = some (some v) → ∃ o, fr[i]? = some (.bor o)
  fl : ∀ a, F a → H a ≠ none
section
variable {G : Gx} {F F1 F' : Addr → Prop} {H H1 H' : Hp} {B : Bx} {fr fr1 fr' : Fm} {σ σ1 σ' : St} {S : Addr → Prop}
theorem SI.ow_not (I : SI G F H B fr σ) : ∀ b, F b → ¬ Ow fr σ b := fun b f ⟨i, ⟨o, ho⟩, e⟩ => by
  rcases ho with ho | ho
  · obtain ⟨a, z, _, n⟩ := I.ok i _ _ ho e
    cases z; exact n f
  · obtain ⟨a, z, _, n⟩ := I.ok i _ _ ho e
    cases z; exact n f
theorem SI.ow_live (I : SI G F H B fr σ) {a : Addr} (h : Ow fr σ a) : H a ≠ none := by
  obtain ⟨i, ⟨o, ho⟩, e⟩ := h
  rcases ho with ho | ho
  · obtain ⟨b, z, w, n⟩ := I.ok i _ _ ho e
    cases z; exact w.there
  · obtain ⟨b, z, w, n⟩ := I.ok i _ _ ho e
    cases z; exact w.there
/-- a step that leaves what the frame owns -/
theorem SI.step (I : SI G F H B fr σ) (st : Step F H S F' H') (dj : ∀ b, F b → ¬ S b) (hS : ∀ a, Ow fr σ a → ¬ S a) : SI G F' H' B fr σ := by
  have hF : ∀ a, Ow fr σ a → ¬ F a → ¬ F' a := fun a o n z => by
    rcases st.newF a z with y | y | y
    · exact n y
    · exact hS a o y
    · exact I.ow_live o y
  refine ⟨I.len, fun i s t e1 e2 => ?_, I.dj, I.bor, I.brw, fun a f => (st.lf a f).elim (fun z => st.live a (I.fl a z)) id⟩
  have := I.ok i s t e1 e2
  cases s with
  | non => trivial
  | fz d => obtain ⟨v, z, r⟩ := this; exact ⟨v, z, Rep.step st.toKp dj d v r⟩
  | own o => obtain ⟨a, z, r, n⟩ := this; subst z; exact ⟨a, rfl, r.step st.toKp dj (hS a ⟨i, ⟨o, .inl e1⟩, e2⟩), hF a ⟨i, ⟨o, .inl e1⟩, e2⟩ n⟩
  | bor o => obtain ⟨a, z, r, n⟩ := this; subst z; exact ⟨a, rfl, r.step st.toKp dj (hS a ⟨i, ⟨o, .inr e1⟩, e2⟩), hF a ⟨i, ⟨o, .inr e1⟩, e2⟩ n⟩
  | exn c fs => obtain ⟨a, d, z1, z2, r⟩ := this; exact ⟨a, d, z1, z2, r.step st.toKp dj⟩
theorem SI.lt (I : SI G F H B fr σ) {i : Nat} {s : Sl} (e : fr[i]? = some s) : ∃ t, σ[i]? = some t := by
  have h := (List.getElem?_eq_some_iff.mp e).1
  rw [I.len] at h
  exact ⟨σ[i], List.getElem?_eq_getElem h⟩
end
/-! ### what an expression hands on -/
def cont (fr : Fm) : Opn → Option D
  | .sl i => match fr[i]? with
    | some (.fz d) => some d
    | some (.own o) => some o.view
    | some (.bor o) => some o.view
    | _ => none
  | .vl v => some v.view
def OpnOk (G : Gx) (F : Addr → Prop) (H : Hp) (fr : Fm) (σ : St) : Opn → V → Prop
  | .sl i, v => σ[i]? = some (some v)
  | .vl (.fz d), v => Rep G F H d v
  | .vl (.own o), v => ∃ a, v = .ref a ∧ OwnAt G F H o a ∧ ¬ F a ∧ ¬ Ow fr σ a
/-- a new object is new -/
def New (H : Hp) : Opn → V → Prop
  | .vl (.own _), v => ∀ a, v = .ref a → H a = none
  | _, _ => True
section
variable {G : Gx} {F F1 F' : Addr → Prop} {H H1 H' : Hp} {B : Bx} {fr fr1 fr' : Fm} {σ σ1 σ' : St} {S : Addr → Prop} {p : Opn} {v : V} {d : D}
theorem cont_ok (I : SI G F H B fr σ) (o : OpnOk G F H fr σ p v) (e : cont fr p = some d) : RRep G F H d v := by
  cases p with
  | sl i =>
    have o' : σ[i]? = some (some v) := o
    cases q : fr[i]? with
    | none => simp [cont, q] at e
    | some s =>
      simp only [cont, q] at e
      have k := I.ok i s _ q o'
      cases s with
      | non => cases e
      | exn c fs => cases e
      | fz c => cases e; obtain ⟨w, z, r⟩ := k; cases z; exact r.rrep
      | own c => cases e; obtain ⟨w, z, r, _⟩ := k; cases z; exact r.rrep
      | bor c => cases e; obtain ⟨w, z, r, _⟩ := k; cases z; exact r.rrep
  | vl w =>
    cases w with
    | fz c => cases e; exact (show Rep G F H c v from o).rrep
    | own c => cases e; obtain ⟨a, z, r, _⟩ := o; subst z; exact r.rrep
/-- what was handed on stays through a step of the frame -/
theorem OpnOk.step (I : SI G F H B fr σ) (st : Step F H (Ow fr σ) F' H') (sub : ∀ a, Ow fr' σ a → Ow fr σ a) (o : OpnOk G F H fr σ p v) : OpnOk G F' H' fr' σ p v := by
  cases p with
  | sl i => exact o
  | vl w =>
    cases w with
    | fz c => exact Rep.step st.toKp I.ow_not c v o
    | own c =>
      obtain ⟨a, z, r, n, w⟩ := o
      refine ⟨a, z, r.step st.toKp I.ow_not w, fun f => ?_, fun y => w (sub a y)⟩
      rcases st.newF a f with y | y | y
      · exact n y
      · exact w y
      · exact r.there y
end
end MP
set_option Elab.async false
set_option linter.all false
set_option maxRecDepth 100000
set_option maxHeartbeats 400000
/-! MP1: judgements; names, constants, operators, displays. -/
namespace MP
open PySem PySem.Spec L2
structure Nx (G : Gx) (B : Bx) (σ : St) (F : Addr → Prop) (H : Hp) (fr : Fm) (F' : Addr → Prop) (H' : Hp) (fr' : Fm) : Prop where
  I : SI G F' H' B fr' σ
  st : Step F H (Ow fr σ) F' H'
  sub : ∀ a, Ow fr' σ a → Ow fr σ a
section
variable {G : Gx} {B : Bx} {σ : St} {F F0 F1 F2 F' : Addr → Prop} {H H0 H1 H2 H' : Hp} {fr fr0 fr1 fr2 fr' : Fm} {W : WX}
theorem Nx.refl (I : SI G F H B fr σ) : Nx G B σ F H fr F H fr := ⟨I, .refl, fun _ h => h⟩
theorem Nx.trans (a : Nx G B σ F H fr F1 H1 fr1) (b : Nx G B σ F1 H1 fr1 F2 H2 fr2) : Nx G B σ F H fr F2 H2 fr2 :=
  ⟨b.I, a.st.trans b.st fun x h => .inl (a.sub x h), fun x h => a.sub x (b.sub x h)⟩
/-- how a computation of a state goes on: a value, or an exception -/
def Aft {α : Type} (G : Gx) (B : Bx) (W : WX) (σ : St) (F : Addr → Prop) (H : Hp) (fr : Fm) (o : Out α) (post : α → Fm → (Addr → Prop) → Hp → Prop) : Prop := match o with
  | .ok a fr' => ∀ F' H', Nx G B σ F H fr F' H' fr' → post a fr' F' H'
  | .exc x fr' => ∀ F' H' c d, Nx G B σ F H fr F' H' fr' → XOk G F' H' x c d → W c d σ H'
  | .bad => False
theorem Aft.imp {α : Type} {o : Out α} {p q : α → Fm → (Addr → Prop) → Hp → Prop} (h : Aft G B W σ F H fr o p) (k : ∀ a fr' F' H', Nx G B σ F H fr F' H' fr' → p a fr' F' H' → q a fr' F' H') : Aft G B W σ F H fr o q := by
  cases o with
  | ok a fr' => exact fun F' H' n => k _ _ _ _ n (h F' H' n)
  | exc x fr' => exact h
  | bad => exact h
theorem Aft.later {α : Type} {o : Out α} {post : α → Fm → (Addr → Prop) → Hp → Prop} (n : Nx G B σ F H fr F1 H1 fr1) (h : Aft G B W σ F H fr o post) : Aft G B W σ F1 H1 fr1 o post := by
  cases o with
  | ok a fr' => exact fun F' H' m => h F' H' (n.trans m)
  | exc x fr' => exact fun F' H' c d m => h F' H' c d (n.trans m)
  | bad => exact h
theorem Aft.of_bind {α β : Type} {o : Out α} {k : α → Fm → Out β} {post : β → Fm → (Addr → Prop) → Hp → Prop} (h : Aft G B W σ F H fr (o.bind k) post) :
    Aft G B W σ F H fr o fun a fr1 F1 H1 => Nx G B σ F H fr F1 H1 fr1 ∧ Aft G B W σ F1 H1 fr1 (k a fr1) fun b fr2 F2 H2 => post b fr2 F2 H2 := by
  cases o with
  | ok a fr1 =>
    intro F1 H1 n1
    refine ⟨n1, ?_⟩
    have h' : Aft G B W σ F H fr (k a fr1) post := h
    revert h'
    cases k a fr1 with
    | ok b fr2 => exact fun h F2 H2 n2 => h F2 H2 (n1.trans n2)
    | exc x fr2 => exact fun h F2 H2 c d n2 => h F2 H2 c d (n1.trans n2)
    | bad => exact fun h => h
  | exc x fr1 => exact h
  | bad => exact h
end
/-- the reading of an expression that computes f -/
def tE (G : Gx) (B : Bx) (W : WX) (f : Fm → Out Opn) : TE := fun σ H Q => ∃ F fr, SI G F H B fr σ ∧
  Aft G B W σ F H fr (f fr) fun p fr' F' H' => ∀ v, OpnOk G F' H' fr' σ p v → New H p v → Q v H'
abbrev SE (X : Cx) (G : Gx) (B : Bx) (W : WX) (e : Expr) (f : Fm → Out Opn) : Prop := PE X e (tE G B W f)
def tT (G : Gx) (B : Bx) (W : WX) (f : Fm → Out Bool) : TT := fun σ H Q => ∃ F fr, SI G F H B fr σ ∧
  Aft G B W σ F H fr (f fr) fun b fr' F' H' => Q b H'
abbrev ST (X : Cx) (G : Gx) (B : Bx) (W : WX) (e : Expr) (f : Fm → Out Bool) : Prop := PT X e (tT G B W f)
abbrev SW (X : Cx) (G : Gx) (B : Bx) (W : WX) (e : Expr) (f : Fm → Out Bool) : Prop := PW X e (tT G B W f)
/-- own temporary objects of a list of operands -/
def Tmp (ps : List Opn) (vs : List V) (a : Addr) : Prop := ∃ (i : Nat) (o : O), ps[i]? = some (Opn.vl (.own o)) ∧ vs[i]? = some (V.ref a)
def OpnsOk (G : Gx) (F : Addr → Prop) (H : Hp) (fr : Fm) (σ : St) : List Opn → List V → Prop
  | [], vs => vs = []
  | p :: ps, vs => ∃ v ws, vs = v :: ws ∧ OpnOk G F H fr σ p v ∧ OpnsOk G F H fr σ ps ws ∧ ∀ o a, p = .vl (.own o) → v = .ref a → ¬ Tmp ps ws a
def tA (G : Gx) (B : Bx) (W : WX) (f : Fm → Out (List Opn)) : TA := fun σ H Q => ∃ F fr, SI G F H B fr σ ∧
  Aft G B W σ F H fr (f fr) fun ps fr' F' H' => ∀ vs, OpnsOk G F' H' fr' σ ps vs → (∀ a, Tmp ps vs a → H a = none) → Q vs H'
abbrev SA (X : Cx) (G : Gx) (B : Bx) (W : WX) (es : List Expr) (f : Fm → Out (List Opn)) : Prop := PA X es (tA G B W f)
theorem PE.of {X : Cx} {e : Expr} {t t' : TE} (h : PE X e t) (k : ∀ σ H Q, t' σ H Q → t σ H Q) : PE X e t' := ⟨fun pins s σ H Q I q => h.run pins s σ H Q I (k _ _ _ q)⟩
theorem PT.of {X : Cx} {e : Expr} {t t' : TT} (h : PT X e t) (k : ∀ σ H Q, t' σ H Q → t σ H Q) : PT X e t' := ⟨fun pins s σ H Q I q => h.run pins s σ H Q I (k _ _ _ q)⟩
theorem PW.of {X : Cx} {e : Expr} {t t' : TT} (h : PW X e t) (k : ∀ σ H Q, t' σ H Q → t σ H Q) : PW X e t' := ⟨fun whole pins s σ H Q I q => h.run whole pins s σ H Q I (k _ _ _ q)⟩
theorem PA.of {X : Cx} {e : List Expr} {t t' : TA} (h : PA X e t) (k : ∀ σ H Q, t' σ H Q → t σ H Q) : PA X e t' := ⟨fun pos pins s σ H Q I q => h.run pos pins s σ H Q I (k _ _ _ q)⟩
/-! ### a step that lays new objects alone -/
theorem step_new {F : Addr → Prop} {H : Hp} {p : Addr} {o : HO} (h : H p = none) : Step F H (fun _ => False) F (upd H p o) :=
  ⟨⟨fun b u e _ => by rw [upd_ne (ne_of_none e h)]; exact e, fun b u e _ => by rw [upd_ne (ne_of_none e h)]; exact e, fun _ e => e⟩, fun b e => by
    by_cases z : b = p
    · rw [z, upd_same]; simp
    · rw [upd_ne z]; exact e, fun _ e => .inl e, fun _ e => .inl e⟩
theorem step_newF {F : Addr → Prop} {H : Hp} {p : Addr} {o : HO} (h : H p = none) : Step F H (fun _ => False) (fun b => F b ∨ b = p) (upd H p o) :=
  ⟨⟨(step_new (F := F) h).keep, (step_new (F := F) h).tups, fun _ e => .inl e⟩, (step_new (F := F) h).live, fun b e => by
    rcases e with e | e
    · exact .inl e
    · exact .inr (.inr (by rw [e]; exact h)), fun b e => by
    rcases e with e | e
    · exact .inl e
    · exact .inr (by rw [e, upd_same]; simp)⟩
section
variable {G : Gx} {B : Bx} {σ : St} {F F0 F1 F2 F' : Addr → Prop} {H H0 H1 H2 H' : Hp} {fr fr0 fr1 fr2 fr' : Fm} {W : WX} {S : Addr → Prop}
/-- a step that writes nothing of the frame's -/
theorem Nx.quiet (a : Nx G B σ F H fr F1 H1 fr1) (b : Step F1 H1 (fun _ => False) F2 H2) : Nx G B σ F H fr F2 H2 fr1 :=
  a.trans ⟨a.I.step b (fun _ _ z => z) (fun _ _ z => z), b.wide fun _ z => z.elim, fun _ h => h⟩
/-- a value behind a quiet step -/
def VNew (H : Hp) (v : Val) (w : V) : Prop := ∀ o a, v = .own o → w = .ref a → H a = none
theorem OpnOk.of_val {v : Val} {w : V} (I : SI G F H B fr σ) (h : VOk G F H v w) (n : ∀ o a, v = .own o → w = .ref a → ¬ Ow fr σ a) : OpnOk G F H fr σ (.vl v) w := by
  cases v with
  | fz d => exact h
  | own o =>
    obtain ⟨a, e, r, f⟩ := h
    exact ⟨a, e, r, f, n o a rfl e⟩
theorem New.of {v : Val} {w : V} (h : VNew H v w) : New H (.vl v) w := by
  cases v with
  | fz d => trivial
  | own o => exact fun a e => h o a rfl e
/-! ### names, constants -/
def sVar (i : Nat) : Fm → Out Opn := fun fr => match fr[i]? with
  | some .non => .bad
  | some (.exn _ _) => .bad
  | some _ => .ok (.sl i) fr
  | none => .bad
def sC (d : D) : Fm → Out Opn := fun fr => .ok (.vl (.fz d)) fr
variable {X : Cx} {pos : Pos}
theorem s_var (i : Nat) {x : Str} (hN : X.N[i]? = some x := by rfl) (hv : Vis X.env.scope x := by first | exact Or.inl rfl | exact Or.inr (Or.inl rfl) | exact Or.inr (Or.inr rfl)) (hd : (x == ("__debug__" : Str)) = false := by decide)
    (hcd : (x == ("__classdict__" : Str)) = false := by decide) : SE X G B W (.Name x pos) (sVar i) := by
  refine PE.of (pe_var hN hv hd hcd) fun σ H Q ⟨F, fr, I, h⟩ => ?_
  unfold sVar at h
  cases q : fr[i]? with
  | none => rw [q] at h; exact h.elim
  | some s =>
    rw [q] at h
    obtain ⟨t, ht⟩ := I.lt q
    have k := I.ok i s t q ht
    have fin : ∀ v, t = some v → Aft G B W σ F H fr (.ok (.sl i) fr) (fun p fr' F' H' => ∀ v, OpnOk G F' H' fr' σ p v → New H p v → Q v H') → ∃ v, σ[i]? = some (some v) ∧ Q v H := fun v e h => by
      subst e
      exact ⟨v, ht, h F H (.refl I) v ht trivial⟩
    cases s with
    | non => exact h.elim
    | fz d => obtain ⟨v, z, r⟩ := k; exact fin v z h
    | own o => obtain ⟨a, z, r⟩ := k; exact fin _ z h
    | bor o => obtain ⟨a, z, r⟩ := k; exact fin _ z h
    | exn c fs => exact h.elim
theorem s_const {e : Expr} {v : V} {d : D} (h : PE X e (tC v)) (r : ∀ F H, Rep G F H d v) : SE X G B W e (sC d) := by
  refine PE.of h fun σ H Q ⟨F, fr, I, k⟩ => ?_
  exact k F H (.refl I) v (r F H) trivial
theorem s_int {i j} : SE X G B W (.Constant (.int i) j pos) (sC (.int i)) := s_const pe_int fun _ _ => by unfold Rep; rfl
theorem s_bl {b j} : SE X G B W (.Constant (.bool b) j pos) (sC (.bl b)) := s_const pe_bl fun _ _ => by unfold Rep; rfl
theorem s_non {j} : SE X G B W (.Constant .none j pos) (sC .non) := s_const pe_non fun _ _ => by unfold Rep; rfl
theorem s_str {x j} : SE X G B W (.Constant (.str x) j pos) (sC (.str x)) := s_const pe_str fun _ _ => by unfold Rep; rfl
/-- a module's constant: an int or a text -/
theorem s_gint {x : Str} {i : Int} {t : Tok} (hg : Gl X x) (hm : X.mg x = some (.int i t)) (hd : (x == ("__debug__" : Str)) = false := by decide) : SE X G B W (.Name x pos) (sC (.int i)) :=
  s_const (pe_glob hg hm (v := .int i) ⟨t, rfl⟩ hd) fun _ _ => by unfold Rep; rfl
theorem s_gstr {x : Str} {z : Str} {t : Tok} (hg : Gl X x) (hm : X.mg x = some (.str z t)) (hd : (x == ("__debug__" : Str)) = false := by decide) : SE X G B W (.Name x pos) (sC (.str z)) :=
  s_const (pe_glob hg hm (v := .str z) ⟨t, rfl⟩ hd) fun _ _ => by unfold Rep; rfl
theorem s_gcls {x : Str} {c : Nat} (hg : Gl X x) (hm : X.mg x = some (.ref (G.cl c))) (hd : (x == ("__debug__" : Str)) = false := by decide) : SE X G B W (.Name x pos) (sC (.cls c)) :=
  s_const (pe_glob hg hm (v := .ref (G.cl c)) rfl hd) fun _ _ => by unfold Rep; rfl
theorem s_type {x : Str} {n : String} (hg : Gl X x) (hm : X.mg x = none) (hv : bootBuiltins x = some (.type n)) (hn : x ≠ "__name__" := by decide) (hd : (x == ("__debug__" : Str)) = false := by decide) : SE X G B W (.Name x pos) (sC (.ty n)) :=
  s_const (pe_bltn hg hm hv (v := .ty n) rfl hn hd) fun _ _ => by unfold Rep; rfl
/-! ### operators by values -/
def Lift2 (X : Cx) (G : Gx) (op : Value → Value → Sem Value) (g : D → D → Option Val) : Prop := ∃ r : R2, OpR X op r ∧
  ∀ (F : Addr → Prop) (H : Hp) (d e : D) (x y : V) (u : Val) (Q : VK), (∀ a, F a → H a ≠ none) → RRep G F H d x → RRep G F H e y → g d e = some u → (∀ F' H' w, Step F H (fun _ => False) F' H' → VOk G F' H' u w → VNew H u w → Q w H') → r x y H Q
/-- the two operands, then a function of what they are -/
def sBin (g : D → D → Option Val) (fa fb : Fm → Out Opn) : Fm → Out Opn := fun fr => (fa fr).bind fun p fr1 => (fb fr1).bind fun q fr2 =>
  match cont fr2 p, cont fr2 q with
  | some d, some e => match g d e with
    | some u => .ok (.vl u) fr2
    | none => .bad
  | _, _ => .bad
theorem bin_ok {g : D → D → Option Val} {fa fb : Fm → Out Opn} {R : V → V → Hp → Prop} {Q : VK} (h : tE G B W (sBin g fa fb) σ H Q)
    (k : ∀ F1 H1 d e x y u, (∀ a, F1 a → H1 a ≠ none) → RRep G F1 H1 d x → RRep G F1 H1 e y → g d e = some u → (∀ F' H' w, Step F1 H1 (fun _ => False) F' H' → VOk G F' H' u w → VNew H1 u w → Q w H') → R x y H1) :
    tE G B W fa σ H fun x H1 => tE G B W fb σ H1 fun y H2 => R x y H2 := by
  obtain ⟨F, fr, I, h⟩ := h
  refine ⟨F, fr, I, h.of_bind.imp fun p fr1 F1 H1 n1 ⟨_, h1⟩ x ox nx => ?_⟩
  refine ⟨F1, fr1, n1.I, h1.of_bind.imp fun q fr2 F2 H2 n2 ⟨_, h2⟩ y oy ny => ?_⟩
  have ox2 : OpnOk G F2 H2 fr2 σ p x := ox.step n1.I n2.st n2.sub
  cases ep : cont fr2 p with
  | none => rw [ep] at h2; exact h2.elim
  | some d =>
    cases eq : cont fr2 q with
    | none => rw [ep, eq] at h2; exact h2.elim
    | some e =>
      rw [ep, eq] at h2
      cases eg : g d e with
      | none => simp only [eg] at h2; exact h2.elim
      | some u =>
        simp only [eg] at h2
        refine k F2 H2 d e x y u n2.I.fl (cont_ok n2.I ox2 ep) (cont_ok n2.I oy eq) eg fun F' H' w st vo vn => ?_
        have n3 : Nx G B σ F2 H2 fr2 F' H' fr2 := (Nx.refl n2.I).quiet st
        refine h2 F' H' n3 w (.of_val n3.I vo fun o a e1 e2 z => n2.I.ow_live z (vn o a e1 e2)) (New.of fun o a e1 e2 => (n1.trans n2).st.free (vn o a e1 e2))
theorem s_bin {op : Operator} {g : D → D → Option Val} {a b : Expr} {fa fb : Fm → Out Opn} (L : Lift2 X G (binaryOp op) g) (ha : SE X G B W a fa) (hb : SE X G B W b fb) : SE X G B W (.BinOp a op b pos) (sBin g fa fb) := by
  obtain ⟨r, ho, hr⟩ := L
  exact PE.of (pe_op ho ha hb) fun σ H Q h => bin_ok h fun F1 H1 d e x y u fl rd re eg k => hr F1 H1 d e x y u Q fl rd re eg k
theorem s_cmp {op : CmpOp} {g : D → D → Option Val} {a b : Expr} {fa fb : Fm → Out Opn} (L : Lift2 X G (compareOp op) g) (ha : SE X G B W a fa) (hb : SE X G B W b fb) (hm : behindInMarks op b = false := by first | exact nomark _ | rfl) : SE X G B W (.Compare a [op] [b] pos) (sBin g fa fb) := by
  obtain ⟨r, ho, hr⟩ := L
  exact PE.of (pe_cmpR ho ha hb hm) fun σ H Q h => bin_ok h fun F1 H1 d e x y u fl rd re eg k => hr F1 H1 d e x y u Q fl rd re eg k
/-- a Boolean-valued operator -/
def bOf (g : D → D → Option Bool) : D → D → Option Val := fun d e => (g d e).map fun b => .fz (.bl b)
def sTst (f : Fm → Out Opn) : Fm → Out Bool := fun fr => (f fr).bind fun p fr1 => match cont fr1 p with
  | some (.bl b) => .ok b fr1
  | _ => .bad
theorem tst_ok {f : Fm → Out Opn} {Q : Bool → Hp → Prop} (h : tT G B W (sTst f) σ H Q) : tE G B W f σ H fun x H1 => ∃ k, x = .bl k ∧ Q k H1 := by
  obtain ⟨F, fr, I, h⟩ := h
  refine ⟨F, fr, I, h.of_bind.imp fun p fr1 F1 H1 n1 ⟨_, h1⟩ x ox nx => ?_⟩
  cases ep : cont fr1 p with
  | none => rw [ep] at h1; exact h1.elim
  | some d =>
    rw [ep] at h1
    have r := cont_ok n1.I ox ep
    cases d with
    | bl b =>
      unfold RRep Rep at r
      exact ⟨b, r, h1 F1 H1 (.refl n1.I)⟩
    | _ => exact h1.elim
theorem s_cmpT {op : CmpOp} {g : D → D → Option Val} {a b : Expr} {fa fb : Fm → Out Opn} (L : Lift2 X G (compareOp op) g) (ha : SE X G B W a fa) (hb : SE X G B W b fb) (hm : behindInMarks op b = false := by first | exact nomark _ | rfl) : ST X G B W (.Compare a [op] [b] pos) (sTst (sBin g fa fb)) := by
  obtain ⟨r, ho, hr⟩ := L
  refine PT.of (pt_cmpR ho ha hb hm) fun σ H Q h => ?_
  exact bin_ok (tst_ok h) fun F1 H1 d e x y u fl rd re eg k => hr F1 H1 d e x y u _ fl rd re eg k
/-- a unary operator -/
def Lift1 (X : Cx) (G : Gx) (op : Value → Sem Value) (g : D → Option Val) : Prop := ∃ r : V → Hp → VK → Prop, UnR X op r ∧
  ∀ (F : Addr → Prop) (H : Hp) (d : D) (x : V) (u : Val) (Q : VK), (∀ a, F a → H a ≠ none) → RRep G F H d x → g d = some u → (∀ F' H' w, Step F H (fun _ => False) F' H' → VOk G F' H' u w → VNew H u w → Q w H') → r x H Q
def sUn (g : D → Option Val) (fa : Fm → Out Opn) : Fm → Out Opn := fun fr => (fa fr).bind fun p fr1 =>
  match cont fr1 p with
  | some d => match g d with
    | some u => .ok (.vl u) fr1
    | none => .bad
  | _ => .bad
theorem un_ok {g : D → Option Val} {fa : Fm → Out Opn} {R : V → Hp → Prop} {Q : VK} (h : tE G B W (sUn g fa) σ H Q)
    (k : ∀ F1 H1 d x u, (∀ a, F1 a → H1 a ≠ none) → RRep G F1 H1 d x → g d = some u → (∀ F' H' w, Step F1 H1 (fun _ => False) F' H' → VOk G F' H' u w → VNew H1 u w → Q w H') → R x H1) :
    tE G B W fa σ H fun x H1 => R x H1 := by
  obtain ⟨F, fr, I, h⟩ := h
  refine ⟨F, fr, I, h.of_bind.imp fun p fr1 F1 H1 n1 ⟨_, h1⟩ x ox nx => ?_⟩
  cases ep : cont fr1 p with
  | none => rw [ep] at h1; exact h1.elim
  | some d =>
    rw [ep] at h1
    cases eg : g d with
    | none => simp only [eg] at h1; exact h1.elim
    | some u =>
      simp only [eg] at h1
      refine k F1 H1 d x u n1.I.fl (cont_ok n1.I ox ep) eg fun F' H' w st vo vn => ?_
      have n3 : Nx G B σ F1 H1 fr1 F' H' fr1 := (Nx.refl n1.I).quiet st
      exact h1 F' H' n3 w (.of_val n3.I vo fun o a e1 e2 z => n1.I.ow_live z (vn o a e1 e2)) (New.of fun o a e1 e2 => n1.st.free (vn o a e1 e2))
theorem s_un {op : UnaryOp} {g : D → Option Val} {a : Expr} {fa : Fm → Out Opn} (L : Lift1 X G (unaryOp op) g) (ha : SE X G B W a fa) : SE X G B W (.UnaryOp op a pos) (sUn g fa) := by
  obtain ⟨r, ho, hr⟩ := L
  exact PE.of (pe_un ho ha) fun σ H Q h => un_ok h fun F1 H1 d x u fl rd eg k => hr F1 H1 d x u Q fl rd eg k
/-- a < b <= c -/
def sChain (g g' : D → D → Option Val) (fa fb fc : Fm → Out Opn) : Fm → Out Opn := fun fr => (fa fr).bind fun p fr1 => (fb fr1).bind fun q fr2 =>
  match cont fr2 p, cont fr2 q with
  | some d, some e => match g d e with
    | some (.fz (.bl true)) => (fc fr2).bind fun s fr3 => match cont fr3 q, cont fr3 s with
      | some e', some c => match g' e' c with
        | some u => .ok (.vl u) fr3
        | none => .bad
      | _, _ => .bad
    | some (.fz (.bl false)) => .ok (.vl (.fz (.bl false))) fr2
    | _ => .bad
  | _, _ => .bad
theorem chain_ok {op op' : CmpOp} {g g' : D → D → Option Val} {fa fb fc : Fm → Out Opn} {r r' : R2} {Q : VK}
    (hr : ∀ (F : Addr → Prop) (H : Hp) (d e : D) (x y : V) (u : Val) (Q : VK), (∀ a, F a → H a ≠ none) → RRep G F H d x → RRep G F H e y → g d e = some u → (∀ F' H' w, Step F H (fun _ => False) F' H' → VOk G F' H' u w → VNew H u w → Q w H') → r x y H Q)
    (hr' : ∀ (F : Addr → Prop) (H : Hp) (d e : D) (x y : V) (u : Val) (Q : VK), (∀ a, F a → H a ≠ none) → RRep G F H d x → RRep G F H e y → g' d e = some u → (∀ F' H' w, Step F H (fun _ => False) F' H' → VOk G F' H' u w → VNew H u w → Q w H') → r' x y H Q)
    (h : tE G B W (sChain g g' fa fb fc) σ H Q) : tChain r r' (tE G B W fa) (tE G B W fb) (tE G B W fc) σ H Q := by
  obtain ⟨F, fr, I, h⟩ := h
  refine ⟨F, fr, I, h.of_bind.imp fun p fr1 F1 H1 n1 ⟨_, h1⟩ x ox nx => ?_⟩
  refine ⟨F1, fr1, n1.I, h1.of_bind.imp fun q fr2 F2 H2 n2 ⟨_, h2⟩ y oy ny => ?_⟩
  have ox2 : OpnOk G F2 H2 fr2 σ p x := ox.step n1.I n2.st n2.sub
  cases ep : cont fr2 p with
  | none => rw [ep] at h2; exact h2.elim
  | some d =>
    cases eq : cont fr2 q with
    | none => rw [ep, eq] at h2; exact h2.elim
    | some e =>
      rw [ep, eq] at h2
      cases eg : g d e with
      | none => simp only [eg] at h2; exact h2.elim
      | some u =>
        simp only [eg] at h2
        refine hr F2 H2 d e x y u _ n2.I.fl (cont_ok n2.I ox2 ep) (cont_ok n2.I oy eq) eg fun F' H' w st vo vn => ?_
        cases u with
        | own o => exact h2.elim
        | fz c =>
          cases c with
          | bl b =>
            have e1 : w = .bl b := by have := vo; unfold VOk Rep at this; exact this
            have n3 : Nx G B σ F2 H2 fr2 F' H' fr2 := (Nx.refl n2.I).quiet st
            cases b with
            | false =>
              refine ⟨false, e1, ?_⟩
              rw [if_neg (by decide)]
              exact h2 F' H' n3 (.bl false) (by show Rep G F' H' (.bl false) _; unfold Rep; rfl) trivial
            | true =>
              refine ⟨true, e1, ?_⟩
              rw [if_pos rfl]
              have n4 : Nx G B σ F H fr F' H' fr2 := (n1.trans n2).trans n3
              have h2' : Aft G B W σ F' H' fr2 ((fc fr2).bind fun s fr3 => match cont fr3 q, cont fr3 s with
                | some e', some c => match g' e' c with
                  | some u => Out.ok (Opn.vl u) fr3
                  | none => .bad
                | _, _ => .bad) fun p fr' F' H' => ∀ v, OpnOk G F' H' fr' σ p v → New H p v → Q v H' := Aft.later n3 h2
              refine ⟨F', fr2, n3.I, h2'.of_bind.imp fun s fr3 F3 H3 n5 ⟨_, h3⟩ z oz nz => ?_⟩
              have oy3 : OpnOk G F3 H3 fr3 σ q y := (oy.step n2.I n3.st n3.sub).step n3.I n5.st n5.sub
              cases eq3 : cont fr3 q with
              | none => rw [eq3] at h3; exact h3.elim
              | some e' =>
                cases es : cont fr3 s with
                | none => rw [eq3, es] at h3; exact h3.elim
                | some c =>
                  rw [eq3, es] at h3
                  cases eg' : g' e' c with
                  | none => simp only [eg'] at h3; exact h3.elim
                  | some u =>
                    simp only [eg'] at h3
                    refine hr' F3 H3 e' c y z u Q n5.I.fl (cont_ok n5.I oy3 eq3) (cont_ok n5.I oz es) eg' fun F4 H4 w st vo vn => ?_
                    have n6 : Nx G B σ F3 H3 fr3 F4 H4 fr3 := (Nx.refl n5.I).quiet st
                    exact h3 F4 H4 n6 w (.of_val n6.I vo fun o a e1 e2 z => n5.I.ow_live z (vn o a e1 e2)) (New.of fun o a e1 e2 => (n4.trans n5).st.free (vn o a e1 e2))
          | _ => exact h2.elim
theorem s_chain {op op' : CmpOp} {g g' : D → D → Option Val} {a b c : Expr} {fa fb fc : Fm → Out Opn} (L : Lift2 X G (compareOp op) g) (L' : Lift2 X G (compareOp op') g') (ha : SE X G B W a fa) (hb : SE X G B W b fb) (hc : SE X G B W c fc)
    (hm : lastMarks [op, op'] [b, c] = false := by with_unfolding_all rfl) : SE X G B W (.Compare a [op, op'] [b, c] pos) (sChain g g' fa fb fc) := by
  obtain ⟨r, ho, hr⟩ := L
  obtain ⟨r', ho', hr'⟩ := L'
  exact PE.of (pe_chain ho ho' ha hb hc (hm := hm)) fun σ H Q h => chain_ok (op := op) (op' := op') hr hr' h
theorem s_chainT {op op' : CmpOp} {g g' : D → D → Option Val} {a b c : Expr} {fa fb fc : Fm → Out Opn} (L : Lift2 X G (compareOp op) g) (L' : Lift2 X G (compareOp op') g') (ha : SE X G B W a fa) (hb : SE X G B W b fb) (hc : SE X G B W c fc)
    (hm : lastMarks [op, op'] [b, c] = false := by with_unfolding_all rfl) : ST X G B W (.Compare a [op, op'] [b, c] pos) (sTst (sChain g g' fa fb fc)) := by
  obtain ⟨r, ho, hr⟩ := L
  obtain ⟨r', ho', hr'⟩ := L'
  exact PT.of (pt_chain ho ho' ha hb hc (hm := hm)) fun σ H Q h => chain_ok (op := op) (op' := op') hr hr' (tst_ok h)
/-! ### truth, and, or, not, if -/
def truD : D → Option Bool
  | .non => some false
  | .bl b => some b
  | .int i => some (i != 0)
  | .str y => if y.length ≤ sizeLine then some ((y.length : Int) != 0) else none
  | .tup xs => some (!xs.isEmpty)
  | .lst xs => some (!xs.isEmpty)
  | _ => none
theorem isEmpty_reps {ds : List D} {vs : List V} (r : Reps G F H ds vs) : ds.isEmpty = vs.isEmpty := by
  have := r.len
  cases ds <;> cases vs <;> simp_all
theorem tru_of {d : D} {v : V} {b : Bool} (r : RRep G F H d v) (e : truD d = some b) : TruV G.K v H b := by
  cases d with
  | non => unfold RRep Rep at r; subst r; cases e; rfl
  | bl c => unfold RRep Rep at r; subst r; cases e; rfl
  | int i => unfold RRep Rep at r; subst r; cases e; rfl
  | str y =>
    unfold RRep Rep at r; subst r
    by_cases h : y.length ≤ sizeLine
    · simp only [truD, if_pos h] at e; cases e; exact ⟨h, rfl⟩
    · simp only [truD, if_neg h] at e; cases e
  | tup xs => unfold RRep Rep at r; obtain ⟨a, vs, rfl, q, rs⟩ := r; cases e; exact .inr (.inl ⟨vs, .of q, by rw [isEmpty_reps rs]⟩)
  | lst xs => obtain ⟨a, vs, rfl, q, rs⟩ := r; cases e; exact .inl ⟨vs, .of q, by rw [isEmpty_reps rs]⟩
  | _ => cases e
def sTru (f : Fm → Out Opn) : Fm → Out Bool := fun fr => (f fr).bind fun p fr1 => match (cont fr1 p).bind truD with
  | some b => .ok b fr1
  | _ => .bad
theorem s_tru {a : Expr} {f : Fm → Out Opn} (hK : X.K = G.K) (ha : SE X G B W a f) (he : ∀ whole, isTrue a X.env whole = (do let v ← whole; standAt a.pos; holding [v] (truthy v)) := by intro _; rfl) : ST X G B W a (sTru f) := by
  refine PT.of (pt_truth ha he) fun σ H Q ⟨F, fr, I, h⟩ => ?_
  refine ⟨F, fr, I, h.of_bind.imp fun p fr1 F1 H1 n1 ⟨_, h1⟩ x ox nx => ?_⟩
  cases ep : cont fr1 p with
  | none => rw [ep] at h1; exact h1.elim
  | some d =>
    cases et : truD d with
    | none => simp only [ep, Option.bind_some, et] at h1; exact h1.elim
    | some b =>
      simp only [ep, Option.bind_some, et] at h1
      exact ⟨b, by rw [hK]; exact tru_of (cont_ok n1.I ox ep) et, h1 F1 H1 (.refl n1.I)⟩
def sAnd (f g : Fm → Out Bool) : Fm → Out Bool := fun fr => (f fr).bind fun b fr1 => match b with
  | true => g fr1
  | false => .ok false fr1
def sOr (f g : Fm → Out Bool) : Fm → Out Bool := fun fr => (f fr).bind fun b fr1 => match b with
  | true => .ok true fr1
  | false => g fr1
def sNot (f : Fm → Out Bool) : Fm → Out Bool := fun fr => (f fr).bind fun b fr1 => .ok (!b) fr1
variable {a b : Expr} {rest : List Expr} {f g : Fm → Out Bool}
theorem s_and1 (ha : ST X G B W a f) : SW X G B W (.BoolOp .And [a] pos) f := pw_and1 ha
theorem s_or1 (ha : ST X G B W a f) : SW X G B W (.BoolOp .Or [a] pos) f := pw_or1 ha
theorem s_and (ha : ST X G B W a f) (hb : SW X G B W (.BoolOp .And (b :: rest) pos) g) : SW X G B W (.BoolOp .And (a :: b :: rest) pos) (sAnd f g) := by
  refine PW.of (pw_and ha hb) fun σ H Q ⟨F, fr, I, h⟩ => ?_
  refine ⟨F, fr, I, h.of_bind.imp fun c fr1 F1 H1 n1 ⟨_, h1⟩ => ?_⟩
  cases c with
  | true => exact ⟨F1, fr1, n1.I, h1⟩
  | false => exact h1 F1 H1 (.refl n1.I)
theorem s_or (ha : ST X G B W a f) (hb : SW X G B W (.BoolOp .Or (b :: rest) pos) g) : SW X G B W (.BoolOp .Or (a :: b :: rest) pos) (sOr f g) := by
  refine PW.of (pw_or ha hb) fun σ H Q ⟨F, fr, I, h⟩ => ?_
  refine ⟨F, fr, I, h.of_bind.imp fun c fr1 F1 H1 n1 ⟨_, h1⟩ => ?_⟩
  cases c with
  | true => exact h1 F1 H1 (.refl n1.I)
  | false => exact ⟨F1, fr1, n1.I, h1⟩
theorem s_not (ha : ST X G B W a f) : ST X G B W (.UnaryOp .Not a pos) (sNot f) := by
  refine PT.of (pt_not ha) fun σ H Q ⟨F, fr, I, h⟩ => ?_
  exact ⟨F, fr, I, h.of_bind.imp fun c fr1 F1 H1 n1 ⟨_, h1⟩ => h1 F1 H1 (.refl n1.I)⟩
/-! as values -/
def sAndV (f g : Fm → Out Opn) : Fm → Out Opn := fun fr => (sTst f fr).bind fun b fr1 => match b with
  | true => g fr1
  | false => .ok (.vl (.fz (.bl false))) fr1
def sOrV (f g : Fm → Out Opn) : Fm → Out Opn := fun fr => (sTst f fr).bind fun b fr1 => match b with
  | true => .ok (.vl (.fz (.bl true))) fr1
  | false => g fr1
def sNotV (f : Fm → Out Opn) : Fm → Out Opn := fun fr => (sTst f fr).bind fun b fr1 => .ok (.vl (.fz (.bl (!b)))) fr1
variable {fa fb : Fm → Out Opn}
theorem New.up {p : Opn} {v : V} (n : New H1 p v) (st : Step F H S F1 H1) : New H p v := by
  cases p with
  | sl i => trivial
  | vl w =>
    cases w with
    | fz d => trivial
    | own o => exact fun a e => st.free (n a e)
theorem s_oneV {op} (ha : SE X G B W a fa) : SE X G B W (.BoolOp op [a] pos) fa := pe_one ha
theorem s_andV (ha : SE X G B W a fa) (hb : SE X G B W (.BoolOp .And (b :: rest) pos) fb) : SE X G B W (.BoolOp .And (a :: b :: rest) pos) (sAndV fa fb) := by
  refine PE.of (pe_and ha hb) fun σ H Q ⟨F, fr, I, h⟩ => ?_
  refine tst_ok ⟨F, fr, I, h.of_bind.imp fun c fr1 F1 H1 n1 ⟨_, h1⟩ => ?_⟩
  cases c with
  | true => exact (if_pos rfl).mpr ⟨F1, fr1, n1.I, h1.imp fun p fr' F' H' n hq v o nw => hq v o (nw.up n1.st)⟩
  | false => exact (if_neg (by decide)).mpr (h1 F1 H1 (.refl n1.I) _ (by show Rep _ _ _ _ _; unfold Rep; rfl) trivial)
theorem s_orV (ha : SE X G B W a fa) (hb : SE X G B W (.BoolOp .Or (b :: rest) pos) fb) : SE X G B W (.BoolOp .Or (a :: b :: rest) pos) (sOrV fa fb) := by
  refine PE.of (pe_or ha hb) fun σ H Q ⟨F, fr, I, h⟩ => ?_
  refine tst_ok ⟨F, fr, I, h.of_bind.imp fun c fr1 F1 H1 n1 ⟨_, h1⟩ => ?_⟩
  cases c with
  | true => exact (if_pos rfl).mpr (h1 F1 H1 (.refl n1.I) _ (by show Rep _ _ _ _ _; unfold Rep; rfl) trivial)
  | false => exact (if_neg (by decide)).mpr ⟨F1, fr1, n1.I, h1.imp fun p fr' F' H' n hq v o nw => hq v o (nw.up n1.st)⟩
theorem s_notV (ha : SE X G B W a fa) : SE X G B W (.UnaryOp .Not a pos) (sNotV fa) := by
  refine PE.of (pe_not ha) fun σ H Q ⟨F, fr, I, h⟩ => ?_
  refine tst_ok ⟨F, fr, I, h.of_bind.imp fun c fr1 F1 H1 n1 ⟨_, h1⟩ => ?_⟩
  exact h1 F1 H1 (.refl n1.I) _ (by show Rep _ _ _ _ _; unfold Rep; rfl) trivial
def sIf (c : Fm → Out Bool) (f g : Fm → Out Opn) : Fm → Out Opn := fun fr => (c fr).bind fun b fr1 => match b with
  | true => f fr1
  | false => g fr1
theorem s_ifE {c : Expr} {fc : Fm → Out Bool} (hc : ST X G B W c fc) (ha : SE X G B W a fa) (hb : SE X G B W b fb) : SE X G B W (.IfExp c a b pos) (sIf fc fa fb) := by
  refine PE.of (pe_ifExp hc ha hb) fun σ H Q ⟨F, fr, I, h⟩ => ?_
  refine ⟨F, fr, I, h.of_bind.imp fun c fr1 F1 H1 n1 ⟨_, h1⟩ => ?_⟩
  cases c with
  | true => exact (if_pos rfl).mpr ⟨F1, fr1, n1.I, h1.imp fun p fr' F' H' n hq v o nw => hq v o (nw.up n1.st)⟩
  | false => exact (if_neg (by decide)).mpr ⟨F1, fr1, n1.I, h1.imp fun p fr' F' H' n hq v o nw => hq v o (nw.up n1.st)⟩
end
end MP
set_option Elab.async false
set_option linter.all false
set_option maxRecDepth 100000
set_option maxHeartbeats 400000
/-! MP2: argument lists, giving up what is owned, displays, calls. -/
namespace MP
open PySem PySem.Spec L2
section
variable {G : Gx} {B : Bx} {σ : St} {F F0 F1 F2 F' : Addr → Prop} {H H0 H1 H2 H' : Hp} {fr fr0 fr1 fr2 fr' : Fm} {W : WX} {S : Addr → Prop} {X : Cx} {pos : Pos}
/-! ### argument lists -/
theorem Tmp.cons {p : Opn} {ps : List Opn} {v : V} {vs : List V} {a : Addr} (h : Tmp (p :: ps) (v :: vs) a) : (∃ o, p = .vl (.own o) ∧ v = .ref a) ∨ Tmp ps vs a := by
  obtain ⟨i, o, e1, e2⟩ := h
  cases i with
  | zero => simp at e1 e2; exact .inl ⟨o, e1, e2⟩
  | succ i => exact .inr ⟨i, o, by simpa using e1, by simpa using e2⟩
def sNil : Fm → Out (List Opn) := fun fr => .ok [] fr
def sCons (f : Fm → Out Opn) (g : Fm → Out (List Opn)) : Fm → Out (List Opn) := fun fr => (f fr).bind fun p fr1 => (g fr1).bind fun ps fr2 => .ok (p :: ps) fr2
theorem sa_nil : SA X G B W [] sNil := PA.of pa_nil fun σ H Q ⟨F, fr, I, h⟩ => h F H (.refl I) [] rfl fun a ⟨i, o, e, _⟩ => by simp at e
theorem sa_cons {e : Expr} {es : List Expr} {f : Fm → Out Opn} {g : Fm → Out (List Opn)} (ha : SE X G B W e f) (hr : SA X G B W es g) (hs : starEach (e :: es) X.env = (false, eval e X.env) :: starEach es X.env := by rfl) : SA X G B W (e :: es) (sCons f g) := by
  refine PA.of (pa_cons ha hr hs) fun σ H Q ⟨F, fr, I, h⟩ => ?_
  refine ⟨F, fr, I, h.of_bind.imp fun p fr1 F1 H1 n1 ⟨_, h1⟩ x ox nx => ?_⟩
  refine ⟨F1, fr1, n1.I, h1.of_bind.imp fun ps fr2 F2 H2 n2 ⟨_, h2⟩ xs oxs nxs => ?_⟩
  have ox2 : OpnOk G F2 H2 fr2 σ p x := ox.step n1.I n2.st n2.sub
  refine h2 F2 H2 (.refl n2.I) (x :: xs) ⟨x, xs, rfl, ox2, oxs, fun o a e1 e2 t => ?_⟩ fun a t => ?_
  · subst e1 e2
    obtain ⟨b, z, w, _, _⟩ := ox
    cases z
    exact w.there (nxs a t)
  · rcases t.cons with ⟨o, e1, e2⟩ | t
    · subst e1 e2; exact nx a rfl
    · exact n1.st.free (nxs a t)
/-! ### giving up -/
def frz (fr : Fm) : Opn → Option (D × Fm)
  | .sl i => match fr[i]? with
    | some (.fz d) => some (d, fr)
    | some (.own o) => some (o.view, fr.set i (.fz o.view))
    | _ => none
  | .vl v => some (v.view, fr)
def frzs : Fm → List Opn → Option (List D × Fm)
  | fr, [] => some ([], fr)
  | fr, p :: ps => match frz fr p with
    | some (d, fr1) => match frzs fr1 ps with
      | some (ds, fr2) => some (d :: ds, fr2)
      | none => none
    | none => none
/-- the frame, where an address is given up -/
theorem Nx.give (n : Nx G B σ F0 H0 fr0 F H fr) {a : Addr} (hn : H0 a = none) (hl : H a ≠ none) (ho : ¬ Ow fr σ a) : Nx G B σ F0 H0 fr0 (fun b => F b ∨ b = a) H fr := by
  have lf : ∀ b, F b ∨ b = a → F b ∨ H b ≠ none := fun b e => e.elim .inl fun z => .inr (z ▸ hl)
  refine ⟨⟨n.I.len, fun i s t e1 e2 => ?_, n.I.dj, n.I.bor, n.I.brw, fun b e => (lf b e).elim (n.I.fl b) id⟩, ⟨⟨n.st.keep, n.st.tups, fun b e => .inl (n.st.mono b e)⟩, n.st.live, fun b e => ?_, fun b e => ?_⟩, n.sub⟩
  · have k := n.I.ok i s t e1 e2
    cases s with
    | non => trivial
    | fz d => obtain ⟨v, e, r⟩ := k; exact ⟨v, e, Rep.up (fun _ z => .inl z) r⟩
    | own o =>
      obtain ⟨b, e, r, f⟩ := k
      subst e
      have nb : b ≠ a := fun y => ho (y ▸ ⟨i, ⟨o, .inl e1⟩, e2⟩)
      exact ⟨b, rfl, r.up fun _ z => .inl z, fun y => y.elim f nb⟩
    | bor o =>
      obtain ⟨b, e, r, f⟩ := k
      subst e
      have nb : b ≠ a := fun y => ho (y ▸ ⟨i, ⟨o, .inr e1⟩, e2⟩)
      exact ⟨b, rfl, r.up fun _ z => .inl z, fun y => y.elim f nb⟩
    | exn c fs => obtain ⟨b, d, z1, z2, r⟩ := k; exact ⟨b, d, z1, z2, r.step (S := fun _ => False) (kp_up fun _ z => .inl z) (fun _ _ z => z)⟩
  · rcases e with e | e
    · exact n.st.newF b e
    · exact .inr (.inr (e ▸ hn))
  · rcases e with e | e
    · exact n.st.lf b e
    · exact .inr (e ▸ hl)
theorem getset {fr : Fm} {i j : Nat} {s t : Sl} (h : (fr.set i s)[j]? = some t) : (j = i ∧ t = s ∧ i < fr.length) ∨ (j ≠ i ∧ fr[j]? = some t) := by
  by_cases e : i = j
  · subst e
    rw [List.getElem?_set_self'] at h
    cases q : fr[i]? with
    | none => rw [q] at h; cases h
    | some z => rw [q] at h; simp at h; exact .inl ⟨rfl, h.symm, (List.getElem?_eq_some_iff.mp q).1⟩
  · rw [List.getElem?_set_ne e] at h
    exact .inr ⟨fun z => e z.symm, h⟩
theorem own_set {fr : Fm} {i j : Nat} {d : D} (h : Own (fr.set i (.fz d)) j) : j ≠ i ∧ Own fr j := by
  obtain ⟨o, h⟩ := h
  rcases h with h | h
  · rcases getset h with ⟨_, e, _⟩ | ⟨n, e⟩
    · cases e
    · exact ⟨n, o, .inl e⟩
  · rcases getset h with ⟨_, e, _⟩ | ⟨n, e⟩
    · cases e
    · exact ⟨n, o, .inr e⟩
theorem frz_ok {p : Opn} {v : V} {d : D} (n : Nx G B σ F0 H0 fr0 F H fr) (o : OpnOk G F H fr σ p v) (nw : New H0 p v) (e : frz fr p = some (d, fr')) :
    ∃ F', Nx G B σ F0 H0 fr0 F' H fr' ∧ Rep G F' H d v ∧ (∀ b, F b → F' b) ∧ (∀ b, F' b → F b ∨ Ow fr σ b ∨ ∃ o, p = .vl (.own o) ∧ v = .ref b) ∧ (∀ b, Ow fr' σ b → Ow fr σ b) := by
  cases p with
  | vl w =>
    cases e
    cases w with
    | fz c => exact ⟨F, n, o, fun _ e => e, fun _ e => .inl e, fun _ e => e⟩
    | own c =>
      obtain ⟨a, z, r, f, w⟩ := o
      subst z
      exact ⟨fun b => F b ∨ b = a, n.give (nw a rfl) r.there w, r.frozen (S := fun _ => False) (kp_up fun _ z => .inl z) (fun _ _ z => z) (.inr rfl), fun _ e => .inl e, fun b e => e.elim .inl fun z => .inr (.inr ⟨c, rfl, by rw [z]⟩), fun _ e => e⟩
  | sl i =>
    have o' : σ[i]? = some (some v) := o
    cases q : fr[i]? with
    | none => simp [frz, q] at e
    | some s =>
      have k := n.I.ok i s _ q o'
      cases s with
      | non => simp [frz, q] at e
      | fz c => simp only [frz, q] at e; cases e; obtain ⟨w, z, r⟩ := k; cases z; exact ⟨F, n, r, fun _ e => e, fun _ e => .inl e, fun _ e => e⟩
      | bor c => simp [frz, q] at e
      | exn c fs => simp [frz, q] at e
      | own c =>
        simp only [frz, q] at e
        cases e
        obtain ⟨a, z, r, f⟩ := k
        cases z
        have ow : Ow fr σ a := ⟨i, ⟨c, .inl q⟩, o'⟩
        have rp : Rep G (fun b => F b ∨ b = a) H c.view (.ref a) := r.frozen (S := fun _ => False) (kp_up fun _ z => .inl z) (fun _ _ z => z) (.inr rfl)
        have lf : ∀ b, F b ∨ b = a → F b ∨ H b ≠ none := fun b e => e.elim .inl fun z => .inr (z ▸ r.there)
        have sub : ∀ b, Ow (fr.set i (.fz c.view)) σ b → Ow fr σ b := fun b ⟨j, hj, ej⟩ => ⟨j, (own_set hj).2, ej⟩
        refine ⟨fun b => F b ∨ b = a, ⟨⟨by rw [List.length_set]; exact n.I.len, fun j s t e1 e2 => ?_, fun j l b h1 h2 e1 e2 => n.I.dj j l b (own_set h1).2 (own_set h2).2 e1 e2, fun j o e1 => ?_, fun j w e1 => ?_, fun b e => (lf b e).elim (n.I.fl b) id⟩, ⟨⟨n.st.keep, n.st.tups, fun b e => .inl (n.st.mono b e)⟩, n.st.live, fun b e => ?_, fun b e => ?_⟩, fun b h => n.sub b (sub b h)⟩, rp, fun _ e => .inl e, fun b e => e.elim .inl fun z => .inr (.inl (z ▸ ow)), sub⟩
        · rcases getset e1 with ⟨rfl, rfl, _⟩ | ⟨nj, e1⟩
          · rw [o'] at e2; cases e2; exact ⟨_, rfl, rp⟩
          · have k := n.I.ok j s t e1 e2
            cases s with
            | non => trivial
            | fz d => obtain ⟨v, e, r⟩ := k; exact ⟨v, e, Rep.up (fun _ z => .inl z) r⟩
            | own o =>
              obtain ⟨b, e, r, g⟩ := k
              subst e
              have nb : b ≠ a := fun y => nj (n.I.dj j i a ⟨o, .inl e1⟩ ⟨c, .inl q⟩ (y ▸ e2) o')
              exact ⟨b, rfl, r.up fun _ z => .inl z, fun y => y.elim g nb⟩
            | bor o =>
              obtain ⟨b, e, r, g⟩ := k
              subst e
              have nb : b ≠ a := fun y => nj (n.I.dj j i a ⟨o, .inr e1⟩ ⟨c, .inl q⟩ (y ▸ e2) o')
              exact ⟨b, rfl, r.up fun _ z => .inl z, fun y => y.elim g nb⟩
            | exn c fs => obtain ⟨b, d, z1, z2, r⟩ := k; exact ⟨b, d, z1, z2, r.step (S := fun _ => False) (kp_up fun _ z => .inl z) (fun _ _ z => z)⟩
        · rcases getset e1 with ⟨_, e, _⟩ | ⟨nj, e1⟩
          · cases e
          · exact n.I.bor j o e1
        · obtain ⟨o, h⟩ := n.I.brw j w e1
          refine ⟨o, ?_⟩
          rw [List.getElem?_set_ne]
          · exact h
          · intro y; subst y; rw [q] at h; cases h
        · rcases e with e | e
          · exact n.st.newF b e
          · exact .inr (.inl (e ▸ n.sub a ow))
        · rcases e with e | e
          · exact n.st.lf b e
          · exact .inr (e ▸ r.there)
theorem OpnsOk.tmp : ∀ {ps : List Opn} {vs : List V} {a : Addr}, OpnsOk G F H fr σ ps vs → Tmp ps vs a → ¬ F a ∧ ¬ Ow fr σ a
  | [], vs, a, h, ⟨i, o, x, _⟩ => by simp at x
  | p :: ps, vs, a, h, t => by
    obtain ⟨u, us, rfl, oq, oqs, dq⟩ := h
    rcases t.cons with ⟨o, e1, e2⟩ | t
    · subst e1 e2
      obtain ⟨b, z, _, f, w⟩ := oq
      cases z
      exact ⟨f, w⟩
    · exact OpnsOk.tmp oqs t
theorem frzs_ok : ∀ {ps : List Opn} {vs : List V} {ds : List D} {F : Addr → Prop} {fr fr' : Fm}, Nx G B σ F0 H0 fr0 F H fr → OpnsOk G F H fr σ ps vs → (∀ a, Tmp ps vs a → H0 a = none) → frzs fr ps = some (ds, fr') →
    ∃ F', Nx G B σ F0 H0 fr0 F' H fr' ∧ Reps G F' H ds vs ∧ (∀ b, F b → F' b)
  | [], vs, ds, F, fr, fr', n, o, nw, e => by
    cases e
    have : vs = [] := o
    subst this
    exact ⟨F, n, Reps.nil, fun _ e => e⟩
  | p :: ps, vs, ds, F, fr, fr', n, o, nw, e => by
    obtain ⟨v, ws, rfl, op, os, dj⟩ := o
    unfold frzs at e
    cases e1 : frz fr p with
    | none => simp [e1] at e
    | some q =>
      obtain ⟨d, fr1⟩ := q
      simp only [e1] at e
      cases e2 : frzs fr1 ps with
      | none => simp [e2] at e
      | some q =>
        obtain ⟨es, fr2⟩ := q
        simp only [e2] at e
        cases e
        have nw1 : New H0 p v := by
          cases p with
          | sl i => trivial
          | vl w =>
            cases w with
            | fz c => trivial
            | own c => exact fun a e => nw a ⟨0, c, rfl, by rw [e]; rfl⟩
        obtain ⟨F1, n1, r1, up1, in1, sub1⟩ := frz_ok n op nw1 e1
        have os1 : OpnsOk G F1 H fr1 σ ps ws := by
          have key : ∀ (qs : List Opn) (us : List V), OpnsOk G F H fr σ qs us → (∀ a, Tmp qs us a → ¬ F1 a) → OpnsOk G F1 H fr1 σ qs us := by
            intro qs
            induction qs with
            | nil => intro us h _; exact h
            | cons q qs ih =>
              intro us h hn
              obtain ⟨u, us', rfl, oq, oqs, dq⟩ := h
              refine ⟨u, us', rfl, ?_, ih us' oqs fun a ⟨i, o, x, y⟩ => hn a ⟨i + 1, o, by simpa using x, by simpa using y⟩, dq⟩
              cases q with
              | sl i => exact oq
              | vl w =>
                cases w with
                | fz c => exact Rep.up up1 oq
                | own c =>
                  obtain ⟨a, z, r, f, w⟩ := oq
                  subst z
                  exact ⟨a, rfl, r.up up1, hn a ⟨0, c, rfl, rfl⟩, fun y => w (sub1 a y)⟩
          refine key ps ws os fun a t f => ?_
          obtain ⟨t1, t2⟩ := os.tmp t
          rcases in1 a f with z | z | ⟨o, z1, z2⟩
          · exact t1 z
          · exact t2 z
          · exact dj o a z1 z2 t
        obtain ⟨F2, n2, r2, up2⟩ := frzs_ok (ps := ps) n1 os1 (fun a ⟨i, o, x, y⟩ => nw a ⟨i + 1, o, by simpa using x, by simpa using y⟩) e2
        exact ⟨F2, n2, Reps.cons (Rep.up up2 r1) r2, fun b e => up2 b (up1 b e)⟩
end
end MP
set_option Elab.async false
set_option linter.all false
set_option maxRecDepth 100000
set_option maxHeartbeats 400000
/-! MP3: displays, built-in calls, subscripts, attributes, methods. -/
namespace MP
open PySem PySem.Spec L2
section
variable {G : Gx} {B : Bx} {σ : St} {F F0 F1 F2 F' : Addr → Prop} {H H0 H1 H2 H' : Hp} {fr fr0 fr1 fr2 fr' : Fm} {W : WX} {S : Addr → Prop} {X : Cx} {pos : Pos}
theorem Aft.bind0 {α β : Type} {o : Out α} {k : α → Fm → Out β} {post : β → Fm → (Addr → Prop) → Hp → Prop} (h : Aft G B W σ F H fr (o.bind k) post) :
    Aft G B W σ F H fr o fun a fr1 F1 H1 => Nx G B σ F H fr F1 H1 fr1 ∧ Aft G B W σ F H fr (k a fr1) post := by
  cases o with
  | ok a fr1 => exact fun F1 H1 n1 => ⟨n1, h⟩
  | exc x fr1 => exact h
  | bad => exact h
/-- one computation behind another -/
theorem Aft.next {α β : Type} {o : Out α} {k : α → Fm → Out β} {post : β → Fm → (Addr → Prop) → Hp → Prop} (n1 : Nx G B σ F H fr F1 H1 fr1) (h : Aft G B W σ F H fr (o.bind k) post) :
    Aft G B W σ F1 H1 fr1 o fun a fr2 F2 H2 => Nx G B σ F H fr F2 H2 fr2 ∧ Nx G B σ F1 H1 fr1 F2 H2 fr2 ∧ Aft G B W σ F H fr (k a fr2) post := by
  cases o with
  | ok a fr2 => exact fun F2 H2 n2 => ⟨n1.trans n2, n2, h⟩
  | exc x fr2 => exact fun F2 H2 c d n2 => h F2 H2 c d (n1.trans n2)
  | bad => exact h
/-- the wish for an expression's value -/
abbrev EPost (G : Gx) (σ : St) (H : Hp) (Q : VK) : Opn → Fm → (Addr → Prop) → Hp → Prop := fun p fr' F' H' => ∀ v, OpnOk G F' H' fr' σ p v → New H p v → Q v H'
/-- what is handed on by a value that a quiet step has made -/
theorem Nx.val (n : Nx G B σ F0 H0 fr0 F H fr) {v : Val} {w : V} {Q : VK} (st : Step F H (fun _ => False) F' H') (vo : VOk G F' H' v w) (vn : VNew H v w)
    (h : Aft G B W σ F0 H0 fr0 (.ok (.vl v) fr) (EPost G σ H0 Q)) : Q w H' := by
  have n3 := n.quiet st
  exact h F' H' n3 w (.of_val n3.I vo fun o a e1 e2 z => n.I.ow_live z (vn o a e1 e2)) (New.of fun o a e1 e2 => n.st.free (vn o a e1 e2))
/-! ### displays -/
def sTup (f : Fm → Out (List Opn)) : Fm → Out Opn := fun fr => (f fr).bind fun ps fr1 => match frzs fr1 ps with
  | some (ds, fr2) => if ds.length ≤ sizeLine then .ok (.vl (.fz (.tup ds))) fr2 else .bad
  | none => .bad
def sLst (f : Fm → Out (List Opn)) : Fm → Out Opn := fun fr => (f fr).bind fun ps fr1 => match frzs fr1 ps with
  | some (ds, fr2) => if ds.length ≤ sizeLine then .ok (.vl (.own (.lst ds))) fr2 else .bad
  | none => .bad
theorem Reps.new {vs : List V} {ds : List D} {p : Addr} {o : HO} (hp : H p = none) (r : Reps G F H ds vs) : Reps G F (upd H p o) ds vs := Reps.step (step_new (F := F) hp).toKp (fun _ _ z => z) _ _ r
theorem new_tup {vs : List V} {ds : List D} {p : Addr} (hp : H p = none) (r : Reps G F H ds vs) : VOk G F (upd H p (.tup vs)) (.fz (.tup ds)) (.ref p) := by
  show Rep _ _ _ _ _
  unfold Rep
  exact ⟨p, vs, rfl, upd_same, r.new hp⟩
theorem new_lst {vs : List V} {ds : List D} {p : Addr} (hp : H p = none) (fl : ∀ a, F a → H a ≠ none) (r : Reps G F H ds vs) : VOk G F (upd H p (.lst vs)) (.own (.lst ds)) (.ref p) :=
  ⟨p, rfl, ⟨vs, upd_same, r.new hp⟩, fun z => fl p z hp⟩
theorem vnew_own {o : O} {p : Addr} (hp : H p = none) : VNew H (.own o) (.ref p) := fun o a _ e => by cases e; exact hp
theorem vnew_fz {d : D} {w : V} : VNew H (.fz d) w := fun o a e _ => nomatch e
theorem s_tup {es : List Expr} {f : Fm → Out (List Opn)} {k} (h : SA X G B W es f) : SE X G B W (.Tuple es k pos) (sTup f) := by
  refine PE.of (pe_tup h) fun σ H Q ⟨F, fr, I, h⟩ => ?_
  refine ⟨F, fr, I, h.bind0.imp fun ps fr1 F1 H1 _ ⟨n1, h1⟩ vs os nw => ?_⟩
  cases ef : frzs fr1 ps with
  | none => rw [ef] at h1; exact h1.elim
  | some q =>
    obtain ⟨ds, fr2⟩ := q
    simp only [ef] at h1
    obtain ⟨F2, n2, r2, up2⟩ := frzs_ok n1 os nw ef
    by_cases hz : ds.length ≤ sizeLine
    · rw [if_pos hz] at h1
      exact ⟨by rw [← r2.len]; exact hz, fun p hp => n2.val (step_new hp) (new_tup hp r2) vnew_fz h1⟩
    · rw [if_neg hz] at h1; exact h1.elim
theorem s_lst {es : List Expr} {f : Fm → Out (List Opn)} (h : SA X G B W es f) : SE X G B W (.List es pos) (sLst f) := by
  refine PE.of (pe_lst h) fun σ H Q ⟨F, fr, I, h⟩ => ?_
  refine ⟨F, fr, I, h.bind0.imp fun ps fr1 F1 H1 _ ⟨n1, h1⟩ vs os nw => ?_⟩
  cases ef : frzs fr1 ps with
  | none => rw [ef] at h1; exact h1.elim
  | some q =>
    obtain ⟨ds, fr2⟩ := q
    simp only [ef] at h1
    obtain ⟨F2, n2, r2, up2⟩ := frzs_ok n1 os nw ef
    by_cases hz : ds.length ≤ sizeLine
    · rw [if_pos hz] at h1
      exact ⟨by rw [← r2.len]; exact hz, fun p hp => n2.val (step_new hp) (new_lst hp n2.I.fl r2) (vnew_own hp) h1⟩
    · rw [if_neg hz] at h1; exact h1.elim
/-! ### calls of built-in functions -/
def RReps (G : Gx) (F : Addr → Prop) (H : Hp) : List D → List V → Prop
  | [], vs => vs = []
  | d :: ds, vs => ∃ v ws, vs = v :: ws ∧ RRep G F H d v ∧ RReps G F H ds ws
def conts (fr : Fm) : List Opn → Option (List D)
  | [] => some []
  | p :: ps => match cont fr p, conts fr ps with
    | some d, some ds => some (d :: ds)
    | _, _ => none
theorem conts_ok (I : SI G F H B fr σ) : ∀ {ps : List Opn} {vs : List V} {ds : List D}, OpnsOk G F H fr σ ps vs → conts fr ps = some ds → RReps G F H ds vs
  | [], vs, ds, o, e => by cases e; exact o
  | p :: ps, vs, ds, o, e => by
    obtain ⟨v, ws, rfl, op, os, _⟩ := o
    unfold conts at e
    cases e1 : cont fr p with
    | none => simp [e1] at e
    | some d =>
      cases e2 : conts fr ps with
      | none => simp [e1, e2] at e
      | some es =>
        simp only [e1, e2] at e
        cases e
        exact ⟨v, ws, rfl, cont_ok I op e1, conts_ok I os e2⟩
def LiftC (X : Cx) (G : Gx) (f : Value) (g : List D → Option Val) : Prop := ∃ r : List V → Hp → VK → Prop, CallR X f r ∧
  ∀ (F : Addr → Prop) (H : Hp) (ds : List D) (vs : List V) (u : Val) (Q : VK), (∀ a, F a → H a ≠ none) → RReps G F H ds vs → g ds = some u → (∀ F' H' w, Step F H (fun _ => False) F' H' → VOk G F' H' u w → VNew H u w → Q w H') → r vs H Q
def sB (g : List D → Option Val) (f : Fm → Out (List Opn)) : Fm → Out Opn := fun fr => (f fr).bind fun ps fr1 => match conts fr1 ps with
  | some ds => match g ds with
    | some u => .ok (.vl u) fr1
    | none => .bad
  | none => .bad
theorem b_ok {g : List D → Option Val} {f : Fm → Out (List Opn)} {R : List V → Hp → Prop} {Q : VK} (h : tE G B W (sB g f) σ H Q)
    (k : ∀ F1 H1 ds vs u, (∀ a, F1 a → H1 a ≠ none) → RReps G F1 H1 ds vs → g ds = some u → (∀ F' H' w, Step F1 H1 (fun _ => False) F' H' → VOk G F' H' u w → VNew H1 u w → Q w H') → R vs H1) :
    tA G B W f σ H fun vs H1 => R vs H1 := by
  obtain ⟨F, fr, I, h⟩ := h
  refine ⟨F, fr, I, h.bind0.imp fun ps fr1 F1 H1 _ ⟨n1, h1⟩ vs os nw => ?_⟩
  cases ep : conts fr1 ps with
  | none => rw [ep] at h1; exact h1.elim
  | some ds =>
    simp only [ep] at h1
    cases eg : g ds with
    | none => rw [eg] at h1; exact h1.elim
    | some u =>
      simp only [eg] at h1
      exact k F1 H1 ds vs u n1.I.fl (conts_ok n1.I os ep) eg fun F' H' w st vo vn => n1.val st vo vn h1
theorem s_callB {x : Str} {id : String} {p : Pos} {e : Expr} {es : List Expr} {g : List D → Option Val} {f : Fm → Out (List Opn)} (L : LiftC X G (.builtin id) g) (hg : Gl X x) (hm : X.mg x = none) (hv : bootBuiltins x = some (.builtin id)) (ha : SA X G B W (e :: es) f)
    (hn : x ≠ "__name__" := by decide) (hdb : (x == ("__debug__" : Str)) = false := by decide)
    (he : starEach (e :: es) X.env = (false, eval e X.env) :: starEach es X.env := by rfl) (hpl : (backTo pos (starEach es X.env)).any (·.1) = false := by rfl) : SE X G B W (.Call (.Name x p) (e :: es) [] pos) (sB g f) := by
  obtain ⟨r, hc, hr⟩ := L
  exact PE.of (pe_callB hc hg hm hv ha hn hdb he hpl) fun σ H Q h => b_ok h fun F1 H1 ds vs u fl rd eg k => hr F1 H1 ds vs u Q fl rd eg k
theorem s_callTy {x : Str} {T : String} {p : Pos} {e : Expr} {es : List Expr} {g : List D → Option Val} {f : Fm → Out (List Opn)} (L : LiftC X G (.type T) g) (hg : Gl X x) (hm : X.mg x = none) (hv : bootBuiltins x = some (.type T)) (ha : SA X G B W (e :: es) f)
    (hn : x ≠ "__name__" := by decide) (hdb : (x == ("__debug__" : Str)) = false := by decide)
    (he : starEach (e :: es) X.env = (false, eval e X.env) :: starEach es X.env := by rfl) (hpl : (backTo pos (starEach es X.env)).any (·.1) = false := by rfl) : SE X G B W (.Call (.Name x p) (e :: es) [] pos) (sB g f) := by
  obtain ⟨r, hc, hr⟩ := L
  exact PE.of (pe_callTy hc hg hm hv ha hn hdb he hpl) fun σ H Q h => b_ok h fun F1 H1 ds vs u fl rd eg k => hr F1 H1 ds vs u Q fl rd eg k
/-! ### subscripts -/
def LiftIx (X : Cx) (G : Gx) (g : D → D → Option Val) : Prop := ∃ r : R2, IxR X r ∧
  ∀ (F : Addr → Prop) (H : Hp) (d e : D) (x y : V) (u : Val) (Q : VK), (∀ a, F a → H a ≠ none) → RRep G F H d x → RRep G F H e y → g d e = some u → (∀ F' H' w, Step F H (fun _ => False) F' H' → VOk G F' H' u w → VNew H u w → Q w H') → r x y H Q
theorem s_ix {g : D → D → Option Val} {a b : Expr} {fa fb : Fm → Out Opn} (L : LiftIx X G g) (ha : SE X G B W a fa) (hb : SE X G B W b fb) (hs : PlainIx b := by intro _ _; rfl) : SE X G B W (.Subscript a b pos) (sBin g fa fb) := by
  obtain ⟨r, ho, hr⟩ := L
  exact PE.of (pe_ix ho ha hb hs) fun σ H Q h => bin_ok h fun F1 H1 d e x y u fl rd re eg k => hr F1 H1 d e x y u Q fl rd re eg k
/-- a part of a slice -/
def tP (G : Gx) (B : Bx) (W : WX) (f : Fm → Out (Option Int)) : TO := fun σ H Q => ∃ F fr, SI G F H B fr σ ∧ Aft G B W σ F H fr (f fr) fun o fr' F' H' => Q o H'
abbrev SP' (X : Cx) (G : Gx) (B : Bx) (W : WX) (e : Option Expr) (f : Fm → Out (Option Int)) : Prop := PO X e (tP G B W f)
theorem PO.of {e : Option Expr} {t t' : TO} (h : PO X e t) (k : ∀ σ H Q, t' σ H Q → t σ H Q) : PO X e t' := ⟨fun pins s σ H Q I q => h.run pins s σ H Q I (k _ _ _ q)⟩
def sP0 : Fm → Out (Option Int) := fun fr => .ok none fr
def sP1 (f : Fm → Out Opn) : Fm → Out (Option Int) := fun fr => (f fr).bind fun p fr1 => match cont fr1 p with
  | some (.int i) => .ok (some i) fr1
  | _ => .bad
theorem sp_none : SP' X G B W none sP0 := PO.of po_none fun σ H Q ⟨F, fr, I, h⟩ => h F H (.refl I)
theorem sp_some {e : Expr} {f : Fm → Out Opn} (h : SE X G B W e f) : SP' X G B W (some e) (sP1 f) := by
  refine PO.of (po_some h) fun σ H Q ⟨F, fr, I, h⟩ => ?_
  refine ⟨F, fr, I, h.bind0.imp fun p fr1 F1 H1 _ ⟨n1, h1⟩ x ox nx => ?_⟩
  cases ep : cont fr1 p with
  | none => rw [ep] at h1; exact h1.elim
  | some d =>
    rw [ep] at h1
    have r := cont_ok n1.I ox ep
    cases d with
    | int i => unfold RRep Rep at r; exact ⟨i, r, h1 F1 H1 n1⟩
    | _ => exact h1.elim
def LiftSl (X : Cx) (G : Gx) (g : D → Option Int → Option Int → Option Val) : Prop := ∃ r : V → Option Int → Option Int → Hp → VK → Prop, SlR X r ∧
  ∀ (F : Addr → Prop) (H : Hp) (d : D) (x : V) (lo hi : Option Int) (u : Val) (Q : VK), (∀ a, F a → H a ≠ none) → RRep G F H d x → g d lo hi = some u → (∀ F' H' w, Step F H (fun _ => False) F' H' → VOk G F' H' u w → VNew H u w → Q w H') → r x lo hi H Q
def sSl (g : D → Option Int → Option Int → Option Val) (f : Fm → Out Opn) (fl fh : Fm → Out (Option Int)) : Fm → Out Opn := fun fr => (f fr).bind fun p fr1 => (fl fr1).bind fun lo fr2 => (fh fr2).bind fun hi fr3 =>
  match cont fr3 p with
  | some d => match g d lo hi with
    | some u => .ok (.vl u) fr3
    | none => .bad
  | none => .bad
theorem s_sl {g : D → Option Int → Option Int → Option Val} {e : Expr} {lo hi : Option Expr} {f : Fm → Out Opn} {fl fh : Fm → Out (Option Int)} {p2 : Pos} (L : LiftSl X G g) (he : SE X G B W e f) (hl : SP' X G B W lo fl) (hh : SP' X G B W hi fh) :
    SE X G B W (.Subscript e (.Slice lo hi none p2) pos) (sSl g f fl fh) := by
  obtain ⟨r, hr, k⟩ := L
  refine PE.of (pe_slice hr he hl hh) fun σ H Q ⟨F, fr, I, h⟩ => ?_
  refine ⟨F, fr, I, (h.next (.refl I)).imp fun p fr1 F1 H1 _ ⟨n1, _, h1⟩ x ox nx => ?_⟩
  refine ⟨F1, fr1, n1.I, (h1.next n1).imp fun lo fr2 F2 H2 _ ⟨n2, m2, h2⟩ => ?_⟩
  refine ⟨F2, fr2, n2.I, (h2.next n2).imp fun hi fr3 F3 H3 _ ⟨n3, m3, h3⟩ => ?_⟩
  have ox3 : OpnOk G F3 H3 fr3 σ p x := (ox.step n1.I m2.st m2.sub).step n2.I m3.st m3.sub
  cases ep : cont fr3 p with
  | none => rw [ep] at h3; exact h3.elim
  | some d =>
    simp only [ep] at h3
    cases eg : g d lo hi with
    | none => rw [eg] at h3; exact h3.elim
    | some u =>
      simp only [eg] at h3
      exact k F3 H3 d x lo hi u Q n3.I.fl (cont_ok n3.I ox3 ep) eg fun F' H' w st vo vn => n3.val st vo vn h3
/-- xs[::-1] of a list, of a tuple -/
def sRev (f : Fm → Out Opn) : Fm → Out Opn := fun fr => (f fr).bind fun p fr1 => match cont fr1 p with
  | some (.lst ds) => .ok (.vl (.own (.lst ds.reverse))) fr1
  | _ => .bad
theorem s_revL {e : Expr} {f : Fm → Out Opn} {k : Nat} {p1 p2 p3 : Pos} (he : SE X G B W e f) : SE X G B W (.Subscript e (.Slice none none (some (.UnaryOp .USub (.Constant (.int 1) k p1) p2)) p3) pos) (sRev f) := by
  refine PE.of (pe_revL he) fun σ H Q ⟨F, fr, I, h⟩ => ?_
  refine ⟨F, fr, I, (h.next (.refl I)).imp fun p fr1 F1 H1 _ ⟨n1, _, h1⟩ x ox nx => ?_⟩
  cases ep : cont fr1 p with
  | none => rw [ep] at h1; exact h1.elim
  | some d =>
    rw [ep] at h1
    have r := cont_ok n1.I ox ep
    cases d with
    | lst ds =>
      obtain ⟨a, vs, e, q, rs⟩ := r
      exact ⟨a, vs, e, .of q, fun p hp => n1.val (step_new hp) (new_lst hp n1.I.fl rs.rev) (vnew_own hp) h1⟩
    | _ => exact h1.elim
/-! ### attributes -/
def lookD : List Str → List D → Str → Option D
  | n :: ns, d :: ds, f => if f = n then some d else lookD ns ds f
  | _, _, _ => none
theorem lookup_zip {vs : List V} {f : Str} {d : D} : ∀ {ns : List Str} {ds : List D} {vs : List V}, Reps G F H ds vs → ns.length = vs.length → lookD ns ds f = some d → ∃ v, (ns.zip vs).lookup f = some v ∧ Rep G F H d v
  | [], ds, vs, r, l, e => by unfold lookD at e; cases ds <;> cases e
  | n :: ns, [], vs, r, l, e => by unfold lookD at e; cases e
  | n :: ns, c :: ds, vs, r, l, e => by
    obtain ⟨v, ws, rfl, r1, rs⟩ := r.of_cons
    unfold lookD at e
    by_cases h : f = n
    · rw [if_pos h] at e; cases e
      exact ⟨v, by rw [List.zip_cons_cons, h]; simp, r1⟩
    · rw [if_neg h] at e
      obtain ⟨w, h1, h2⟩ := lookup_zip (vs := vs) rs (by simpa using l) e
      exact ⟨w, by rw [List.zip_cons_cons, List.lookup_cons]; have : (f == n) = false := by simpa using h
                   rw [this]; exact h1, h2⟩
def sFld (cs : List Nat) (f : Str) (fa : Fm → Out Opn) : Fm → Out Opn := fun fr => (fa fr).bind fun p fr1 => match cont fr1 p with
  | some (.ins c ns ds) => if c ∈ cs then match lookD ns ds f with
    | some d => .ok (.vl (.fz d)) fr1
    | none => .bad
    else .bad
  | _ => .bad
theorem s_fld {e : Expr} {f : Str} {fa : Fm → Out Opn} {cs : List Nat} (hK : X.K = G.K) (hA : ∀ c ∈ cs, Cls G.K (G.cl c) ∧ NoAttr G.K (G.cl c) f) (he : SE X G B W e fa) (hb : attributeBase e f X.env (eval e X.env) = eval e X.env := by rfl) :
    SE X G B W (.Attribute e f pos) (sFld cs f fa) := by
  refine PE.of (pe_fld he hb) fun σ H Q ⟨F, fr, I, h⟩ => ?_
  refine ⟨F, fr, I, (h.next (.refl I)).imp fun p fr1 F1 H1 _ ⟨n1, _, h1⟩ x ox nx => ?_⟩
  cases ep : cont fr1 p with
  | none => rw [ep] at h1; exact h1.elim
  | some d =>
    rw [ep] at h1
    have r := cont_ok n1.I ox ep
    cases d with
    | ins c ns ds =>
      obtain ⟨a, dx, vs, e, q, l, rs⟩ := r
      by_cases hc : c ∈ cs
      · simp only [hc, if_true] at h1
        cases el : lookD ns ds f with
        | none => rw [el] at h1; exact h1.elim
        | some d =>
          simp only [el] at h1
          obtain ⟨v, h2, h3⟩ := lookup_zip (vs := vs) rs l el
          obtain ⟨a1, a2⟩ := hA c hc
          exact ⟨a, _, dx, _, v, e, q, by rw [hK]; exact a1, by rw [hK]; exact a2, h2, n1.val (v := .fz d) .refl h3 vnew_fz h1⟩
      · simp only [hc, if_false] at h1; exact h1.elim
    | _ => exact h1.elim
/-! ### methods of built-in types that only read -/
def tyD : String → D → Bool
  | T, .str _ => T == "str"
  | T, .int _ => T == "int"
  | T, .lst _ => T == "list"
  | T, .dic _ _ => T == "dict"
  | _, _ => false
theorem tyV_of {T : String} {d : D} {v : V} (r : RRep G F H d v) (e : tyD T d = true) : tyV G.K T v H := by
  cases d with
  | str x => unfold RRep Rep at r; subst r; exact beq_iff_eq.mp e
  | int x => unfold RRep Rep at r; subst r; exact beq_iff_eq.mp e
  | lst ds => obtain ⟨a, vs, rfl, q, rs⟩ := r; exact .inl ⟨beq_iff_eq.mp e, vs, .of q⟩
  | dic ks ds => obtain ⟨a, vs, rfl, q, rs⟩ := r; exact .inr (.inr (.inl ⟨beq_iff_eq.mp e, .inl ⟨_, q⟩⟩))
  | _ => cases e
def LiftM (X : Cx) (G : Gx) (id : String) (g : D → List D → Option Val) : Prop := ∃ r : V → List V → Hp → VK → Prop, MtR X id r ∧
  ∀ (F : Addr → Prop) (H : Hp) (d : D) (x : V) (ds : List D) (vs : List V) (u : Val) (Q : VK), (∀ a, F a → H a ≠ none) → RRep G F H d x → RReps G F H ds vs → g d ds = some u → (∀ F' H' w, Step F H (fun _ => False) F' H' → VOk G F' H' u w → VNew H u w → Q w H') → r x vs H Q
def sM (T : String) (g : D → List D → Option Val) (f : Fm → Out Opn) (fs : Fm → Out (List Opn)) : Fm → Out Opn := fun fr => (f fr).bind fun p fr1 => match (cont fr1 p).map (tyD T) with
  | some true => (fs fr1).bind fun ps fr2 => match cont fr2 p, conts fr2 ps with
    | some d, some ds => match g d ds with
      | some u => .ok (.vl u) fr2
      | none => .bad
    | _, _ => .bad
  | _ => .bad
theorem s_m {T id : String} {name : Str} {o e : Expr} {es : List Expr} {g : D → List D → Option Val} {f : Fm → Out Opn} {fs : Fm → Out (List Opn)} {apos cpos : Pos} (hK : X.K = G.K) (pa : PlainAttrs T) (slot : Slot T name id) (hty : typeOf (.builtin id) = pure (.type "method_descriptor"))
    (L : LiftM X G id g) (ho : SE X G B W o f) (ha : SA X G B W (e :: es) fs) (hbase : attributeBase o name X.env (eval o X.env) = eval o X.env := by rfl)
    (hfew : ((backTo cpos (starEach (e :: es) X.env)).all (fun x => !x.1) && (backToKw cpos (keywordEach [] X.env)).all (fun x => x.1.isSome)
      && decide ((e :: es).length + ([] : List Keyword).length + (if ([] : List Keyword).isEmpty then 0 else 1) < 30)) = true := by rfl)
    (hline : (apos.endLine == cpos.line) = true := by rfl) (hs : starEach (e :: es) X.env = (false, eval e X.env) :: starEach es X.env := by rfl) (hplain : (backTo cpos (starEach es X.env)).any (·.1) = false := by rfl) :
    SE X G B W (.Call (.Attribute o name apos) (e :: es) [] cpos) (sM T g f fs) := by
  obtain ⟨r, hm, k⟩ := L
  refine PE.of (pe_bm pa slot hty hm ho ha hbase hfew hline hs hplain) fun σ H Q ⟨F, fr, I, h⟩ => ?_
  refine ⟨F, fr, I, (h.next (.refl I)).imp fun p fr1 F1 H1 _ ⟨n1, _, h1⟩ x ox nx => ?_⟩
  cases ep : cont fr1 p with
  | none => simp [ep] at h1; exact h1.elim
  | some d =>
    cases et : tyD T d with
    | false => simp only [ep, Option.map_some, et] at h1; exact h1.elim
    | true =>
      simp only [ep, Option.map_some, et] at h1
      refine ⟨by rw [hK]; exact tyV_of (cont_ok n1.I ox ep) et, F1, fr1, n1.I, (h1.next n1).imp fun ps fr2 F2 H2 _ ⟨n2, m2, h2⟩ vs os nw => ?_⟩
      have ox2 : OpnOk G F2 H2 fr2 σ p x := ox.step n1.I m2.st m2.sub
      cases ep2 : cont fr2 p with
      | none => simp [ep2] at h2; exact h2.elim
      | some d' =>
        cases eps : conts fr2 ps with
        | none => simp [ep2, eps] at h2; exact h2.elim
        | some ds =>
          simp only [ep2, eps] at h2
          cases eg : g d' ds with
          | none => rw [eg] at h2; exact h2.elim
          | some u =>
            simp only [eg] at h2
            exact k F2 H2 d' x ds vs u Q n2.I.fl (cont_ok n2.I ox2 ep2) (conts_ok n2.I os eps) eg fun F' H' w st vo vn => n2.val st vo vn h2
theorem s_m0 {T id : String} {name : Str} {o : Expr} {g : D → List D → Option Val} {f : Fm → Out Opn} {apos cpos : Pos} (hK : X.K = G.K) (pa : PlainAttrs T) (slot : Slot T name id) (hty : typeOf (.builtin id) = pure (.type "method_descriptor"))
    (L : LiftM X G id g) (ho : SE X G B W o f) (hbase : attributeBase o name X.env (eval o X.env) = eval o X.env := by rfl) (hline : (apos.endLine == cpos.line) = true := by rfl) :
    SE X G B W (.Call (.Attribute o name apos) [] [] cpos) (sM T g f sNil) := by
  obtain ⟨r, hm, k⟩ := L
  refine PE.of (pe_bm0 pa slot hty hm ho hbase hline) fun σ H Q ⟨F, fr, I, h⟩ => ?_
  refine ⟨F, fr, I, (h.next (.refl I)).imp fun p fr1 F1 H1 _ ⟨n1, _, h1⟩ x ox nx => ?_⟩
  cases ep : cont fr1 p with
  | none => simp [ep] at h1; exact h1.elim
  | some d =>
    cases et : tyD T d with
    | false => simp only [ep, Option.map_some, et] at h1; exact h1.elim
    | true =>
      simp only [ep, Option.map_some, et, sNil, Out.bind, conts] at h1
      cases eg : g d [] with
      | none => rw [eg] at h1; exact h1.elim
      | some u =>
        simp only [eg] at h1
        exact ⟨by rw [hK]; exact tyV_of (cont_ok n1.I ox ep) et, k F1 H1 d x [] [] u Q n1.I.fl (cont_ok n1.I ox ep) rfl eg fun F' H' w st vo vn => n1.val st vo vn h1⟩
end
end MP
set_option Elab.async false
set_option linter.all false
set_option maxRecDepth 100000
set_option maxHeartbeats 400000
/-! MP4: writes to what a slot owns; statements. -/
namespace MP
open PySem PySem.Spec L2
section
variable {G : Gx} {B : Bx} {σ σ0 σ1 σ2 σ' : St} {F F0 F1 F2 F' : Addr → Prop} {H H0 H1 H2 H' : Hp} {fr fr0 fr1 fr2 fr' : Fm} {W : WX} {S : Addr → Prop} {X : Cx} {pos : Pos}
/-! ### writes -/
def slO (fr : Fm) (i : Nat) : Option O := match fr[i]? with
  | some (.own o) => some o
  | some (.bor o) => some o
  | _ => none
def setO (fr : Fm) (i : Nat) (o : O) : Fm := match fr[i]? with
  | some (.own _) => fr.set i (.own o)
  | some (.bor _) => fr.set i (.bor o)
  | _ => fr
theorem setO_own {i j : Nat} {o : O} : Own (setO fr i o) j ↔ Own fr j := by
  unfold setO Own
  cases q : fr[i]? with
  | none => simp
  | some s =>
    cases s with
    | non => simp
    | fz d => simp
    | exn c fs => simp
    | own c =>
      by_cases e : i = j
      · subst e
        have hl := (List.getElem?_eq_some_iff.mp q).1
        rw [q]
        simp [hl]
      · simp [List.getElem?_set_ne e]
    | bor c =>
      by_cases e : i = j
      · subst e
        have hl := (List.getElem?_eq_some_iff.mp q).1
        rw [q]
        simp [hl]
      · simp [List.getElem?_set_ne e]
theorem setO_get {i j : Nat} {o : O} {s : Sl} (h : (setO fr i o)[j]? = some s) : (j = i ∧ ((s = .own o ∧ ∃ c, fr[i]? = some (.own c)) ∨ (s = .bor o ∧ ∃ c, fr[i]? = some (.bor c)))) ∨ (fr[j]? = some s ∧ (j = i → slO fr i = none)) := by
  unfold setO at h
  cases q : fr[i]? with
  | none => rw [q] at h; exact .inr ⟨h, fun _ => by simp [slO, q]⟩
  | some t =>
    rw [q] at h
    cases t with
    | non => exact .inr ⟨h, fun _ => by simp [slO, q]⟩
    | fz d => exact .inr ⟨h, fun _ => by simp [slO, q]⟩
    | exn c fs => exact .inr ⟨h, fun _ => by simp [slO, q]⟩
    | own c =>
      rcases getset h with ⟨e1, e2, _⟩ | ⟨n, e⟩
      · exact .inl ⟨e1, .inl ⟨e2, c, rfl⟩⟩
      · exact .inr ⟨e, fun z => absurd z n⟩
    | bor c =>
      rcases getset h with ⟨e1, e2, _⟩ | ⟨n, e⟩
      · exact .inl ⟨e1, .inr ⟨e2, c, rfl⟩⟩
      · exact .inr ⟨e, fun z => absurd z n⟩
theorem slO_own {i : Nat} {o : O} (h : slO fr i = some o) : fr[i]? = some (.own o) ∨ fr[i]? = some (.bor o) := by
  unfold slO at h
  cases q : fr[i]? with
  | none => rw [q] at h; cases h
  | some s =>
    rw [q] at h
    cases s with
    | non => cases h
    | fz d => cases h
    | exn c fs => cases h
    | own c => cases h; exact .inl rfl
    | bor c => cases h; exact .inr rfl
theorem SI.at (I : SI G F H B fr σ) {i : Nat} {o : O} {v : V} (h : slO fr i = some o) (e : σ[i]? = some (some v)) : ∃ a, v = .ref a ∧ OwnAt G F H o a ∧ ¬ F a ∧ Ow fr σ a := by
  rcases slO_own h with q | q
  · obtain ⟨a, z, r, n⟩ := I.ok i _ _ q e
    cases z
    exact ⟨a, rfl, r, n, i, ⟨o, .inl q⟩, e⟩
  · obtain ⟨a, z, r, n⟩ := I.ok i _ _ q e
    cases z
    exact ⟨a, rfl, r, n, i, ⟨o, .inr q⟩, e⟩
/-- the object of a slot is written -/
theorem Nx.write (n : Nx G B σ F0 H0 fr0 F H fr) {i : Nat} {o o' : O} {a : Addr} (h : slO fr i = some o) (e : σ[i]? = some (some (.ref a))) (st : Step F H (fun b => b = a) F' H') (w : OwnAt G F' H' o' a) (nf : ¬ F' a) :
    Nx G B σ F0 H0 fr0 F' H' (setO fr i o') := by
  obtain ⟨b, z, r, nF, ow⟩ := n.I.at h e
  cases z
  have own : Own fr i := by
    obtain ⟨o, q⟩ := (⟨o, slO_own h⟩ : Own fr i)
    exact ⟨o, q⟩
  have dj : ∀ b, F b → ¬ b = a := fun b f z => nF (z ▸ f)
  have sub : ∀ b, Ow (setO fr i o') σ b → Ow fr σ b := fun b ⟨j, hj, ej⟩ => ⟨j, setO_own.mp hj, ej⟩
  have nn : ∀ (j : Nat) (b : Addr), Own fr j → σ[j]? = some (some (.ref b)) → j ≠ i → b ≠ a := fun j b oj ej nj z => nj (n.I.dj j i a oj own (z ▸ ej) e)
  have len : (setO fr i o').length = fr.length := by
    unfold setO
    split <;> simp
  refine ⟨⟨by rw [len]; exact n.I.len, fun j s t e1 e2 => ?_, fun j l b h1 h2 => n.I.dj j l b (setO_own.mp h1) (setO_own.mp h2), fun j c e1 => ?_, fun j v e1 => ?_, fun b f => (st.lf b f).elim (fun z => st.live b (n.I.fl b z)) id⟩, n.st.trans st fun b z => .inl (n.sub b (z ▸ ow)), fun b z => n.sub b (sub b z)⟩
  · rcases setO_get e1 with ⟨rfl, hs⟩ | ⟨e1, hn⟩
    · rw [e] at e2; cases e2
      rcases hs with ⟨rfl, _⟩ | ⟨rfl, _⟩
      · exact ⟨a, rfl, w, nf⟩
      · exact ⟨a, rfl, w, nf⟩
    · have k := n.I.ok j s t e1 e2
      cases s with
      | non => trivial
      | fz d => obtain ⟨v, e, r⟩ := k; exact ⟨v, e, Rep.step st.toKp dj d v r⟩
      | exn c fs => obtain ⟨b, d, z1, z2, r⟩ := k; exact ⟨b, d, z1, z2, r.step st.toKp dj⟩
      | own c =>
        obtain ⟨b, z, r, g⟩ := k
        subst z
        have nj : j ≠ i := fun z => by rw [hn z] at h; cases h
        have nb := nn j b ⟨c, .inl e1⟩ e2 nj
        refine ⟨b, rfl, r.step st.toKp dj nb, fun f => ?_⟩
        rcases st.newF b f with y | y | y
        · exact g y
        · exact nb y
        · exact r.there y
      | bor c =>
        obtain ⟨b, z, r, g⟩ := k
        subst z
        have nj : j ≠ i := fun z => by rw [hn z] at h; cases h
        have nb := nn j b ⟨c, .inr e1⟩ e2 nj
        refine ⟨b, rfl, r.step st.toKp dj nb, fun f => ?_⟩
        rcases st.newF b f with y | y | y
        · exact g y
        · exact nb y
        · exact r.there y
  · rcases setO_get e1 with ⟨rfl, hs⟩ | ⟨e1, hn⟩
    · rcases hs with ⟨z, _⟩ | ⟨z, c', q⟩
      · cases z
      · exact n.I.bor _ _ q
    · exact n.I.bor j c e1
  · obtain ⟨c, q⟩ := n.I.brw j v e1
    by_cases z : i = j
    · subst z
      exact ⟨o', by unfold setO; rw [q]; exact List.getElem?_set_self (List.getElem?_eq_some_iff.mp q).1⟩
    · refine ⟨c, ?_⟩
      unfold setO
      split <;> first | exact q | (rw [List.getElem?_set_ne z]; exact q)
/-- methods of built-in types that write: the object's new content, the value -/
def LiftW (X : Cx) (G : Gx) (id : String) (g : O → List D → Option (Val × O)) : Prop := ∃ r : V → List V → Hp → VK → Prop, MtR X id r ∧
  ∀ (F : Addr → Prop) (H : Hp) (a : Addr) (o o' : O) (ds : List D) (vs : List V) (u : Val) (Q : VK), (∀ a, F a → H a ≠ none) → ¬ F a → OwnAt G F H o a → Reps G F H ds vs → g o ds = some (u, o') →
    (∀ F' H' w, Step F H (fun b => b = a) F' H' → OwnAt G F' H' o' a → ¬ F' a → VOk G F' H' u w → VNew H u w → Q w H') → r (.ref a) vs H Q
def sW (T : String) (g : O → List D → Option (Val × O)) (f : Fm → Out Opn) (fs : Fm → Out (List Opn)) : Fm → Out Opn := fun fr => (f fr).bind fun p fr1 => match p with
  | .sl i => match (slO fr1 i).map fun o => tyD T o.view with
    | some true => (fs fr1).bind fun ps fr2 => match frzs fr2 ps with
      | some (ds, fr3) => match slO fr3 i with
        | some o => match g o ds with
          | some (u, o') => .ok (.vl u) (setO fr3 i o')
          | none => .bad
        | none => .bad
      | none => .bad
    | _ => .bad
  | _ => .bad
theorem w_end {g : O → List D → Option (Val × O)} {r : V → List V → Hp → VK → Prop} {Q : VK} {i : Nat} {x : V} {vs : List V} {ps : List Opn}
    (k : ∀ (F : Addr → Prop) (H : Hp) (a : Addr) (o o' : O) (ds : List D) (vs : List V) (u : Val) (Q : VK), (∀ a, F a → H a ≠ none) → ¬ F a → OwnAt G F H o a → Reps G F H ds vs → g o ds = some (u, o') →
      (∀ F' H' w, Step F H (fun b => b = a) F' H' → OwnAt G F' H' o' a → ¬ F' a → VOk G F' H' u w → VNew H u w → Q w H') → r (.ref a) vs H Q)
    (n2 : Nx G B σ F0 H0 fr0 F2 H2 fr2) (ox : σ[i]? = some (some x)) (os : OpnsOk G F2 H2 fr2 σ ps vs) (nw : ∀ a, Tmp ps vs a → H0 a = none)
    (h2 : Aft G B W σ F0 H0 fr0 (match frzs fr2 ps with
      | some (ds, fr3) => match slO fr3 i with
        | some o => match g o ds with
          | some (u, o') => .ok (.vl u) (setO fr3 i o')
          | none => .bad
        | none => .bad
      | none => .bad) (EPost G σ H0 Q)) : r x vs H2 Q := by
  cases ef : frzs fr2 ps with
  | none => rw [ef] at h2; exact h2.elim
  | some q =>
    obtain ⟨ds, fr3⟩ := q
    simp only [ef] at h2
    obtain ⟨F3, n3, r3, up3⟩ := frzs_ok n2 os nw ef
    cases eo : slO fr3 i with
    | none => rw [eo] at h2; exact h2.elim
    | some o =>
      simp only [eo] at h2
      cases eg : g o ds with
      | none => rw [eg] at h2; exact h2.elim
      | some q =>
        obtain ⟨u, o'⟩ := q
        simp only [eg] at h2
        obtain ⟨a, rfl, ro, nF, ow⟩ := n3.I.at eo ox
        refine k F3 H2 a o o' ds vs u Q n3.I.fl nF ro r3 eg fun F' H' w st wo nf vo vn => ?_
        have n4 := n3.write eo ox st wo nf
        refine h2 F' H' n4 w (.of_val n4.I vo fun c b e1 e2 z => ?_) (New.of fun c b e1 e2 => n3.st.free (vn c b e1 e2))
        obtain ⟨j, hj, ej⟩ := z
        exact n3.I.ow_live ⟨j, setO_own.mp hj, ej⟩ (vn c b e1 e2)
theorem s_w {T id : String} {name : Str} {o e : Expr} {es : List Expr} {g : O → List D → Option (Val × O)} {f : Fm → Out Opn} {fs : Fm → Out (List Opn)} {apos cpos : Pos} (hK : X.K = G.K) (pa : PlainAttrs T) (slot : Slot T name id) (hty : typeOf (.builtin id) = pure (.type "method_descriptor"))
    (L : LiftW X G id g) (ho : SE X G B W o f) (ha : SA X G B W (e :: es) fs) (hbase : attributeBase o name X.env (eval o X.env) = eval o X.env := by rfl)
    (hfew : ((backTo cpos (starEach (e :: es) X.env)).all (fun x => !x.1) && (backToKw cpos (keywordEach [] X.env)).all (fun x => x.1.isSome)
      && decide ((e :: es).length + ([] : List Keyword).length + (if ([] : List Keyword).isEmpty then 0 else 1) < 30)) = true := by rfl)
    (hline : (apos.endLine == cpos.line) = true := by rfl) (hs : starEach (e :: es) X.env = (false, eval e X.env) :: starEach es X.env := by rfl) (hplain : (backTo cpos (starEach es X.env)).any (·.1) = false := by rfl) :
    SE X G B W (.Call (.Attribute o name apos) (e :: es) [] cpos) (sW T g f fs) := by
  obtain ⟨r, hm, k⟩ := L
  refine PE.of (pe_bm pa slot hty hm ho ha hbase hfew hline hs hplain) fun σ H Q ⟨F, fr, I, h⟩ => ?_
  refine ⟨F, fr, I, (h.next (.refl I)).imp fun p fr1 F1 H1 _ ⟨n1, _, h1⟩ x ox nx => ?_⟩
  cases p with
  | vl w => exact h1.elim
  | sl i =>
    have ox' : σ[i]? = some (some x) := ox
    cases eo : slO fr1 i with
    | none => simp [eo] at h1; exact h1.elim
    | some o =>
      cases et : tyD T o.view with
      | false => simp only [eo, Option.map_some, et] at h1; exact h1.elim
      | true =>
        simp only [eo, Option.map_some, et] at h1
        obtain ⟨a, rfl, ro, nF, ow⟩ := n1.I.at eo ox'
        refine ⟨by rw [hK]; exact tyV_of ro.rrep et, F1, fr1, n1.I, (h1.next n1).imp fun ps fr2 F2 H2 _ ⟨n2, m2, h2⟩ vs os nw => ?_⟩
        exact w_end k n2 ox' os (fun a t => n1.st.free (nw a t)) h2
theorem s_w0 {T id : String} {name : Str} {o : Expr} {g : O → List D → Option (Val × O)} {f : Fm → Out Opn} {apos cpos : Pos} (hK : X.K = G.K) (pa : PlainAttrs T) (slot : Slot T name id) (hty : typeOf (.builtin id) = pure (.type "method_descriptor"))
    (L : LiftW X G id g) (ho : SE X G B W o f) (hbase : attributeBase o name X.env (eval o X.env) = eval o X.env := by rfl) (hline : (apos.endLine == cpos.line) = true := by rfl) :
    SE X G B W (.Call (.Attribute o name apos) [] [] cpos) (sW T g f sNil) := by
  obtain ⟨r, hm, k⟩ := L
  refine PE.of (pe_bm0 pa slot hty hm ho hbase hline) fun σ H Q ⟨F, fr, I, h⟩ => ?_
  refine ⟨F, fr, I, (h.next (.refl I)).imp fun p fr1 F1 H1 _ ⟨n1, _, h1⟩ x ox nx => ?_⟩
  cases p with
  | vl w => exact h1.elim
  | sl i =>
    have ox' : σ[i]? = some (some x) := ox
    cases eo : slO fr1 i with
    | none => simp [eo] at h1; exact h1.elim
    | some o =>
      cases et : tyD T o.view with
      | false => simp only [eo, Option.map_some, et] at h1; exact h1.elim
      | true =>
        simp only [eo, Option.map_some, et] at h1
        obtain ⟨a, rfl, ro, nF, ow⟩ := n1.I.at eo ox'
        exact ⟨by rw [hK]; exact tyV_of ro.rrep et, w_end (ps := []) (vs := []) k n1 ox' rfl (fun a ⟨i, o, z, _⟩ => by simp at z) h1⟩
/-! ### statements -/
structure NxS (G : Gx) (B : Bx) (F : Addr → Prop) (H : Hp) (fr : Fm) (σ : St) (F' : Addr → Prop) (H' : Hp) (fr' : Fm) (σ' : St) : Prop where
  I : SI G F' H' B fr' σ'
  st : Step F H (Ow fr σ) F' H'
  sub : ∀ a, Ow fr' σ' a → Ow fr σ a ∨ H a = none
theorem NxS.refl (I : SI G F H B fr σ) : NxS G B F H fr σ F H fr σ := ⟨I, .refl, fun _ h => .inl h⟩
theorem NxS.of (n : Nx G B σ F H fr F' H' fr') : NxS G B F H fr σ F' H' fr' σ := ⟨n.I, n.st, fun a h => .inl (n.sub a h)⟩
theorem NxS.trans (a : NxS G B F H fr σ F1 H1 fr1 σ1) (b : NxS G B F1 H1 fr1 σ1 F2 H2 fr2 σ2) : NxS G B F H fr σ F2 H2 fr2 σ2 :=
  ⟨b.I, a.st.trans b.st a.sub, fun x h => (b.sub x h).elim (a.sub x) fun z => .inr (a.st.free z)⟩
def AftS (G : Gx) (B : Bx) (W : WX) (F : Addr → Prop) (H : Hp) (fr : Fm) (σ : St) (o : OutS) (D : Ends) : Prop := match o with
  | .nx fr' => ∀ F' H' σ', NxS G B F H fr σ F' H' fr' σ' → D.nx σ' H'
  | .bk fr' => ∀ F' H' σ', NxS G B F H fr σ F' H' fr' σ' → D.bk σ' H'
  | .ct fr' => ∀ F' H' σ', NxS G B F H fr σ F' H' fr' σ' → D.ct σ' H'
  | .rt v fr' => ∀ F' H' σ' w, NxS G B F H fr σ F' H' fr' σ' → VOk G F' H' v w → (∀ o a, v = .own o → w = .ref a → ¬ Ow fr' σ' a ∧ (Ow fr σ a ∨ H a = none)) → D.rt w H'
  | .exc x fr' => ∀ F' H' σ' c d, NxS G B F H fr σ F' H' fr' σ' → XOk G F' H' x c d → W c d σ' H'
  | .bad => False
def tS (G : Gx) (B : Bx) (W : WX) (f : Fm → OutS) : TS := fun D σ H => ∃ F fr, SI G F H B fr σ ∧ AftS G B W F H fr σ (f fr) D
abbrev SS (X : Cx) (G : Gx) (B : Bx) (W : WX) (st : Stmt) (f : Fm → OutS) : Prop := PS X st (tS G B W f)
abbrev SSs (X : Cx) (G : Gx) (B : Bx) (W : WX) (st : List Stmt) (f : Fm → OutS) : Prop := PSs X st (tS G B W f)
theorem PS.of {st : Stmt} {t t' : TS} (h : PS X st t) (k : ∀ D σ H, t' D σ H → t D σ H) : PS X st t' := ⟨fun pins s σ H D I q => h.run pins s σ H D I (k _ _ _ q)⟩
theorem PSs.of {st : List Stmt} {t t' : TS} (h : PSs X st t) (k : ∀ D σ H, t' D σ H → t D σ H) : PSs X st t' := ⟨fun pins s σ H D I q => h.run pins s σ H D I (k _ _ _ q)⟩
theorem AftS.later {o : OutS} {D : Ends} (n : NxS G B F H fr σ F1 H1 fr1 σ1) (h : AftS G B W F H fr σ o D) : AftS G B W F1 H1 fr1 σ1 o D := by
  cases o with
  | nx fr' => exact fun F' H' σ' m => h F' H' σ' (n.trans m)
  | bk fr' => exact fun F' H' σ' m => h F' H' σ' (n.trans m)
  | ct fr' => exact fun F' H' σ' m => h F' H' σ' (n.trans m)
  | rt v fr' => exact fun F' H' σ' w m vo q => h F' H' σ' w (n.trans m) vo fun o a e1 e2 => ⟨(q o a e1 e2).1, (q o a e1 e2).2.elim (n.sub a) fun z => .inr (n.st.free z)⟩
  | exc x fr' => exact fun F' H' σ' c d m => h F' H' σ' c d (n.trans m)
  | bad => exact h
def OutS.seq (o : OutS) (g : Fm → OutS) : OutS := match o with
  | .nx fr => g fr
  | o => o
/-- an expression's computation ahead of a statement's end -/
def Out.toS {α : Type} (o : Out α) (k : α → Fm → OutS) : OutS := match o with
  | .ok a fr => k a fr
  | .exc x fr => .exc x fr
  | .bad => .bad
theorem AftS.head {α : Type} {o : Out α} {k : α → Fm → OutS} {D : Ends} (h : AftS G B W F H fr σ (o.toS k) D) :
    Aft G B W σ F H fr o fun a fr1 F1 H1 => Nx G B σ F H fr F1 H1 fr1 ∧ AftS G B W F H fr σ (k a fr1) D := by
  cases o with
  | ok a fr1 => exact fun F1 H1 n => ⟨n, h⟩
  | exc x fr1 => exact fun F1 H1 c d n => h F1 H1 σ c d (.of n)
  | bad => exact h
theorem AftS.seq_of {o : OutS} {g : Fm → OutS} {D : Ends} (h : AftS G B W F H fr σ (o.seq g) D) : AftS G B W F H fr σ o { D with nx := tS G B W g D } := by
  cases o with
  | nx fr1 => exact fun F1 H1 σ1 n => ⟨F1, fr1, n.I, h.later n⟩
  | bk fr' => exact h
  | ct fr' => exact h
  | rt v fr' => exact h
  | exc x fr' => exact h
  | bad => exact h
def sSkip : Fm → OutS := fun fr => .nx fr
def sSeq (f g : Fm → OutS) : Fm → OutS := fun fr => (f fr).seq g
variable {st : Stmt} {rest : List Stmt} {f g : Fm → OutS}
theorem ss_nil : SSs X G B W [] sSkip := PSs.of pss_nil fun D σ H ⟨F, fr, I, h⟩ => h F H σ (.refl I)
theorem ss_cons (h1 : SS X G B W st f) (h2 : SSs X G B W rest g) : SSs X G B W (st :: rest) (sSeq f g) :=
  PSs.of (pss_cons h1 h2) fun D σ H ⟨F, fr, I, h⟩ => ⟨F, fr, I, h.seq_of⟩
theorem ss_one (h1 : SS X G B W st f) : SSs X G B W [st] f := pss_one h1
theorem ss_pass : SS X G B W (.Pass pos) sSkip := PS.of ps_pass fun D σ H ⟨F, fr, I, h⟩ => h F H σ (.refl I)
def sBreak : Fm → OutS := fun fr => .bk fr
def sCont : Fm → OutS := fun fr => .ct fr
theorem ss_break : SS X G B W (.Break pos) sBreak := PS.of ps_break fun D σ H ⟨F, fr, I, h⟩ => h F H σ (.refl I)
theorem ss_cont : SS X G B W (.Continue pos) sCont := PS.of ps_continue fun D σ H ⟨F, fr, I, h⟩ => h F H σ (.refl I)
def sExpr (f : Fm → Out Opn) : Fm → OutS := fun fr => (f fr).toS fun _ fr1 => .nx fr1
theorem ss_expr {e : Expr} {f : Fm → Out Opn} (he : SE X G B W e f) (hs : swapsWith e none pos.line X.env = pure false := by rfl) : SS X G B W (.Expr e pos) (sExpr f) := by
  refine PS.of (ps_expr he hs) fun D σ H ⟨F, fr, I, h⟩ => ?_
  exact ⟨F, fr, I, h.head.imp fun p fr1 F1 H1 _ ⟨n1, h1⟩ v _ _ => h1 F1 H1 σ (.of n1)⟩
/-- the value of an operand: an own local is moved -/
def toV (fr : Fm) : Opn → Option (Val × Fm)
  | .sl i => match fr[i]? with
    | some (.fz d) => some (.fz d, fr)
    | some (.own o) => some (.own o, fr.set i .non)
    | _ => none
  | .vl v => some (v, fr)
def sRet (f : Fm → Out Opn) : Fm → OutS := fun fr => (f fr).toS fun p fr1 => match toV fr1 p with
  | some (v, fr2) => .rt v fr2
  | none => .bad
theorem own_setN {fr : Fm} {i j : Nat} (h : Own (fr.set i .non) j) : j ≠ i ∧ Own fr j := by
  obtain ⟨o, h⟩ := h
  rcases h with h | h
  · rcases getset h with ⟨_, e, _⟩ | ⟨n, e⟩
    · cases e
    · exact ⟨n, o, .inl e⟩
  · rcases getset h with ⟨_, e, _⟩ | ⟨n, e⟩
    · cases e
    · exact ⟨n, o, .inr e⟩
theorem SI.drop (I : SI G F H B fr σ) {i : Nat} (h : ∀ o, fr[i]? ≠ some (.bor o)) : SI G F H B (fr.set i .non) σ := by
  refine ⟨by rw [List.length_set]; exact I.len, fun j s t e1 e2 => ?_, fun j l a h1 h2 => I.dj j l a (own_setN h1).2 (own_setN h2).2, fun j o e1 => ?_, fun j v e => ?_, I.fl⟩
  · rcases getset e1 with ⟨_, rfl, _⟩ | ⟨_, e⟩
    · trivial
    · exact I.ok j s t e e2
  · rcases getset e1 with ⟨_, z, _⟩ | ⟨_, e⟩
    · cases z
    · exact I.bor j o e
  · obtain ⟨o, q⟩ := I.brw j v e
    refine ⟨o, ?_⟩
    rw [List.getElem?_set_ne]
    · exact q
    · intro z; subst z; exact h o q
theorem ss_ret {e : Expr} {f : Fm → Out Opn} (he : SE X G B W e f) : SS X G B W (.Return (some e) pos) (sRet f) := by
  refine PS.of (ps_ret he) fun D σ H ⟨F, fr, I, h⟩ => ?_
  refine ⟨F, fr, I, h.head.imp fun p fr1 F1 H1 _ ⟨n1, h1⟩ v op nw => ?_⟩
  cases p with
  | vl w =>
    simp only [toV] at h1
    cases w with
    | fz d => exact h1 F1 H1 σ v (.of n1) op fun o a z => nomatch z
    | own o =>
      obtain ⟨a, z, r, nF, no⟩ := op
      subst z
      exact h1 F1 H1 σ _ (.of n1) ⟨a, rfl, r, nF⟩ fun o' a' _ z => by cases z; exact ⟨no, .inr (nw a rfl)⟩
  | sl i =>
    have op' : σ[i]? = some (some v) := op
    cases q : fr1[i]? with
    | none => simp only [toV, q] at h1; exact h1.elim
    | some s =>
      cases s with
      | non => simp only [toV, q] at h1; exact h1.elim
      | bor o => simp only [toV, q] at h1; exact h1.elim
      | exn c fs => simp only [toV, q] at h1; exact h1.elim
      | fz d =>
        simp only [toV, q] at h1
        obtain ⟨w, z, r⟩ := n1.I.ok i _ _ q op'
        cases z
        exact h1 F1 H1 σ v (.of n1) r fun o a z => nomatch z
      | own o =>
        simp only [toV, q] at h1
        obtain ⟨a, z, r, nF⟩ := n1.I.ok i _ _ q op'
        cases z
        have ow : Ow fr1 σ a := ⟨i, ⟨o, .inl q⟩, op'⟩
        refine h1 F1 H1 σ _ ⟨(n1.I.drop (fun o' z => by rw [q] at z; cases z)), n1.st, fun b ⟨j, hj, ej⟩ => .inl (n1.sub b ⟨j, (own_setN hj).2, ej⟩)⟩ ⟨a, rfl, r, nF⟩ fun o' b _ z => ?_
        cases z
        refine ⟨fun ⟨j, hj, ej⟩ => ?_, .inl (n1.sub a ow)⟩
        obtain ⟨nj, hj⟩ := own_setN hj
        exact nj (n1.I.dj j i a hj ⟨o, .inl q⟩ ej op')
def sRetN : Fm → OutS := fun fr => .rt (.fz .non) fr
theorem ss_retN : SS X G B W (.Return none pos) sRetN := PS.of ps_retN fun D σ H ⟨F, fr, I, h⟩ => h F H σ .non (.refl I) (by show Rep _ _ _ _ _; unfold Rep; rfl) fun o a z => nomatch z
def sIfS (c : Fm → Out Bool) (f g : Fm → OutS) : Fm → OutS := fun fr => (c fr).toS fun b fr1 => match b with
  | true => f fr1
  | false => g fr1
theorem ss_if {c : Expr} {a b : List Stmt} {fc : Fm → Out Bool} (hc : ST X G B W c fc) (ha : SSs X G B W a f) (hb : SSs X G B W b g) : SS X G B W (.If c a b pos) (sIfS fc f g) := by
  refine PS.of (ps_if hc ha hb) fun D σ H ⟨F, fr, I, h⟩ => ?_
  refine ⟨F, fr, I, h.head.imp fun c fr1 F1 H1 _ ⟨n1, h1⟩ => ?_⟩
  cases c with
  | true => exact (if_pos rfl).mpr ⟨F1, fr1, n1.I, h1.later (.of n1)⟩
  | false => exact (if_neg (by decide)).mpr ⟨F1, fr1, n1.I, h1.later (.of n1)⟩
end
end MP
set_option Elab.async false
set_option linter.all false
set_option maxRecDepth 100000
set_option maxHeartbeats 400000
/-! MP5: assignments, targets, loops. -/
namespace MP
open PySem PySem.Spec L2
section
variable {G : Gx} {B : Bx} {σ σ0 σ1 σ2 σ' : St} {F F0 F1 F2 F' : Addr → Prop} {H H0 H1 H2 H' : Hp} {fr fr0 fr1 fr2 fr' : Fm} {W : WX} {S : Addr → Prop} {X : Cx} {pos : Pos}
/-! ### a slot gets a value -/
def Val.sl : Val → Sl
  | .fz d => .fz d
  | .own o => .own o
/-- slot i gets s, where it holds no caller's object -/
def setS (fr : Fm) (i : Nat) (s : Sl) : Option Fm := match fr[i]? with
  | some (.bor _) => none
  | some _ => some (fr.set i s)
  | none => none
theorem own_setS {fr : Fm} {i j : Nat} {v : Val} (h : Own (fr.set i v.sl) j) : (j = i ∧ ∃ o, v = .own o) ∨ (j ≠ i ∧ Own fr j) := by
  obtain ⟨o, h⟩ := h
  rcases h with h | h
  · rcases getset h with ⟨e, z, _⟩ | ⟨n, e⟩
    · cases v with
      | fz d => cases z
      | own c => exact .inl ⟨e, c, rfl⟩
    · exact .inr ⟨n, o, .inl e⟩
  · rcases getset h with ⟨e, z, _⟩ | ⟨n, e⟩
    · cases v with
      | fz d => cases z
      | own c => cases z
    · exact .inr ⟨n, o, .inr e⟩
theorem setI {σ : St} {i j : Nat} {x t : Option V} (h : (σ.set i x)[j]? = some t) : (j = i ∧ t = x) ∨ (j ≠ i ∧ σ[j]? = some t) := by
  by_cases e : i = j
  · subst e
    rw [List.getElem?_set_self'] at h
    cases q : σ[i]? with
    | none => rw [q] at h; cases h
    | some z => rw [q] at h; simp at h; exact .inl ⟨rfl, h.symm⟩
  · rw [List.getElem?_set_ne e] at h
    exact .inr ⟨fun z => e z.symm, h⟩
theorem NxS.put (n : NxS G B F0 H0 fr0 σ0 F H fr σ) {i : Nat} {v : Val} {w : V} (e : setS fr i v.sl = some fr') (vo : VOk G F H v w) (vn : ∀ o a, v = .own o → w = .ref a → ¬ Ow fr σ a ∧ (Ow fr0 σ0 a ∨ H0 a = none)) : NxS G B F0 H0 fr0 σ0 F H fr' (σ.set i (some w)) := by
  have hb : (∀ o, fr[i]? ≠ some (.bor o)) ∧ fr' = fr.set i v.sl := by
    unfold setS at e
    cases q : fr[i]? with
    | none => rw [q] at e; cases e
    | some s => rw [q] at e; cases s <;> cases e <;> exact ⟨(fun o z => nomatch z), rfl⟩
  obtain ⟨nb, rfl⟩ := hb
  have no : ∀ {j a}, j ≠ i → Own fr j → (σ.set i (some w))[j]? = some (some (.ref a)) → Ow fr σ a := fun {j a} nj oj ej => by
    rcases setI ej with ⟨z, _⟩ | ⟨_, z⟩
    · exact absurd z nj
    · exact ⟨j, oj, z⟩
  have wi : ∀ {a}, (σ.set i (some w))[i]? = some (some (.ref a)) → w = .ref a := fun {a} h => by
    rcases setI h with ⟨_, z⟩ | ⟨z, _⟩
    · cases z; rfl
    · exact absurd rfl z
  refine ⟨⟨by rw [List.length_set, List.length_set]; exact n.I.len, fun j s t e1 e2 => ?_, fun j l a h1 h2 e1 e2 => ?_, fun j o e1 => ?_, fun j u e1 => ?_, n.I.fl⟩, n.st, fun a ⟨j, hj, ej⟩ => ?_⟩
  · rcases getset e1 with ⟨rfl, rfl, _⟩ | ⟨nj, e1⟩
    · rcases setI e2 with ⟨_, rfl⟩ | ⟨z, _⟩
      · cases v with
        | fz d => exact ⟨w, rfl, vo⟩
        | own o => obtain ⟨a, z, r, f⟩ := vo; exact ⟨a, by rw [z], r, f⟩
      · exact absurd rfl z
    · rcases setI e2 with ⟨z, _⟩ | ⟨_, e2⟩
      · exact absurd z nj
      · exact n.I.ok j s t e1 e2
  · rcases own_setS h1 with ⟨z1, o, ev⟩ | ⟨k1, g1⟩
    · rcases own_setS h2 with ⟨z2, _⟩ | ⟨k2, g2⟩
      · rw [z1, z2]
      · exact absurd (no k2 g2 e2) (vn o a ev (wi (z1 ▸ e1))).1
    · rcases own_setS h2 with ⟨z2, o, ev⟩ | ⟨k2, g2⟩
      · exact absurd (no k1 g1 e1) (vn o a ev (wi (z2 ▸ e2))).1
      · rcases setI e1 with ⟨z, _⟩ | ⟨_, e1⟩
        · exact absurd z k1
        · rcases setI e2 with ⟨z, _⟩ | ⟨_, e2⟩
          · exact absurd z k2
          · exact n.I.dj j l a g1 g2 e1 e2
  · rcases getset e1 with ⟨_, z, _⟩ | ⟨nj, e1⟩
    · cases v <;> cases z
    · obtain ⟨u, h1, h2⟩ := n.I.bor j o e1
      exact ⟨u, h1, by rw [List.getElem?_set_ne (Ne.symm nj)]; exact h2⟩
  · obtain ⟨o, q⟩ := n.I.brw j u e1
    refine ⟨o, ?_⟩
    rw [List.getElem?_set_ne]
    · exact q
    · intro z; subst z; exact nb o q
  · rcases own_setS hj with ⟨rfl, o, ev⟩ | ⟨nj, hj⟩
    · exact (vn o a ev (wi ej)).2
    · exact n.sub a (no nj hj ej)
/-! ### x = e -/
/-- the value of an operand as it is stored: what a name holds is given up -/
def toW (fr : Fm) : Opn → Option (Val × Fm)
  | .sl i => (frz fr (.sl i)).map fun q => (.fz q.1, q.2)
  | .vl v => some (v, fr)
def sSet (i : Nat) (f : Fm → Out Opn) : Fm → OutS := fun fr => (f fr).toS fun p fr1 => match toW fr1 p with
  | some (v, fr2) => match setS fr2 i v.sl with
    | some fr3 => .nx fr3
    | none => .bad
  | none => .bad
theorem set_ok {i : Nat} {f : Fm → Out Opn} {D : Ends} (h : tS G B W (sSet i f) D σ H) : tE G B W f σ H fun x H1 => D.nx (σ.set i (some x)) H1 := by
  obtain ⟨F, fr, I, h⟩ := h
  refine ⟨F, fr, I, h.head.imp fun p fr1 F1 H1 _ ⟨n1, h1⟩ v op nw => ?_⟩
  cases p with
  | vl w =>
    simp only [toW] at h1
    cases es : setS fr1 i w.sl with
    | none => rw [es] at h1; exact h1.elim
    | some fr3 =>
      simp only [es] at h1
      refine h1 F1 H1 _ ((NxS.of n1).put (v := w) es ?_ ?_)
      · cases w with
        | fz d => exact op
        | own o => obtain ⟨a, z, r, nF, no⟩ := op; exact ⟨a, z, r, nF⟩
      · intro o a e1 e2
        subst e1 e2
        obtain ⟨b, z, r, nF, no⟩ := op
        cases z
        exact ⟨no, .inr (nw _ rfl)⟩
  | sl j =>
    cases ef : frz fr1 (.sl j) with
    | none => simp only [toW, ef, Option.map_none] at h1; exact h1.elim
    | some q =>
      obtain ⟨d, fr2⟩ := q
      simp only [toW, ef, Option.map_some] at h1
      obtain ⟨F2, n2, r2, _⟩ := frz_ok n1 op trivial ef
      cases es : setS fr2 i (Val.fz d).sl with
      | none => rw [es] at h1; exact h1.elim
      | some fr3 =>
        simp only [es] at h1
        exact h1 F2 H1 _ ((NxS.of n2).put (v := .fz d) es r2 fun o a z => nomatch z)
theorem ss_set (i : Nat) {x : Str} {e : Expr} {f : Fm → Out Opn} {pos' : Pos} (hN : X.N.Nodup) (hi : X.N[i]? = some x) (hx : Loc X.env.scope x) (he : SE X G B W e f) (hs : swapsWith e (some (.Name x pos')) pos.line X.env = pure false := by rfl)
    (hf : X.fn x = true ∨ X.env.scope.names.lookup x = some .local := by first | exact .inl rfl | exact .inr rfl | assumption) : SS X G B W (.Assign [.Name x pos'] e pos) (sSet i f) :=
  PS.of (ps_set hN hi hx he hs hf) fun D σ H h => set_ok h
/-! ### targets of data -/
/-- at most the slots is differ -/
def SetOf (is : List Nat) (σ σ' : St) : Prop := ∀ vs : List Nat, (∀ i ∈ is, i ∈ vs) → wipe σ' vs = wipe σ vs
theorem wipe_get {σ : St} {i : Nat} : ∀ {vs : List Nat}, (wipe σ vs)[i]? = if i ∈ vs then (σ[i]?).map fun _ => none else σ[i]?
  | [] => by simp [wipe]
  | v :: vs => by
    unfold wipe
    by_cases e : v = i
    · subst e
      rw [List.getElem?_set_self', wipe_get (vs := vs)]
      by_cases m : v ∈ vs
      · simp [m]
        cases σ[v]? <;> rfl
      · simp [m]
        cases σ[v]? <;> rfl
    · rw [List.getElem?_set_ne e, wipe_get (vs := vs)]
      have : (i ∈ v :: vs) ↔ (i ∈ vs) := by simp [Ne.symm e]
      by_cases m : i ∈ vs
      · simp [m]
      · have m' : i ∉ v :: vs := fun z => m (this.mp z)
        simp [m, m']
theorem setOf_one {σ : St} {i : Nat} {x : Option V} : SetOf [i] σ (σ.set i x) := fun vs h => by
  apply List.ext_getElem?
  intro j
  rw [wipe_get, wipe_get]
  by_cases e : i = j
  · subst e
    have : i ∈ vs := h i (by simp)
    rw [if_pos this, if_pos this, List.getElem?_set_self']
    cases σ[i]? <;> rfl
  · rw [List.getElem?_set_ne e]
theorem SetOf.refl {is : List Nat} : SetOf is σ σ := fun _ _ => rfl
theorem SetOf.trans {is js : List Nat} (a : SetOf is σ σ1) (b : SetOf js σ1 σ2) : SetOf (is ++ js) σ σ2 := fun vs h =>
  (b vs fun i m => h i (List.mem_append_right _ m)).trans (a vs fun i m => h i (List.mem_append_left _ m))
/-- a target was stored -/
structure NxG (G : Gx) (B : Bx) (is : List Nat) (F : Addr → Prop) (H : Hp) (fr : Fm) (σ : St) (fr' : Fm) (σ' : St) : Prop where
  I : SI G F H B fr' σ'
  sub : ∀ a, Ow fr' σ' a → Ow fr σ a
  so : SetOf is σ σ'
theorem NxG.s {is : List Nat} (n : NxG G B is F H fr σ fr' σ') : NxS G B F H fr σ F H fr' σ' := ⟨n.I, .refl, fun a h => .inl (n.sub a h)⟩
theorem NxG.trans {is js : List Nat} (a : NxG G B is F H fr σ fr1 σ1) (b : NxG G B js F H fr1 σ1 fr2 σ2) : NxG G B (is ++ js) F H fr σ fr2 σ2 := ⟨b.I, fun x h => a.sub x (b.sub x h), a.so.trans b.so⟩
def tG (G : Gx) (B : Bx) (is : List Nat) (g : D → Fm → Option Fm) : TG := fun v σ H Q => ∃ F fr d, SI G F H B fr σ ∧ Rep G F H d v ∧ ∃ fr', g d fr = some fr' ∧
  ∀ σ', NxG G B is F H fr σ fr' σ' → Q σ' H
abbrev SG (X : Cx) (G : Gx) (B : Bx) (is : List Nat) (tg : Expr) (g : D → Fm → Option Fm) : Prop := PG X tg (tG G B is g)
def tGs (G : Gx) (B : Bx) (is : List Nat) (g : List D → Fm → Option Fm) : TGs := fun vs σ H Q => ∃ F fr ds, SI G F H B fr σ ∧ Reps G F H ds vs ∧ ∃ fr', g ds fr = some fr' ∧
  ∀ σ', NxG G B is F H fr σ fr' σ' → Q σ' H
abbrev SGs (X : Cx) (G : Gx) (B : Bx) (is : List Nat) (tgs : List Expr) (g : List D → Fm → Option Fm) : Prop := PGs X tgs (tGs G B is g)
theorem PG.of {e : Expr} {t t' : TG} (h : PG X e t) (k : ∀ v σ H Q, t' v σ H Q → t v σ H Q) : PG X e t' := ⟨fun pins s σ H v u Q I r q => h.run pins s σ H v u Q I r (k _ _ _ _ q)⟩
theorem PGs.of {e : List Expr} {t t' : TGs} (h : PGs X e t) (k : ∀ v σ H Q, t' v σ H Q → t v σ H Q) : PGs X e t' := by
  constructor
  intros
  apply h.run <;> first | assumption | (apply k; assumption)
def gN (i : Nat) : D → Fm → Option Fm := fun d fr => setS fr i (.fz d)
def gsN : List D → Fm → Option Fm := fun ds fr => match ds with
  | [] => some fr
  | _ => none
def gsC (g : D → Fm → Option Fm) (gs : List D → Fm → Option Fm) : List D → Fm → Option Fm := fun ds fr => match ds with
  | d :: ds => (g d fr).bind fun fr1 => gs ds fr1
  | [] => none
def gT (n : Nat) (gs : List D → Fm → Option Fm) : D → Fm → Option Fm := fun d fr => match d with
  | .tup ds => if ds.length = n then gs ds fr else none
  | _ => none
theorem sg_name (i : Nat) {x : Str} (hN : X.N.Nodup) (hi : X.N[i]? = some x) (hx : Loc X.env.scope x) (hf : X.fn x = true ∨ X.env.scope.names.lookup x = some .local := by first | exact .inl rfl | exact .inr rfl | assumption) : SG X G B [i] (.Name x pos) (gN i) :=
  PG.of (pg_name hN hi hx hf) fun v σ H Q ⟨F, fr, d, I, r, fr', e, k⟩ => k _ ⟨((NxS.refl I).put (v := .fz d) e r fun o a z => nomatch z).I, fun a ⟨j, hj, ej⟩ => by
    unfold gN setS at e
    cases q : fr[i]? with
    | none => rw [q] at e; cases e
    | some s =>
      have hj' : Own (fr.set i (.fz d)) j := by
        rw [q] at e
        cases s <;> cases e <;> exact hj
      obtain ⟨nj, oj⟩ := own_set hj'
      rcases setI ej with ⟨z, _⟩ | ⟨_, z⟩
      · exact absurd z nj
      · exact ⟨j, oj, z⟩, setOf_one⟩
theorem sgs_nil : SGs X G B [] [] gsN := PGs.of pgs_nil fun vs σ H Q ⟨F, fr, ds, I, r, fr', e, k⟩ => by
  cases ds with
  | nil => cases e; unfold Reps at r; exact ⟨r, k σ ⟨I, fun _ h => h, .refl⟩⟩
  | cons d ds => cases e
theorem sgs_cons {is js : List Nat} {e : Expr} {es : List Expr} {g : D → Fm → Option Fm} {gs : List D → Fm → Option Fm} (h1 : SG X G B is e g) (h2 : SGs X G B js es gs)
    (hs : (assignEach (e :: es) X.env).map (·.2) = assign e X.env :: (assignEach es X.env).map (·.2) := by rfl) : SGs X G B (is ++ js) (e :: es) (gsC g gs) := by
  refine PGs.of (pgs_cons h1 h2 hs) fun vs σ H Q ⟨F, fr, ds, I, r, fr', e, k⟩ => ?_
  cases ds with
  | nil => cases e
  | cons d ds =>
    obtain ⟨v, ws, rfl, r1, rs⟩ := r.of_cons
    simp only [gsC] at e
    cases e1 : g d fr with
    | none => simp [e1] at e
    | some fr1 =>
      simp only [e1, Option.bind_some] at e
      exact ⟨v, ws, rfl, F, fr, d, I, r1, fr1, e1, fun σ1 n1 => ⟨F, fr1, ds, n1.I, rs, fr', e, fun σ2 n2 => k σ2 (n1.trans n2)⟩⟩
theorem sg_tup {is : List Nat} {es : List Expr} {k n : Nat} {gs : List D → Fm → Option Fm} (hc : X.calm = true) (h : SGs X G B is es gs)
    (hn : (assignEach es X.env).length = n := by rfl) (hst : (assignEach es X.env).findIdx? (·.1) = none := by rfl) : SG X G B is (.Tuple es k pos) (gT n gs) := by
  refine PG.of (pg_tup hc h hn hst) fun v σ H Q ⟨F, fr, d, I, r, fr', e, k⟩ => ?_
  cases d with
  | tup ds =>
    unfold Rep at r
    obtain ⟨a, vs, rfl, q, rs⟩ := r
    by_cases z : ds.length = n
    · simp only [gT, z, if_true] at e
      exact ⟨a, vs, rfl, .of q, by rw [← rs.len]; exact z, F, fr, ds, I, rs, fr', e, k⟩
    · simp only [gT, z, if_false] at e; cases e
  | _ => cases e
/-- target = e, of data -/
def sAsg (g : D → Fm → Option Fm) (f : Fm → Out Opn) : Fm → OutS := fun fr => (f fr).toS fun p fr1 => match frz fr1 p with
  | some (d, fr2) => match g d fr2 with
    | some fr3 => .nx fr3
    | none => .bad
  | none => .bad
theorem asg_ok {is : List Nat} {g : D → Fm → Option Fm} {f : Fm → Out Opn} {D : Ends} (h : tS G B W (sAsg g f) D σ H) : tE G B W f σ H fun x H1 => tG G B is g x σ H1 D.nx := by
  obtain ⟨F, fr, I, h⟩ := h
  refine ⟨F, fr, I, h.head.imp fun p fr1 F1 H1 _ ⟨n1, h1⟩ v op nw => ?_⟩
  cases ef : frz fr1 p with
  | none => rw [ef] at h1; exact h1.elim
  | some q =>
    obtain ⟨d, fr2⟩ := q
    simp only [ef] at h1
    obtain ⟨F2, n2, r2, _⟩ := frz_ok n1 op nw ef
    cases eg : g d fr2 with
    | none => rw [eg] at h1; exact h1.elim
    | some fr3 =>
      simp only [eg] at h1
      exact ⟨F2, fr2, d, n2.I, r2, fr3, eg, fun σ' n3 => h1 F2 H1 σ' ((NxS.of n2).trans n3.s)⟩
theorem ss_asg {is : List Nat} {tg e : Expr} {g : D → Fm → Option Fm} {f : Fm → Out Opn} (he : SE X G B W e f) (hg : SG X G B is tg g) (hs : swapsWithSole [tg] e pos.line X.env = pure false := by rfl) (hw : swappedStores [tg] e X.env = pure none := by rfl)
    (h1 : (assignEach [tg] X.env).map (·.2) = [assign tg X.env] := by rfl) : SS X G B W (.Assign [tg] e pos) (sAsg g f) := PS.of (ps_asg he hg hs hw h1) fun D σ H h => asg_ok h
/-! ### a, b = x, y: side by side -/
def toWs : Fm → List Opn → Option (List Val × Fm)
  | fr, [] => some ([], fr)
  | fr, p :: ps => match toW fr p with
    | some (v, fr1) => match toWs fr1 ps with
      | some (vs, fr2) => some (v :: vs, fr2)
      | none => none
    | none => none
/-- values in hand, no two of them one object -/
def VsOk (G : Gx) (F : Addr → Prop) (H H0 : Hp) (fr : Fm) (σ : St) : List Val → List V → Prop
  | [], ws => ws = []
  | v :: vs, ws => ∃ w us, ws = w :: us ∧ VOk G F H v w ∧ VsOk G F H H0 fr σ vs us ∧ ∀ o a, v = .own o → w = .ref a → ¬ Ow fr σ a ∧ H0 a = none ∧ ∀ (k : Nat) o', vs[k]? = some (.own o') → us[k]? ≠ some (.ref a)
theorem VOk.up {v : Val} {w : V} (h : ∀ b, F b → F' b) (n : ∀ o a, v = .own o → w = .ref a → ¬ F' a) (k : VOk G F H v w) : VOk G F' H v w := by
  cases v with
  | fz d => exact Rep.up h k
  | own o => obtain ⟨a, z, r, f⟩ := k; exact ⟨a, z, r.up h, n o a rfl z⟩
theorem toWs_ok : ∀ {ps : List Opn} {ws : List V} {vs : List Val} {F : Addr → Prop} {fr fr' : Fm}, Nx G B σ F0 H0 fr0 F H fr → OpnsOk G F H fr σ ps ws → (∀ a, Tmp ps ws a → H0 a = none) → toWs fr ps = some (vs, fr') →
    ∃ F', Nx G B σ F0 H0 fr0 F' H fr' ∧ VsOk G F' H H0 fr' σ vs ws ∧ (∀ b, F b → F' b) ∧ (∀ b, F' b → F b ∨ Ow fr σ b) ∧ (∀ b, Ow fr' σ b → Ow fr σ b) ∧ (∀ (k : Nat) o, vs[k]? = some (.own o) → ps[k]? = some (.vl (.own o)))
  | [], ws, vs, F, fr, fr', n, o, nw, e => by
    cases e
    exact ⟨F, n, o, fun _ e => e, fun _ e => .inl e, fun _ e => e, fun k o z => by simp at z⟩
  | p :: ps, ws, vs, F, fr, fr', n, o, nw, e => by
    obtain ⟨w, us, rfl, op, os, dj⟩ := o
    unfold toWs at e
    cases e1 : toW fr p with
    | none => simp [e1] at e
    | some q =>
      obtain ⟨v, fr1⟩ := q
      simp only [e1] at e
      cases e2 : toWs fr1 ps with
      | none => simp [e2] at e
      | some q =>
        obtain ⟨vs', fr2⟩ := q
        simp only [e2] at e
        cases e
        cases p with
        | vl x =>
          simp only [toW] at e1
          cases e1
          obtain ⟨F2, n2, r2, up2, in2, sub2, own2⟩ := toWs_ok (ps := ps) n os (fun a ⟨i, o, x, y⟩ => nw a ⟨i + 1, o, by simpa using x, by simpa using y⟩) e2
          have nF : ∀ o a, v = .own o → w = .ref a → ¬ F2 a ∧ ¬ Ow fr σ a := fun o a e1 e2 => by
            subst e1 e2
            obtain ⟨b, z, r, nF, no⟩ := op
            cases z
            exact ⟨fun f => (in2 a f).elim nF no, no⟩
          refine ⟨F2, n2, ⟨w, us, rfl, ?_, r2, fun o a e1 e2 => ⟨fun z => (nF o a e1 e2).2 (sub2 a z), nw a ⟨0, o, by rw [e1]; rfl, by rw [e2]; rfl⟩, fun k o' z1 z2 => ?_⟩⟩, up2, in2, sub2, fun k o z => ?_⟩
          · cases v with
            | fz d => exact Rep.up up2 op
            | own o => obtain ⟨a, z, r, f, no⟩ := op; exact ⟨a, z, r.up up2, (nF o a rfl z).1⟩
          · exact dj o a (by rw [e1]) e2 ⟨k, o', own2 k o' z1, z2⟩
          · cases k with
            | zero => simp at z ⊢; exact z
            | succ k => simp at z ⊢; exact own2 k o z
        | sl i =>
          cases ef : frz fr (.sl i) with
          | none => simp only [toW, ef, Option.map_none] at e1; cases e1
          | some q =>
            obtain ⟨d, fr1'⟩ := q
            simp only [toW, ef, Option.map_some] at e1
            cases e1
            obtain ⟨F1, n1, r1, up1, in1, sub1⟩ := frz_ok n op trivial ef
            have in1' : ∀ b, F1 b → F b ∨ Ow fr σ b := fun b f => by
              rcases in1 b f with z | z | ⟨o, z, _⟩
              · exact .inl z
              · exact .inr z
              · cases z
            have os1 : OpnsOk G F1 H fr1 σ ps us := by
              have key : ∀ (qs : List Opn) (xs : List V), OpnsOk G F H fr σ qs xs → OpnsOk G F1 H fr1 σ qs xs := by
                intro qs
                induction qs with
                | nil => intro xs h; exact h
                | cons q qs ih =>
                  intro xs h
                  obtain ⟨u, us', rfl, oq, oqs, dq⟩ := h
                  refine ⟨u, us', rfl, ?_, ih us' oqs, dq⟩
                  cases q with
                  | sl i => exact oq
                  | vl x =>
                    cases x with
                    | fz c => exact Rep.up up1 oq
                    | own c =>
                      obtain ⟨a, z, r, f, no⟩ := oq
                      exact ⟨a, z, r.up up1, fun g => (in1' a g).elim f no, fun y => no (sub1 a y)⟩
              exact key ps us os
            obtain ⟨F2, n2, r2, up2, in2, sub2, own2⟩ := toWs_ok (ps := ps) n1 os1 (fun a ⟨i, o, x, y⟩ => nw a ⟨i + 1, o, by simpa using x, by simpa using y⟩) e2
            refine ⟨F2, n2, ⟨w, us, rfl, Rep.up up2 r1, r2, fun o a z => nomatch z⟩, fun b e => up2 b (up1 b e), fun b f => ?_, fun b z => sub1 b (sub2 b z), fun k o z => ?_⟩
            · rcases in2 b f with z | z
              · exact in1' b z
              · exact .inr (sub1 b z)
            · cases k with
              | zero => simp at z
              | succ k => simp at z ⊢; exact own2 k o z
def puts : Fm → List Nat → List Val → Option Fm
  | fr, i :: is, v :: vs => (setS fr i v.sl).bind fun fr1 => puts fr1 is vs
  | fr, [], [] => some fr
  | _, _, _ => none
def setsV : St → List Nat → List V → St
  | σ, i :: is, w :: ws => setsV (σ.set i (some w)) is ws
  | σ, _, _ => σ
theorem NxS.puts : ∀ {is : List Nat} {vs : List Val} {ws : List V} {fr fr' : Fm} {σ : St}, NxS G B F0 H0 fr0 σ0 F H fr σ → VsOk G F H H0 fr σ vs ws → MP.puts fr is vs = some fr' → NxS G B F0 H0 fr0 σ0 F H fr' (setsV σ is ws)
  | [], [], ws, fr, fr', σ, n, o, e => by
    cases e
    unfold setsV
    exact n
  | i :: is, v :: vs, ws, fr, fr', σ, n, o, e => by
    obtain ⟨w, us, rfl, ov, os, dj⟩ := o
    unfold MP.puts at e
    cases e1 : setS fr i v.sl with
    | none => simp [e1] at e
    | some fr1 =>
      simp only [e1, Option.bind_some] at e
      have n1 := n.put e1 ov fun o a x y => ⟨(dj o a x y).1, .inr (dj o a x y).2.1⟩
      refine NxS.puts (is := is) n1 ?_ e
      have ow : ∀ a, Ow fr1 (σ.set i (some w)) a → Ow fr σ a ∨ ∃ o, v = .own o ∧ w = .ref a := fun a ⟨j, hj, ej⟩ => by
        have eq : fr1 = fr.set i v.sl := by
          unfold setS at e1
          cases q : fr[i]? with
          | none => rw [q] at e1; cases e1
          | some s => rw [q] at e1; cases s <;> cases e1 <;> rfl
        subst eq
        rcases own_setS hj with ⟨rfl, o, ev⟩ | ⟨nj, hj⟩
        · rcases setI ej with ⟨_, z⟩ | ⟨z, _⟩
          · cases z; exact .inr ⟨o, ev, rfl⟩
          · exact absurd rfl z
        · rcases setI ej with ⟨z, _⟩ | ⟨_, z⟩
          · exact absurd z nj
          · exact .inl ⟨j, hj, z⟩
      have key : ∀ (xs : List Val) (ys : List V), VsOk G F H H0 fr σ xs ys → (∀ (k : Nat) o a, xs[k]? = some (.own o) → ys[k]? = some (.ref a) → ∀ o', v = .own o' → w ≠ .ref a) → VsOk G F H H0 fr1 (σ.set i (some w)) xs ys := by
        intro xs
        induction xs with
        | nil => intro ys h _; exact h
        | cons x xs ih =>
          intro ys h hd
          obtain ⟨y, ys', rfl, oy, oys, dy⟩ := h
          refine ⟨y, ys', rfl, oy, ih ys' oys fun k o a e1 e2 => hd (k + 1) o a (by simpa using e1) (by simpa using e2), fun o a e1 e2 => ⟨fun z => ?_, (dy o a e1 e2).2⟩⟩
          rcases ow a z with z | ⟨o', z1, z2⟩
          · exact (dy o a e1 e2).1 z
          · exact hd 0 o a (by rw [e1]; rfl) (by rw [e2]; rfl) o' z1 z2
      exact key vs us os fun k o a e1 e2 o' ev ew => (dj o' a ev ew).2.2 k o e1 e2
def sPar (is : List Nat) (f : Fm → Out (List Opn)) : Fm → OutS := fun fr => (f fr).toS fun ps fr1 => match toWs fr1 ps with
  | some (vs, fr2) => match puts fr2 is vs with
    | some fr3 => .nx fr3
    | none => .bad
  | none => .bad
theorem par_ok {is : List Nat} {f : Fm → Out (List Opn)} {D : Ends} (h : tS G B W (sPar is f) D σ H) : tA G B W f σ H fun ws H1 => ws.length = is.length ∧ D.nx (setsV σ is ws) H1 ∧ ∀ p o, H1 p = none → D.nx (setsV σ is ws) (upd H1 p o) := by
  obtain ⟨F, fr, I, h⟩ := h
  refine ⟨F, fr, I, h.head.imp fun ps fr1 F1 H1 _ ⟨n1, h1⟩ ws os nw => ?_⟩
  cases et : toWs fr1 ps with
  | none => rw [et] at h1; exact h1.elim
  | some q =>
    obtain ⟨vs, fr2⟩ := q
    simp only [et] at h1
    obtain ⟨F2, n2, r2, _⟩ := toWs_ok n1 os nw et
    cases ep : MP.puts fr2 is vs with
    | none => rw [ep] at h1; exact h1.elim
    | some fr3 =>
      simp only [ep] at h1
      have n3 := (NxS.of n2).puts r2 ep
      refine ⟨?_, h1 F2 H1 _ n3, fun p o hp => h1 F2 (upd H1 p o) _ ⟨n3.I.step (step_new hp) (fun _ _ z => z) (fun _ _ z => z), n3.st.trans (step_new hp) (fun _ z => z.elim), n3.sub⟩⟩
      have : ∀ (fr fr' : Fm) (is : List Nat) (vs : List Val) (ws : List V), VsOk G F2 H1 H fr2 σ vs ws → MP.puts fr is vs = some fr' → ws.length = is.length := by
        intro fr fr' is
        induction is generalizing fr with
        | nil => intro vs ws h e; cases vs with
          | nil => have : ws = [] := h; rw [this]; rfl
          | cons v vs => cases e
        | cons i is ih => intro vs ws h e; cases vs with
          | nil => cases e
          | cons v vs =>
            obtain ⟨w, us, rfl, _, hs, _⟩ := h
            unfold MP.puts at e
            cases e1 : setS fr i v.sl with
            | none => simp [e1] at e
            | some fr1 => simp only [e1, Option.bind_some] at e; simp [ih fr1 vs us hs e]
      exact this fr2 fr3 is vs ws r2 ep
theorem ss_par2 {i j : Nat} {x y : Str} {a b : Expr} {f : Fm → Out (List Opn)} {px py pt : Pos} {kt k2 pt2} (hc : X.calm = true) (hN : X.N.Nodup) (hi : X.N[i]? = some x) (hj : X.N[j]? = some y) (hij : i ≠ j)
    (hx : X.env.scope.names.lookup x = some .local) (hy : X.env.scope.names.lookup y = some .local) (ha : SA X G B W [a, b] f)
    (hw : swappedStores [.Tuple [.Name x px, .Name y py] kt pt] (.Tuple [a, b] k2 pt2) X.env = pure (some [x, y]) := by rfl)
    (hs : swapsWithSole [.Tuple [.Name x px, .Name y py] kt pt] (.Tuple [a, b] k2 pt2) pos.line X.env = pure false := by rfl) :
    SS X G B W (.Assign [.Tuple [.Name x px, .Name y py] kt pt] (.Tuple [a, b] k2 pt2) pos) (sPar [i, j] f) :=
  PS.of (ps_par hc hN hi hj hij hx hy ha hw hs) fun D σ H h => by
    obtain ⟨F, fr, I, h⟩ := par_ok h
    refine ⟨F, fr, I, h.imp fun ps fr1 F1 H1 _ k ws os nw => ?_⟩
    obtain ⟨hl, k, _⟩ := k ws os nw
    match ws, hl with
    | [u, v], _ => exact ⟨u, v, rfl, k⟩
theorem ss_par3 {i j l : Nat} {x y z : Str} {a b c : Expr} {f : Fm → Out (List Opn)} {px py pz pt : Pos} {kt k2 pt2} (hc : X.calm = true) (hN : X.N.Nodup) (hi : X.N[i]? = some x) (hj : X.N[j]? = some y) (hl : X.N[l]? = some z) (hij : i ≠ j) (hil : i ≠ l) (hjl : j ≠ l)
    (hx : X.env.scope.names.lookup x = some .local) (hy : X.env.scope.names.lookup y = some .local) (hz : X.env.scope.names.lookup z = some .local) (ha : SA X G B W [a, b, c] f)
    (hw : swappedStores [.Tuple [.Name x px, .Name y py, .Name z pz] kt pt] (.Tuple [a, b, c] k2 pt2) X.env = pure (some [x, y, z]) := by rfl)
    (hs : swapsWithSole [.Tuple [.Name x px, .Name y py, .Name z pz] kt pt] (.Tuple [a, b, c] k2 pt2) pos.line X.env = pure false := by rfl) :
    SS X G B W (.Assign [.Tuple [.Name x px, .Name y py, .Name z pz] kt pt] (.Tuple [a, b, c] k2 pt2) pos) (sPar [i, j, l] f) :=
  PS.of (ps_par3 hc hN hi hj hl hij hil hjl hx hy hz ha hw hs) fun D σ H h => by
    obtain ⟨F, fr, I, h⟩ := par_ok h
    refine ⟨F, fr, I, h.imp fun ps fr1 F1 H1 _ k ws os nw => ?_⟩
    obtain ⟨hl, k, _⟩ := k ws os nw
    match ws, hl with
    | [u, v, w], _ => exact ⟨u, v, w, rfl, k⟩
/-- the names of a tuple target, raw -/
def gNs : List Nat → TGs
  | [] => gNil
  | i :: is => gCons (gName i) (gNs is)
theorem gNs_ok {Q : St → Hp → Prop} : ∀ {is : List Nat} {ws : List V} {σ : St}, ws.length = is.length → Q (setsV σ is ws) H → gNs is ws σ H Q
  | [], ws, σ, hl, q => by
    have : ws = [] := List.length_eq_zero_iff.mp hl
    subst this
    exact ⟨rfl, by unfold setsV at q; exact q⟩
  | i :: is, [], σ, hl, q => by simp at hl
  | i :: is, w :: ws, σ, hl, q => ⟨w, ws, rfl, gNs_ok (is := is) (by simpa using hl) (by unfold setsV at q; exact q)⟩
/-- .. through a tuple (names that are cells, more than three) -/
theorem ss_parT {is : List Nat} {ts es : List Expr} {f : Fm → Out (List Opn)} {pt pt2 : Pos} {kt k2} {n : Nat} (hc : X.calm = true) (ha : SA X G B W es f) (hg : PGs X ts (gNs is)) (hn' : n = is.length := by rfl)
    (hn : (assignEach ts X.env).length = n := by rfl) (hst : (assignEach ts X.env).findIdx? (·.1) = none := by rfl) (hz : is.length ≤ sizeLine := by decide)
    (hs : swapsWithSole [.Tuple ts kt pt] (.Tuple es k2 pt2) pos.line X.env = pure false := by rfl) (hw : swappedStores [.Tuple ts kt pt] (.Tuple es k2 pt2) X.env = pure none := by rfl)
    (h1 : (assignEach [.Tuple ts kt pt] X.env).map (·.2) = [assign (.Tuple ts kt pt) X.env] := by rfl) :
    SS X G B W (.Assign [.Tuple ts kt pt] (.Tuple es k2 pt2) pos) (sPar is f) :=
  PS.of (ps_asg (pe_tup ha) (pg_tup hc hg hn hst) hs hw h1) fun D σ H h => by
    obtain ⟨F, fr, I, h⟩ := par_ok h
    refine ⟨F, fr, I, h.imp fun ps fr1 F1 H1 _ k ws os nw => ?_⟩
    obtain ⟨hl, _, k⟩ := k ws os nw
    exact ⟨by rw [hl]; exact hz, fun p hp => ⟨p, ws, rfl, .of upd_same, by rw [hl, hn'], gNs_ok hl (k p _ hp)⟩⟩
/-! ### a[i] = e -/
def LiftSet (G : Gx) (r : TSet) (g : O → D → D → Option O) : Prop :=
  ∀ (F : Addr → Prop) (H : Hp) (a : Addr) (o o' : O) (d e : D) (i v : V) (Q : Hp → Prop), ¬ F a → OwnAt G F H o a → RRep G F H d i → Rep G F H e v → g o d e = some o' →
    (∀ H', Step F H (fun b => b = a) F H' → OwnAt G F H' o' a → Q H') → r (.ref a) i v H Q
def sPut (g : O → D → D → Option O) (fv fo fi : Fm → Out Opn) : Fm → OutS := fun fr => (fv fr).toS fun p fr1 => match frz fr1 p with
  | some (e, fr2) => (fo fr2).toS fun q fr3 => match q with
    | .sl k => (fi fr3).toS fun s fr4 => match cont fr4 s, slO fr4 k with
      | some d, some o => match g o d e with
        | some o' => .nx (setO fr4 k o')
        | none => .bad
      | _, _ => .bad
    | _ => .bad
  | none => .bad
theorem ss_put {o i value : Expr} {r : TSet} {g : O → D → D → Option O} {fv fo fi : Fm → Out Opn} {tpos : Pos} (k : LiftSet G r g) (hv : SE X G B W value fv) (hp : PG X (.Subscript o i tpos) (gSub (tE G B W fo) (tE G B W fi) r))
    (hs : swapsWithSole [.Subscript o i tpos] value pos.line X.env = pure false := by rfl) (hw : swappedStores [.Subscript o i tpos] value X.env = pure none := by rfl) : SS X G B W (.Assign [.Subscript o i tpos] value pos) (sPut g fv fo fi) := by
  refine PS.of (ps_asg hv hp hs hw (by rfl)) fun D σ H ⟨F, fr, I, h⟩ => ?_
  refine ⟨F, fr, I, h.head.imp fun p fr1 F1 H1 _ ⟨n1, h1⟩ v op nw => ?_⟩
  cases ef : frz fr1 p with
  | none => rw [ef] at h1; exact h1.elim
  | some q =>
    obtain ⟨e, fr2⟩ := q
    simp only [ef] at h1
    obtain ⟨F2, n2, r2, _⟩ := frz_ok n1 op nw ef
    refine ⟨F2, fr2, n2.I, (h1.later (.of n2)).head.imp fun q fr3 F3 H3 _ ⟨n3, h3⟩ x ox _ => ?_⟩
    cases q with
    | vl w => exact h3.elim
    | sl k' =>
      refine ⟨F3, fr3, n3.I, (h3.later (.of n3)).head.imp fun s fr4 F4 H4 _ ⟨n4, h4⟩ y oy _ => ?_⟩
      have n34 := n3.trans n4
      cases ec : cont fr4 s with
      | none => rw [ec] at h4; exact h4.elim
      | some d =>
        cases eo : slO fr4 k' with
        | none => simp [ec, eo] at h4; exact h4.elim
        | some o =>
          simp only [ec, eo] at h4
          cases eg : g o d e with
          | none => rw [eg] at h4; exact h4.elim
          | some o' =>
            simp only [eg] at h4
            obtain ⟨a, rfl, ro, nF, ow⟩ := n4.I.at eo ox
            refine k F4 H4 a o o' d e y v _ nF ro (cont_ok n4.I oy ec) (Rep.step n34.st.toKp n2.I.ow_not e v r2) eg fun H' st wo => ?_
            have n5 := n4.write eo ox st wo nF
            exact h4 F4 H' σ (.of n5)
end
end MP
set_option Elab.async false
set_option linter.all false
set_option maxRecDepth 100000
set_option maxHeartbeats 400000
/-! MPE: enumerate over a tuple. -/
namespace PySem
open Sem (wp)
open AutoSeq1 (wpAny_loadPart')
theorem mp_enum_newT (l : Addr) (items : Array Value) (n : Nat) (dct : Option Addr) (sl : Array (Option Value)) :
    Meets (Builtin.«enumerate.__new__» ⟨[.type "enumerate", .ref l], []⟩) (fun _ R s => s.heap.get? l = some { cls := .type "tuple", dict := dct, data := .seq items n, slots := sl } ∧
      R (.ok (.ret (.ref (s.heap.push { cls := .type "tuple_iterator", data := .fields #[.ref l, .int 0 0] }).objs.size)))
        { s with heap := (s.heap.push { cls := .type "tuple_iterator", data := .fields #[.ref l, .int 0 0] }).push { cls := .type "enumerate", data := .fields #[.none, .bool false, .ref s.heap.objs.size, rawInt 0, .none, .none] } }) :=
  .of_wp fun prog w A R s h => by
    obtain ⟨hp, g, d, tk, os⟩ := s; obtain ⟨hl, h⟩ := h
    have hsub := sub_enumerate
    have hL : Heap.IsTuple (Shared.heap ⟨hp, g, d, tk, os⟩) l items := ⟨_, hl, rfl, n, rfl⟩
    wp_walk using wpAny_loadPart' hl
    refine wpAny_stack_any fun st => wpAny_pure ?_
    split
    · rename_i c _ _ _ _ _
      cases (c == Value.type "enumerate")
      · wp_walk using wpAny_loadPart' hl, wpAny_pyIter_tuple hL
        exact ⟨_, rfl, h⟩
      · wp_walk using wpAny_loadPart' hl, wpAny_pyIter_tuple hL
        exact ⟨_, rfl, h⟩
    · wp_walk using wpAny_loadPart' hl, wpAny_pyIter_tuple hL
      exact ⟨_, rfl, h⟩
section
variable {prog : Program} {w : World} {A : Around} {E : Value → Shared → Prop} {s : Shared}
theorem mp_call_enumT {l : Addr} {items : Array Value} {Q : Value → Shared → Prop} (hL : s.heap.IsTuple l items)
    (h : ∀ h', IsEnum h' (s.heap.objs.size + 1) s.heap.objs.size 0 .none → h'.IsTupleIter s.heap.objs.size l 0 → h'.objs.size = s.heap.objs.size + 2 →
      (∀ b o, s.heap.get? b = some o → h'.get? b = some o) → Q (.ref (s.heap.objs.size + 1)) { s with heap := h' }) :
    wpAny (model prog w) A (call (.type "enumerate") [.ref l]) Q E s := by
  obtain ⟨⟨c, dct, dt, sl⟩, hl, hc, n, hd⟩ := hL
  replace hc : c = .type "tuple" := hc
  replace hd : dt = .seq items n := hd
  subst hc hd
  refine callType_new F.called_enumerate (by decide) (F.typeCall_enumerate_1 _) (F.newCall_enumerate_1 _) (fun obj => F.args_object_init_2 obj _) F.entry_enumerate_new
    (mp_enum_newT l items n dct sl) ⟨hl, ?_⟩
  have hz : (s.heap.push { cls := .type "tuple_iterator", data := .fields #[.ref l, .int 0 0] }).objs.size = s.heap.objs.size + 1 := Heap.size_push ..
  show _ ∧ _
  rw [hz]
  have he : IsEnum ((s.heap.push { cls := .type "tuple_iterator", data := .fields #[.ref l, .int 0 0] }).push
      { cls := .type "enumerate", data := .fields #[.none, .bool false, .ref s.heap.objs.size, rawInt 0, .none, .none] }) (s.heap.objs.size + 1) s.heap.objs.size 0 .none := by
    have := Heap.get?_push_size (s.heap.push { cls := .type "tuple_iterator", data := .fields #[.ref l, .int 0 0] })
      (o := { cls := .type "enumerate", data := .fields #[.none, .bool false, .ref s.heap.objs.size, rawInt 0, .none, .none] }) rfl
    rw [hz] at this; exact this
  refine ⟨⟨_, he, rfl⟩, h _ he ⟨_, Heap.get?_push_of_some _ (Heap.get?_push_size _ rfl), rfl, rfl⟩ (by rw [Heap.size_push, hz]) fun b o x => Heap.get?_push_of_some _ (Heap.get?_push_of_some _ x)⟩
end
end PySem
namespace MP
open PySem PySem.Spec L2
/-- enumerate over the tuple at a -/
def IteT (K : PySem.W.Frag) (a : Addr) : It :=
  ⟨fun i H => ∃ (xs : List V) (x : V), SqT K H a xs ∧ xs[i]? = some x, fun i H v H' => ∃ T x, v = .ref T ∧ H T = none ∧ H' = upd H T (.tup [.int (i : Nat), x]) ∧ ∀ xs, SqT K H a xs → xs[i]? = some x, fun i H => ∃ xs : List V, SqT K H a xs ∧ xs.length ≤ i⟩
theorem turn_enumT {P : Program} {w : World} {K : PySem.W.Frag} {elts : List Expr} {kk : Nat} {tpos : Pos} (a e it : Addr) :
    Turn P w K (.Tuple elts kk tpos) (IteT K a) [e, it] e (fun i h => (∃ old, IsEnum h e it ((i : Nat) : Int) old) ∧ h.IsTupleIter it a i ∧ e ≠ it) where
  mem := by simp
  obj := fun i h st b hb => by
    obtain ⟨⟨old, he⟩, ⟨o, ho, hc, hd⟩, _⟩ := st
    have e' : b = e ∨ b = it := by simpa using hb
    rcases e' with z | z
    · rw [z]; exact ⟨_, he, fun v q => nomatch q⟩
    · rw [z]; exact ⟨o, ho, fun v q => by rw [hd] at q; cases q⟩
  keep := fun i h h' st k => let ⟨⟨old, he⟩, ⟨o, ho, r⟩, hne⟩ := st; ⟨⟨old, k e (by simp) _ he⟩, ⟨o, k it (by simp) o ho, r⟩, hne⟩
  item := by
    intro X hP hw hK hc i pins s σ H E I hf st hg
    subst hP hw hK
    obtain ⟨⟨old, he⟩, hit, hne⟩ := st
    obtain ⟨xs, x, hq, hx⟩ := hg
    obtain ⟨its, rv, p, hz⟩ := I.tuple hq
    obtain ⟨u, hu, ru⟩ := rv.get hx
    have hel : e < s.heap.objs.size := Heap.lt_size he
    have hil : it < s.heap.objs.size := by obtain ⟨_, q, _⟩ := hit; exact Heap.lt_size q
    have hai : a ≠ it := by
      obtain ⟨o, ho, hc, hd⟩ := hit
      obtain ⟨o', ho', hc', n, hd'⟩ := p
      intro z; subst z; rw [ho] at ho'; cases ho'; rw [hd] at hd'; cases hd'
    have hae : e ≠ a := by
      obtain ⟨o', ho', hc', n, hd'⟩ := p
      intro z; subst z; rw [he] at ho'; cases ho'; cases hd'
    have lt : i < its.toArray.size := by
      have := (List.getElem?_eq_some_iff.mp hu).1
      simpa using this
    refine wpAny_pyNext_enum_itemD (Draws.tuple (A := X.A.in1) (I.ok.hd hc) it a hai its.toArray) he ⟨hit, p⟩ lt hne (by simp [hne, hae]) fun y h' tk hy ho hst hT hsz hk => ?_
    obtain ⟨hit', _⟩ := hst
    obtain rfl : y = u := by
      have h2 : its.toArray[i]? = some u := by simpa using hu
      rw [h2] at hy; cases hy; rfl
    refine ⟨_, rfl, wpAny_letOwnedTupleGo_enum (s := { s with heap := h', toks := tk + 1 }) ho fun h'' he' sb => ?_⟩
    have hT2 : h''.get? s.heap.objs.size = some { cls := .type "tuple", data := .seq #[.int i tk, y] } := (sb.2 _ (Nat.ne_of_gt hel)).trans hT
    have new : ObjOk X.prog X.w (upd H s.heap.objs.size (.tup [.int (i : Nat), x])) h'' s.heap.objs.size (.tup [.int (i : Nat), x]) :=
      ⟨by show 2 ≤ sizeLine; decide, [.int i tk, y], .cons ⟨_, rfl⟩ (.cons ru .nil), ⟨_, hT2, rfl, _, rfl⟩⟩
    have I1 : Inv X pins σ (upd H s.heap.objs.size (.tup [.int (i : Nat), x])) { s with heap := h'', toks := tk + 1 } :=
      I.turnedNew (ch := [e, it]) (fun b ob hb q => (sb.2 b (fun z => hb (by simp [z]))).trans (hk b ob (fun z => hb (by simp [z])) (fun z => hb (by simp [z])) q)) hf (Nat.le_refl _) new
    obtain ⟨oi, hoi, ri⟩ := hit'
    refine ⟨.ref s.heap.objs.size, _, I1, rfl, ⟨_, x, rfl, I.hok.fresh (Nat.le_refl _), rfl, fun ys hy => by rw [I.tuple_inj hy hq]; exact hx⟩, ⟨⟨y, ?_⟩, ⟨oi, (sb.2 it (Ne.symm hne)).trans hoi, ri⟩, hne⟩, fun b hb => ?_⟩
    · have e1 : ((i + 1 : Nat) : Int) = (i : Int) + 1 := by omega
      rw [e1]; exact he'
    · have hb' : b < s.heap.objs.size := by
        have e' : b = e ∨ b = it := by simpa using hb
        rcases e' with z | z
        · rw [z]; exact hel
        · rw [z]; exact hil
      rw [upd_ne (Nat.ne_of_lt hb')]
      exact (hf b hb).1
  done := by
    intro X hP hw hK hc i pins s σ H E I hf st hg
    subst hP hw hK
    obtain ⟨⟨old, he⟩, hit, hne⟩ := st
    obtain ⟨xs, hq, hx⟩ := hg
    obtain ⟨its, rv, p, hz⟩ := I.tuple hq
    obtain ⟨f0, f1, f2, f3, f4, f5⟩ := hf it (by simp)
    have hl := rv.length
    have hai : a ≠ it := by
      obtain ⟨o, ho, hc, hd⟩ := hit
      obtain ⟨o', ho', hc', n, hd'⟩ := p
      intro z; subst z; rw [ho] at ho'; cases ho'; rw [hd] at hd'; cases hd'
    have D0 := Draws.tuple (prog := X.prog) (w := X.w) (A := X.A.in1) (I.ok.hd hc) it a hai its.toArray
    have D1 : Draws X.prog X.w X.A.in1 it [it, a] i (fun _ _ => False) (fun j h => j = i ∧ h.IsTupleIter it a i ∧ h.IsTuple a its.toArray) := {
      live := fun j h st => by obtain ⟨_, ⟨o, ho, _⟩, _⟩ := st; exact ⟨o, ho⟩
      frame := fun j h h' st k => by
        obtain ⟨rfl, ⟨o, ho, r⟩, ⟨o2, ho2, r2⟩⟩ := st
        exact ⟨rfl, ⟨o, k it (by simp) o ho, r⟩, ⟨o2, k a (by simp) o2 ho2, r2⟩⟩
      item := fun j s Q E hi st hQ => by obtain ⟨rfl, _⟩ := st; exact absurd hi (Nat.lt_irrefl _)
      done := fun s Q E st hE => wpAny_nextOf_tuple_end (I.ok.hd hc) st.2.1 st.2.2 (by simp; omega) hE }
    exact wpAny_pyNext_enum_endD D1 he ⟨rfl, hit, p⟩ fun h' eb => ⟨rfl, I.turned (t' := s.toks) (fun b o hb q => eb b o hb q) f0 f1 f3 f4 f5⟩
  self := fun A i s Q E st h => let ⟨⟨_, he⟩, _⟩ := st; wpAny_pyIter_enum he h
/-- enumerate(e), e a list or a tuple -/
def iEnumA (K : PySem.W.Frag) (ta : TA) : TI := fun σ H R => ta σ H fun vs H1 => ∃ a xs, vs = [.ref a] ∧ ((SqL K H1 a xs ∧ R (Ite K a) H1) ∨ (SqT K H1 a xs ∧ R (IteT K a) H1))
theorem pi_enumA {X : Cx} {e : Expr} {ta : TA} {p pos tpos : Pos} {elts : List Expr} {kk : Nat} (hg : Gl X "enumerate") (hm : X.mg "enumerate" = none) (ha : PA X [e] ta) (hs : starEach [e] X.env = [(false, eval e X.env)] := by rfl) :
    PI X (.Tuple elts kk tpos) (.Call (.Name "enumerate" p) [e] [] pos) (iEnumA X.K ta) := by
  refine ⟨fun pins s σ H R I h => ?_⟩
  refine PyProof.Rows.Call_ (ld_blt I hg hm PyProof.Rows.boot_enumerate (PyProof.Rows.callWith_type1 (thn (ha.run pos pins s σ H _ I h) fun us s1 ⟨vs, H1, I1, r1, q1⟩ => ?_) hs rfl))
  obtain ⟨a, xs, ex, hq⟩ := q1
  subst ex
  cases r1 with
  | cons r rr =>
    cases rr
    cases r
    have fin : ∀ b : Addr, (b = s1.heap.objs.size + 1 ∨ b = s1.heap.objs.size) → FpOk X pins H1 b := fun b e' => by
      have hle : s1.heap.objs.size ≤ b := by
        rcases e' with z | z
        · rw [z]; exact Nat.le_add_right _ _
        · rw [z]; exact Nat.le_refl _
      exact I1.fpOk hle (I1.hok.fresh hle)
    rcases hq with ⟨hq, q⟩ | ⟨hq, q⟩
    · obtain ⟨its, rv, p', hz⟩ := I1.list hq
      refine call_enumerate_list p'.isList fun h' he hit hsz hk => wpAny_pyIter_enum he ?_
      exact ⟨s1.heap.objs.size + 1, [s1.heap.objs.size + 1, s1.heap.objs.size], _, _, H1, rfl, I1.kept (t' := s1.toks) hk, turn_enum a (s1.heap.objs.size + 1) s1.heap.objs.size, ⟨⟨.none, he⟩, hit, Nat.succ_ne_self _⟩, fun b hb => fin b (by simpa using hb), q⟩
    · obtain ⟨its, rv, p', hz⟩ := I1.tuple hq
      refine mp_call_enumT p' fun h' he hit hsz hk => wpAny_pyIter_enum he ?_
      exact ⟨s1.heap.objs.size + 1, [s1.heap.objs.size + 1, s1.heap.objs.size], _, _, H1, rfl, I1.kept (t' := s1.toks) hk, turn_enumT a (s1.heap.objs.size + 1) s1.heap.objs.size, ⟨⟨.none, he⟩, hit, Nat.succ_ne_self _⟩, fun b hb => fin b (by simpa using hb), q⟩
/-- a list, a tuple or a text that is walked -/
def iAny (K : PySem.W.Frag) (tl : TE) : TI := fun σ H R => tl σ H fun x H1 => (∃ a, x = .ref a ∧ (∃ xs, SqL K H1 a xs) ∧ R (Itl K a) H1) ∨ (∃ a, x = .ref a ∧ (∃ xs, SqT K H1 a xs) ∧ R (Itt K a) H1) ∨ ∃ z, x = .str z ∧ R (Its z) H1
theorem pi_any {X : Cx} {tg l : Expr} {tl : TE} (hl : PE X l tl) : PI X tg l (iAny X.K tl) := by
  refine ⟨fun pins s σ H R I h => ?_⟩
  refine thn (hl.run pins s σ H _ I h) fun v s1 ⟨x, H1, I1, r1, q1⟩ => ?_
  have hb : ∀ b ∈ [s1.heap.objs.size], FpOk X pins H1 b := fun b hb => by
    have e : b = s1.heap.objs.size := by simpa using hb
    subst e
    exact I1.fpOk (Nat.le_refl _) (I1.hok.fresh (Nat.le_refl _))
  rcases q1 with ⟨a, e, ⟨xs, hq⟩, q⟩ | ⟨a, e, ⟨xs, hq⟩, q⟩ | ⟨z, e, q⟩
  · subst e
    cases r1
    obtain ⟨its, rv, p, hz⟩ := I1.list hq
    refine wpAny_pyIter_list p.isList ?_
    exact ⟨s1.heap.objs.size, [s1.heap.objs.size], _, _, H1, rfl, I1.kept (t' := s1.toks) fun b o e => Heap.get?_push_of_some _ e, turn_list a _, ⟨_, Heap.get?_push_size _ rfl, rfl, rfl⟩, hb, q⟩
  · subst e
    cases r1
    obtain ⟨its, rv, p, hz⟩ := I1.tuple hq
    refine wpAny_pyIter_tuple (show s1.heap.IsTuple a its.toArray from p) ?_
    exact ⟨s1.heap.objs.size, [s1.heap.objs.size], _, _, H1, rfl, I1.kept (t' := s1.toks) fun b o e => Heap.get?_push_of_some _ e, turn_tuple a _, ⟨_, Heap.get?_push_size _ rfl, rfl, rfl⟩, hb, q⟩
  · subst e
    obtain ⟨t, rfl⟩ := r1
    cases ha : z.cps.all (· < 128)
    · exact wpAny_pyIter_wide ha (pi_one (tk := s1.toks) I1 _ (turn_str _ z t "str_iterator" (.inr rfl)) ⟨_, Heap.get?_push_size _ rfl, rfl, rfl⟩ q)
    · exact wpAny_pyIter_ascii ha (pi_one (tk := s1.toks) I1 _ (turn_str _ z t "str_ascii_iterator" (.inl rfl)) ⟨_, Heap.get?_push_size _ rfl, rfl, rfl⟩ q)
end MP
set_option Elab.async false
set_option linter.all false
set_option maxRecDepth 100000
set_option maxHeartbeats 400000
/-! MP6: what a loop walks; for, while; comprehensions. -/
namespace MP
open PySem PySem.Spec L2
section
variable {G : Gx} {B : Bx} {σ σ0 σ1 σ2 σ' : St} {F F0 F1 F2 F' : Addr → Prop} {H H0 H1 H2 H' : Hp} {fr fr0 fr1 fr2 fr' : Fm} {W : WX} {S : Addr → Prop} {X : Cx} {pos : Pos}
/-- J walks the data ds, wherever what is given up stands as in (F, H) -/
def ItOk (G : Gx) (F : Addr → Prop) (H : Hp) (J : It) (ds : List D) : Prop := ∀ (F2 : Addr → Prop) (H2 : Hp) (i : Nat), Kp F H (fun b => ¬ F b) F2 H2 →
  (∀ d, ds[i]? = some d → J.go i H2 ∧ ∀ x H3, J.yld i H2 x H3 → ∃ F3, Step F2 H2 (fun _ => False) F3 H3 ∧ Rep G F3 H3 d x) ∧ (i = ds.length → J.stop i H2)
theorem Nx.kp (n : Nx G B σ F H fr F' H' fr') (dj : ∀ b, F b → ¬ Ow fr σ b) : Kp F H (fun b => ¬ F b) F' H' :=
  ⟨fun b o e nn => n.st.keep b o e (dj b (Classical.byContradiction nn)), n.st.tups, n.st.mono⟩
theorem NxS.kp (n : NxS G B F H fr σ F' H' fr' σ') (dj : ∀ b, F b → ¬ Ow fr σ b) : Kp F H (fun b => ¬ F b) F' H' :=
  ⟨fun b o e nn => n.st.keep b o e (dj b (Classical.byContradiction nn)), n.st.tups, n.st.mono⟩
def tI (G : Gx) (B : Bx) (W : WX) (f : Fm → Out (List D)) : TI := fun σ H R => ∃ F fr, SI G F H B fr σ ∧ Aft G B W σ F H fr (f fr) fun ds fr' F' H' => ∀ J, ItOk G F' H' J ds → R J H'
abbrev SIt (X : Cx) (G : Gx) (B : Bx) (W : WX) (tg e : Expr) (f : Fm → Out (List D)) : Prop := PI X tg e (tI G B W f)
theorem PI.of {tg e : Expr} {t t' : TI} (h : PI X tg e t) (k : ∀ σ H R, t' σ H R → t σ H R) : PI X tg e t' := by
  constructor
  intros
  apply h.run <;> first | assumption | (apply k; assumption)
theorem itl_ok {a : Addr} {vs : List V} {ds : List D} (f : F a) (q : H a = some (.lst vs)) (rs : Reps G F H ds vs) : ItOk G F H (Itl G.K a) ds := by
  intro F2 H2 i kp
  have q2 := kp.keep a _ q (fun z => z f)
  have rs2 := Reps.step kp (fun b f z => z f) _ _ rs
  refine ⟨fun d hd => ?_, fun e => ⟨vs, .of q2, by rw [e, rs.len]; exact Nat.le_refl _⟩⟩
  obtain ⟨v, hv, rv⟩ := rs2.get hd
  refine ⟨⟨vs, v, .of q2, hv⟩, fun x H3 hy => ?_⟩
  obtain ⟨rfl, hy⟩ := hy
  have := hy vs (.of q2)
  rw [hv] at this
  cases this
  exact ⟨F2, .refl, rv⟩
theorem itt_ok {a : Addr} {vs : List V} {ds : List D} (q : H a = some (.tup vs)) (rs : Reps G F H ds vs) : ItOk G F H (Itt G.K a) ds := by
  intro F2 H2 i kp
  have q2 := kp.tups a _ q rfl
  have rs2 := Reps.step kp (fun b f z => z f) _ _ rs
  refine ⟨fun d hd => ?_, fun e => ⟨vs, .of q2, by rw [e, rs.len]; exact Nat.le_refl _⟩⟩
  obtain ⟨v, hv, rv⟩ := rs2.get hd
  refine ⟨⟨vs, v, .of q2, hv⟩, fun x H3 hy => ?_⟩
  obtain ⟨rfl, hy⟩ := hy
  have := hy vs (.of q2)
  rw [hv] at this
  cases this
  exact ⟨F2, .refl, rv⟩
def signs (z : Str) : List D := z.cps.toList.map fun c => .str ⟨#[c]⟩
theorem its_ok {z : Str} : ItOk G F H (Its z) (signs z) := by
  intro F2 H2 i kp
  refine ⟨fun d hd => ?_, fun e => by rw [e]; simp [signs, Its]⟩
  unfold signs at hd
  rw [List.getElem?_map] at hd
  cases e : z.cps.toList[i]? with
  | none => rw [e] at hd; cases hd
  | some c =>
    rw [e] at hd
    cases hd
    have e' : z.cps[i]? = some c := by simpa using e
    refine ⟨(show i < z.cps.size by simpa using (List.getElem?_eq_some_iff.mp e).1), fun x H3 hy => ?_⟩
    obtain ⟨rfl, c', h1, rfl⟩ := hy
    rw [e'] at h1
    cases h1
    exact ⟨F2, .refl, by unfold Rep; rfl⟩
def numbered (n : Nat) : List D → List D
  | [] => []
  | d :: ds => .tup [.int n, d] :: numbered (n + 1) ds
theorem numbered_get : ∀ {ds : List D} {n i : Nat} {d : D}, (numbered n ds)[i]? = some d → ∃ c, ds[i]? = some c ∧ d = .tup [.int ((n + i : Nat) : Int), c]
  | [], n, i, d, h => by simp [numbered] at h
  | c :: ds, n, 0, d, h => by simp [numbered] at h; exact ⟨c, by simp, by simp [h]⟩
  | c :: ds, n, i + 1, d, h => by
    obtain ⟨c', h1, h2⟩ := numbered_get (ds := ds) (n := n + 1) (i := i) (by simpa [numbered] using h)
    exact ⟨c', by simpa using h1, by rw [h2]; congr 3; omega⟩
theorem numbered_len : ∀ {ds : List D} {n : Nat}, (numbered n ds).length = ds.length
  | [], n => rfl
  | d :: ds, n => by simp [numbered, numbered_len (ds := ds)]
theorem pair_new {T : Addr} {x y : V} {d e : D} (hT : H T = none) (rd : Rep G F H d x) (re : Rep G F H e y) : Rep G F (upd H T (.tup [x, y])) (.tup [d, e]) (.ref T) := by
  have := new_tup (G := G) (F := F) hT (Reps.cons rd (Reps.cons re Reps.nil))
  exact this
theorem ite_ok {a : Addr} {vs : List V} {ds : List D} (f : F a) (q : H a = some (.lst vs)) (rs : Reps G F H ds vs) : ItOk G F H (Ite G.K a) (numbered 0 ds) := by
  intro F2 H2 i kp
  have q2 := kp.keep a _ q (fun z => z f)
  have rs2 := Reps.step kp (fun b f z => z f) _ _ rs
  refine ⟨fun d hd => ?_, fun e => ⟨vs, .of q2, by rw [e, numbered_len, rs.len]; exact Nat.le_refl _⟩⟩
  obtain ⟨c, hc, rfl⟩ := numbered_get hd
  obtain ⟨v, hv, rv⟩ := rs2.get hc
  refine ⟨⟨vs, v, .of q2, hv⟩, fun x H3 hy => ?_⟩
  obtain ⟨T, y, rfl, hT, rfl, hy⟩ := hy
  have := hy vs (.of q2)
  rw [hv] at this
  cases this
  exact ⟨F2, step_new hT, by rw [Nat.zero_add]; exact pair_new hT (by unfold Rep; rfl) rv⟩
theorem itet_ok {a : Addr} {vs : List V} {ds : List D} (q : H a = some (.tup vs)) (rs : Reps G F H ds vs) : ItOk G F H (IteT G.K a) (numbered 0 ds) := by
  intro F2 H2 i kp
  have q2 := kp.tups a _ q rfl
  have rs2 := Reps.step kp (fun b f z => z f) _ _ rs
  refine ⟨fun d hd => ?_, fun e => ⟨vs, .of q2, by rw [e, numbered_len, rs.len]; exact Nat.le_refl _⟩⟩
  obtain ⟨c, hc, rfl⟩ := numbered_get hd
  obtain ⟨v, hv, rv⟩ := rs2.get hc
  refine ⟨⟨vs, v, .of q2, hv⟩, fun x H3 hy => ?_⟩
  obtain ⟨T, y, rfl, hT, rfl, hy⟩ := hy
  have := hy vs (.of q2)
  rw [hv] at this
  cases this
  exact ⟨F2, step_new hT, by rw [Nat.zero_add]; exact pair_new hT (by unfold Rep; rfl) rv⟩
/-- a list, a tuple, a text -/
def itemsOf : D → Option (List D)
  | .lst ds => some ds
  | .tup ds => some ds
  | .str z => some (signs z)
  | _ => none
def iAnyF (f : Fm → Out Opn) : Fm → Out (List D) := fun fr => (f fr).bind fun p fr1 => match frz fr1 p with
  | some (d, fr2) => match itemsOf d with
    | some ds => .ok ds fr2
    | none => .bad
  | none => .bad
theorem si_any {tg e : Expr} {f : Fm → Out Opn} (hK : X.K = G.K) (he : SE X G B W e f) : SIt X G B W tg e (iAnyF f) := by
  refine PI.of (pi_any he) fun σ H R ⟨F, fr, I, h⟩ => ?_
  refine ⟨F, fr, I, (h.next (.refl I)).imp fun p fr1 F1 H1 _ ⟨n1, _, h1⟩ x ox nx => ?_⟩
  rw [hK]
  cases ef : frz fr1 p with
  | none => rw [ef] at h1; exact h1.elim
  | some q =>
    obtain ⟨d, fr2⟩ := q
    simp only [ef] at h1
    obtain ⟨F2, n2, r, _⟩ := frz_ok n1 ox nx ef
    cases d with
    | lst ds => unfold Rep at r; obtain ⟨a, vs, rfl, f, q, rs⟩ := r; exact .inl ⟨a, rfl, ⟨vs, .of q⟩, h1 F2 H1 n2 _ (itl_ok f q rs)⟩
    | tup ds => unfold Rep at r; obtain ⟨a, vs, rfl, q, rs⟩ := r; exact .inr (.inl ⟨a, rfl, ⟨vs, .of q⟩, h1 F2 H1 n2 _ (itt_ok q rs)⟩)
    | str z => unfold Rep at r; subst r; exact .inr (.inr ⟨z, rfl, h1 F2 H1 n2 _ its_ok⟩)
    | _ => exact h1.elim
/-- the script, walked -/
def rangeD (lo : Int) : Nat → List D
  | 0 => []
  | n + 1 => .int lo :: rangeD (lo + 1) n
theorem rangeD_get : ∀ {n i : Nat} {lo : Int} {d : D}, (rangeD lo n)[i]? = some d → i < n ∧ d = .int (lo + i)
  | 0, i, lo, d, h => by simp [rangeD] at h
  | n + 1, 0, lo, d, h => by simp [rangeD] at h; exact ⟨Nat.succ_pos _, by rw [← h]; simp⟩
  | n + 1, i + 1, lo, d, h => by
    obtain ⟨h1, h2⟩ := rangeD_get (n := n) (i := i) (by simpa [rangeD] using h)
    exact ⟨by omega, by rw [h2]; congr 1; push_cast; omega⟩
theorem rangeD_len : ∀ {n : Nat} {lo : Int}, (rangeD lo n).length = n
  | 0, lo => rfl
  | n + 1, lo => by simp [rangeD, rangeD_len (n := n)]
theorem itr_ok {lo : Int} {n : Nat} : ItOk G F H (Itr lo n) (rangeD lo n) := by
  intro F2 H2 i kp
  refine ⟨fun d hd => ?_, fun e => by rw [e, rangeD_len]; exact Nat.le_refl _⟩
  obtain ⟨h1, rfl⟩ := rangeD_get hd
  refine ⟨h1, fun x H3 hy => ?_⟩
  obtain ⟨rfl, rfl⟩ := hy
  exact ⟨F2, .refl, by unfold Rep; rfl⟩
def small62 (i : Int) : Bool := decide (-(2 ^ 62) ≤ i) && decide (i < 2 ^ 62)
def int1 : List D → Option Int
  | [.int j] => some j
  | _ => none
def int2 : List D → Option (Int × Int)
  | [.int i, .int j] => some (i, j)
  | _ => none
theorem int1_eq {ds : List D} {j : Int} (h : int1 ds = some j) : ds = [.int j] := by
  unfold int1 at h
  split at h
  · cases h; rfl
  · cases h
theorem int2_eq {ds : List D} {i j : Int} (h : int2 ds = some (i, j)) : ds = [.int i, .int j] := by
  unfold int2 at h
  split at h
  · cases h; rfl
  · cases h
def iR1 (f : Fm → Out (List Opn)) : Fm → Out (List D) := fun fr => (f fr).bind fun ps fr1 => match (conts fr1 ps).bind int1 with
  | some j => if small62 j then .ok (rangeD 0 j.toNat) fr1 else .bad
  | none => .bad
def iR2 (f : Fm → Out (List Opn)) : Fm → Out (List D) := fun fr => (f fr).bind fun ps fr1 => match (conts fr1 ps).bind int2 with
  | some (i, j) => if small62 i && small62 j then .ok (rangeD i (j - i).toNat) fr1 else .bad
  | none => .bad
theorem small62_ok {i : Int} (h : small62 i = true) : -(2 ^ 62) ≤ i ∧ i < 2 ^ 62 := by
  unfold small62 at h
  simp only [Bool.and_eq_true, decide_eq_true_eq] at h
  exact h
theorem si_range1 {tg a : Expr} {f : Fm → Out (List Opn)} {p pos : Pos} (hg : Gl X "range") (hm : X.mg "range" = none) (ha : SA X G B W [a] f) (hs : starEach [a] X.env = [(false, eval a X.env)] := by rfl) : SIt X G B W tg (.Call (.Name "range" p) [a] [] pos) (iR1 f) := by
  refine PI.of (pi_range1 hg hm ha hs) fun σ H R ⟨F, fr, I, h⟩ => ?_
  refine ⟨F, fr, I, (h.next (.refl I)).imp fun ps fr1 F1 H1 _ ⟨n1, _, h1⟩ vs os nw => ?_⟩
  cases ec : conts fr1 ps with
  | none => rw [ec] at h1; exact h1.elim
  | some ds =>
    cases ej : int1 ds with
    | none => simp only [ec, Option.bind_some, ej] at h1; exact h1.elim
    | some j =>
      simp only [ec, Option.bind_some, ej] at h1
      have r := conts_ok n1.I os ec
      rw [int1_eq ej] at r
      obtain ⟨v, ws, rfl, rj, rfl⟩ := r
      unfold RRep Rep at rj
      subst rj
      cases z : small62 j with
      | true =>
        simp only [z, if_true] at h1
        obtain ⟨z1, z2⟩ := small62_ok z
        exact ⟨j, rfl, z1, z2, h1 F1 H1 n1 _ itr_ok⟩
      | false => simp only [z] at h1; exact h1.elim
theorem si_range2 {tg a b : Expr} {f : Fm → Out (List Opn)} {p pos : Pos} (hg : Gl X "range") (hm : X.mg "range" = none) (ha : SA X G B W [a, b] f) (hs : starEach [a, b] X.env = [(false, eval a X.env), (false, eval b X.env)] := by rfl) (hs2 : starEach [b] X.env = [(false, eval b X.env)] := by rfl) :
    SIt X G B W tg (.Call (.Name "range" p) [a, b] [] pos) (iR2 f) := by
  refine PI.of (pi_range2 hg hm ha hs hs2) fun σ H R ⟨F, fr, I, h⟩ => ?_
  refine ⟨F, fr, I, (h.next (.refl I)).imp fun ps fr1 F1 H1 _ ⟨n1, _, h1⟩ vs os nw => ?_⟩
  cases ec : conts fr1 ps with
  | none => rw [ec] at h1; exact h1.elim
  | some ds =>
    cases ej : int2 ds with
    | none => simp only [ec, Option.bind_some, ej] at h1; exact h1.elim
    | some q =>
      obtain ⟨i, j⟩ := q
      simp only [ec, Option.bind_some, ej] at h1
      have r := conts_ok n1.I os ec
      rw [int2_eq ej] at r
      obtain ⟨v, ws, rfl, ri, v', ws', rfl, rj, rfl⟩ := r
      unfold RRep Rep at ri rj
      subst ri rj
      cases z : (small62 i && small62 j) with
      | true =>
        simp only [z, if_true] at h1
        obtain ⟨z1, z2⟩ := Bool.and_eq_true_iff.mp z
        exact ⟨i, j, rfl, ⟨(small62_ok z1).1, (small62_ok z1).2, (small62_ok z2).1, (small62_ok z2).2⟩, h1 F1 H1 n1 _ itr_ok⟩
      | false => simp only [z] at h1; exact h1.elim
def iEnF (f : Fm → Out (List Opn)) : Fm → Out (List D) := fun fr => (f fr).bind fun ps fr1 => match frzs fr1 ps with
  | some (ds, fr2) => match ds with
    | [d] => match d with
      | .lst xs => .ok (numbered 0 xs) fr2
      | .tup xs => .ok (numbered 0 xs) fr2
      | _ => .bad
    | _ => .bad
  | none => .bad
theorem si_enum {e : Expr} {f : Fm → Out (List Opn)} {p pos tpos : Pos} {elts : List Expr} {kk : Nat} (hK : X.K = G.K) (hg : Gl X "enumerate") (hm : X.mg "enumerate" = none) (ha : SA X G B W [e] f) (hs : starEach [e] X.env = [(false, eval e X.env)] := by rfl) :
    SIt X G B W (.Tuple elts kk tpos) (.Call (.Name "enumerate" p) [e] [] pos) (iEnF f) := by
  refine PI.of (pi_enumA hg hm ha hs) fun σ H R ⟨F, fr, I, h⟩ => ?_
  refine ⟨F, fr, I, (h.next (.refl I)).imp fun ps fr1 F1 H1 _ ⟨n1, _, h1⟩ vs os nw => ?_⟩
  rw [hK]
  cases ef : frzs fr1 ps with
  | none => rw [ef] at h1; exact h1.elim
  | some q =>
    obtain ⟨ds, fr2⟩ := q
    simp only [ef] at h1
    obtain ⟨F2, n2, r, _⟩ := frzs_ok n1 os nw ef
    cases ds with
    | nil => exact h1.elim
    | cons d ds =>
      cases ds with
      | cons _ _ => exact h1.elim
      | nil =>
        obtain ⟨v, ws, rfl, rd, rn⟩ := r.of_cons
        unfold Reps at rn
        subst rn
        cases d with
        | lst ds =>
          unfold Rep at rd
          obtain ⟨a, vs, rfl, f, q, rs⟩ := rd
          exact ⟨a, vs, rfl, .inl ⟨.of q, h1 F2 H1 n2 _ (ite_ok f q rs)⟩⟩
        | tup ds =>
          unfold Rep at rd
          obtain ⟨a, vs, rfl, q, rs⟩ := rd
          exact ⟨a, vs, rfl, .inr ⟨.of q, h1 F2 H1 n2 _ (itet_ok q rs)⟩⟩
        | _ => exact h1.elim
/-! ### for -/
def forL (tg : D → Fm → Option Fm) (body : Fm → OutS) : List D → Fm → OutS
  | [], fr => .nx fr
  | d :: ds, fr => match tg d fr with
    | none => .bad
    | some fr1 => match body fr1 with
      | .nx fr2 => forL tg body ds fr2
      | .ct fr2 => forL tg body ds fr2
      | .bk fr2 => .nx fr2
      | .rt v fr2 => .rt v fr2
      | .exc x fr2 => .exc x fr2
      | .bad => .bad
def sFor (fi : Fm → Out (List D)) (tg : D → Fm → Option Fm) (body : Fm → OutS) : Fm → OutS := fun fr => (fi fr).toS fun ds fr1 => forL tg body ds fr1
theorem ss_for {is : List Nat} {tg iter : Expr} {body : List Stmt} {fi : Fm → Out (List D)} {g : D → Fm → Option Fm} {fb : Fm → OutS} (hp : PassesOwn (model X.prog X.w) X.A X.env X.xe) (hc : X.calm = true) (hi : SIt X G B W tg iter fi) (hg : SG X G B is tg g) (hb : SSs X G B W body fb)
    (hs : ∀ x, foldedSetIterable iter X.env x = pure x := by intro _; rfl) : SS X G B W (.For tg iter body [] pos) (sFor fi g fb) := by
  refine PS.of (ps_for hp hc hi hg hb hs) fun D σ H ⟨F, fr, I, h⟩ => ?_
  refine ⟨F, fr, I, h.head.imp fun ds fr1 F1 H1 _ ⟨n1, h1⟩ J jo => ?_⟩
  refine ⟨fun i m σ2 H2 => ∃ rest F2 fr2, m = rest.length ∧ i + rest.length = ds.length ∧ ds.drop i = rest ∧ NxS G B F1 H1 fr1 σ F2 H2 fr2 σ2 ∧ AftS G B W F2 H2 fr2 σ2 (forL g fb rest fr2) D, ⟨ds.length, ds, F1, fr1, rfl, by simp, rfl, .refl n1.I, h1.later (.of n1)⟩, ?_⟩
  rintro i m σ2 H2 ⟨rest, F2, fr2, rfl, hl, hd, n2, h2⟩
  obtain ⟨j1, j2⟩ := jo F2 H2 i (n2.kp n1.I.ow_not)
  cases rest with
  | nil => exact .inl ⟨j2 (by simpa using hl), h2 F2 H2 σ2 (.refl n2.I)⟩
  | cons d rest =>
    have hd0 : ds[i]? = some d := by
      have := congrArg (fun l => l[0]?) hd
      simpa using this
    obtain ⟨go, yl⟩ := j1 d hd0
    refine .inr ⟨go, fun σ3 H3 => ∃ F3 fr3, NxS G B F1 H1 fr1 σ F3 H3 fr3 σ3 ∧ AftS G B W F3 H3 fr3 σ3 (forL g fb rest fr3) D, fun σ3 H3 ⟨F3, fr3, n3, h3⟩ => ?_, fun x H3 hy => ?_⟩
    · refine ⟨rest.length, Nat.lt_succ_self _, rest, F3, fr3, rfl, by simp at hl; omega, ?_, n3, h3⟩
      have := congrArg List.tail hd
      rw [List.tail_drop] at this
      simpa using this
    · obtain ⟨F3, st, rd⟩ := yl x H3 hy
      have n3 : NxS G B F2 H2 fr2 σ2 F3 H3 fr2 σ2 := .of ((Nx.refl n2.I).quiet st)
      unfold forL at h2
      cases eg : g d fr2 with
      | none => rw [eg] at h2; exact h2.elim
      | some fr3 =>
        simp only [eg] at h2
        refine ⟨F3, fr2, d, n3.I, rd, fr3, eg, fun σ3 n4 => ⟨F3, fr3, n4.I, ?_⟩⟩
        have n5 := n3.trans n4.s
        have n15 := n2.trans n5
        revert h2
        cases fb fr3 with
        | nx fr4 => exact fun h2 F4 H4 σ4 n6 => ⟨F4, fr4, n15.trans n6, h2.later (n5.trans n6)⟩
        | ct fr4 => exact fun h2 F4 H4 σ4 n6 => ⟨F4, fr4, n15.trans n6, h2.later (n5.trans n6)⟩
        | bk fr4 => exact fun h2 F4 H4 σ4 n6 => h2 F4 H4 σ4 (n5.trans n6)
        | rt v fr4 => exact fun h2 => AftS.later (o := .rt v fr4) n5 h2
        | exc x fr4 => exact fun h2 => AftS.later (o := .exc x fr4) n5 h2
        | bad => exact fun h2 => h2
/-! ### while -/
def whL (c : Fm → Out Bool) (body : Fm → OutS) : Nat → Fm → OutS
  | 0, _ => .bad
  | n + 1, fr => (c fr).toS fun b fr1 => match b with
    | false => .nx fr1
    | true => match body fr1 with
      | .nx fr2 => whL c body n fr2
      | .ct fr2 => whL c body n fr2
      | .bk fr2 => .nx fr2
      | .rt v fr2 => .rt v fr2
      | .exc x fr2 => .exc x fr2
      | .bad => .bad
theorem ss_while {c : Expr} {body : List Stmt} {fc : Fm → Out Bool} {fb : Fm → OutS} (N : Nat) (hp : PassesOwn (model X.prog X.w) X.A X.env X.xe) (hc : ST X G B W c fc) (hb : SSs X G B W body fb) : SS X G B W (.While c body [] pos) (whL fc fb N) := by
  refine PS.of (ps_while hp hc hb) fun D σ H ⟨F, fr, I, h⟩ => ?_
  refine ⟨fun m σ2 H2 => ∃ F2 fr2, SI G F2 H2 B fr2 σ2 ∧ AftS G B W F2 H2 fr2 σ2 (whL fc fb m fr2) D, ⟨N, F, fr, I, h⟩, ?_⟩
  rintro m σ2 H2 ⟨F2, fr2, I2, h2⟩
  cases m with
  | zero => exact h2.elim
  | succ m =>
    refine ⟨F2, fr2, I2, h2.head.imp fun b fr3 F3 H3 _ ⟨n3, h3⟩ => ?_⟩
    cases b with
    | false => exact (if_neg (by decide)).mpr (h3 F3 H3 σ2 (.of n3))
    | true =>
      refine (if_pos rfl).mpr ⟨fun σ4 H4 => ∃ F4 fr4, SI G F4 H4 B fr4 σ4 ∧ AftS G B W F4 H4 fr4 σ4 (whL fc fb m fr4) D, fun σ4 H4 h4 => ⟨m, Nat.lt_succ_self _, h4⟩, F3, fr3, n3.I, ?_⟩
      have n3' : NxS G B F2 H2 fr2 σ2 F3 H3 fr3 σ2 := .of n3
      simp only at h3
      revert h3
      cases fb fr3 with
      | nx fr4 => exact fun h2 F4 H4 σ4 n6 => ⟨F4, fr4, n6.I, h2.later (n3'.trans n6)⟩
      | ct fr4 => exact fun h2 F4 H4 σ4 n6 => ⟨F4, fr4, n6.I, h2.later (n3'.trans n6)⟩
      | bk fr4 => exact fun h2 F4 H4 σ4 n6 => h2 F4 H4 σ4 (n3'.trans n6)
      | rt v fr4 => exact fun h2 => AftS.later (o := .rt v fr4) n3' h2
      | exc x fr4 => exact fun h2 => AftS.later (o := .exc x fr4) n3' h2
      | bad => exact fun h2 => h2
end
end MP
set_option Elab.async false
set_option linter.all false
set_option maxRecDepth 100000
set_option maxHeartbeats 400000
/-! MP7: defs and their contracts, calls. -/
namespace MP
open PySem PySem.Spec L2
section
variable {G : Gx} {B : Bx} {σ σ0 σ1 σ2 σ' : St} {F F0 F1 F2 F' : Addr → Prop} {H H0 H1 H2 H' : Hp} {fr fr0 fr1 fr2 fr' : Fm} {W : WX} {S : Addr → Prop} {X : Cx} {pos : Pos}
/-- arguments: data, or objects lent -/
def OwA (os : List Val) (vs : List V) (a : Addr) : Prop := ∃ (i : Nat) (o : O), os[i]? = some (Val.own o) ∧ vs[i]? = some (V.ref a)
structure ArgsOk (G : Gx) (F : Addr → Prop) (H : Hp) (os : List Val) (vs : List V) : Prop where
  len : os.length = vs.length
  ok : ∀ (i : Nat) (o : Val) (v : V), os[i]? = some o → vs[i]? = some v → VOk G F H o v
  dj : ∀ (i j : Nat) (a : Addr) (o p : O), os[i]? = some (Val.own o) → os[j]? = some (Val.own p) → vs[i]? = some (V.ref a) → vs[j]? = some (V.ref a) → i = j
  fl : ∀ a, F a → H a ≠ none
/-- the same arguments are lent -/
def kind1 : Val → Val → Bool
  | .own _, .own _ => true
  | .fz _, .fz _ => true
  | _, _ => false
def kinds : List Val → List Val → Bool
  | [], [] => true
  | o :: os, p :: ps => kind1 o p && kinds os ps
  | _, _ => false
theorem kinds_get : ∀ {os ps : List Val} {i : Nat} {o : O}, kinds os ps = true → os[i]? = some (.own o) → ∃ p, ps[i]? = some (.own p)
  | [], [], i, o, h, e => by simp at e
  | [], _ :: _, i, o, h, e => by simp at e
  | _ :: _, [], i, o, h, e => by simp [kinds] at h
  | a :: os, b :: ps, 0, o, h, e => by
    simp at e; subst e
    cases b with
    | fz d => simp [kinds, kind1] at h
    | own p => exact ⟨p, rfl⟩
  | a :: os, b :: ps, i + 1, o, h, e => by
    simp only [kinds, Bool.and_eq_true] at h
    obtain ⟨p, hp⟩ := kinds_get (i := i) h.2 (by simpa using e)
    exact ⟨p, by simpa using hp⟩
theorem kinds_get' : ∀ {os ps : List Val} {i : Nat} {o : O}, kinds os ps = true → ps[i]? = some (.own o) → ∃ p, os[i]? = some (.own p)
  | [], [], i, o, h, e => by simp at e
  | [], _ :: _, i, o, h, e => by simp [kinds] at h
  | _ :: _, [], i, o, h, e => by simp at e
  | a :: os, b :: ps, 0, o, h, e => by
    simp at e; subst e
    cases a with
    | fz d => simp [kinds, kind1] at h
    | own p => exact ⟨p, rfl⟩
  | a :: os, b :: ps, i + 1, o, h, e => by
    simp only [kinds, Bool.and_eq_true] at h
    obtain ⟨p, hp⟩ := kinds_get' (i := i) h.2 (by simpa using e)
    exact ⟨p, by simpa using hp⟩
/-- the wish behind a call that computes r -/
def AftR (G : Gx) (F : Addr → Prop) (H : Hp) (os : List Val) (vs : List V) (Q : VK) (E : XK) : Rs → Prop
  | .ret v os' => kinds os os' = true → ∀ F' H' w, ArgsOk G F' H' os' vs → Step F H (OwA os vs) F' H' → VOk G F' H' v w → VNew H v w → Q w H'
  | .exc x os' => kinds os os' = true → ∀ F' H' c d, ArgsOk G F' H' os' vs → Step F H (OwA os vs) F' H' → XOk G F' H' x c d → E c d H'
  | .bad => False
/-- the contract of a def that computes R -/
def spF (G : Gx) (R : List Val → Rs) : Sp := fun vs H Q E => ∃ F os, ArgsOk G F H os vs ∧ AftR G F H os vs Q E (R os)
/-! ### calls -/
def lend (fr : Fm) : Opn → Option Val
  | .sl i => match fr[i]? with
    | some (.fz d) => some (.fz d)
    | some (.own o) => some (.own o)
    | some (.bor o) => some (.own o)
    | _ => none
  | .vl v => some (.fz v.view)
def lends (fr : Fm) : List Opn → Option (List Val)
  | [] => some []
  | p :: ps => match lend fr p, lends fr ps with
    | some o, some os => some (o :: os)
    | _, _ => none
/-- no object is lent twice -/
def isSl (i : Nat) : Opn → Bool
  | .sl j => i == j
  | _ => false
def once (fr : Fm) : List Opn → Bool
  | [] => true
  | .sl i :: ps => (match slO fr i with
    | some _ => !ps.any (isSl i)
    | none => true) && once fr ps
  | _ :: ps => once fr ps
/-- what slot j holds behind the call -/
def lookB (j : Nat) : List Opn → List Val → Option O
  | .sl i :: ps, .own o :: os => if i = j then some o else lookB j ps os
  | _ :: ps, _ :: os => lookB j ps os
  | _, _ => none
def back1 (ps : List Opn) (os : List Val) (j : Nat) : Sl → Sl
  | .own o => match lookB j ps os with
    | some o' => .own o'
    | none => .own o
  | .bor o => match lookB j ps os with
    | some o' => .bor o'
    | none => .bor o
  | s => s
def backs (ps : List Opn) (os : List Val) : Nat → Fm → Fm
  | _, [] => []
  | j, s :: fr => back1 ps os j s :: backs ps os (j + 1) fr
theorem backs_get {ps : List Opn} {os : List Val} : ∀ {fr : Fm} {n j : Nat}, (backs ps os n fr)[j]? = (fr[j]?).map (back1 ps os (n + j))
  | [], n, j => by simp [backs]
  | s :: fr, n, 0 => by simp [backs]
  | s :: fr, n, j + 1 => by
    simp only [backs, List.getElem?_cons_succ]
    rw [backs_get (fr := fr) (n := n + 1) (j := j)]
    congr 2
    omega
theorem backs_len {ps : List Opn} {os : List Val} : ∀ {fr : Fm} {n : Nat}, (backs ps os n fr).length = fr.length
  | [], n => rfl
  | s :: fr, n => by simp [backs, backs_len (fr := fr)]
theorem lookB_some {j : Nat} {o : O} : ∀ {ps : List Opn} {os : List Val}, lookB j ps os = some o → ∃ k : Nat, ps[k]? = some (.sl j) ∧ os[k]? = some (.own o)
  | [], _, h => by simp [lookB] at h
  | .sl i :: ps, .own c :: os, h => by
    simp only [lookB] at h
    by_cases e : i = j
    · rw [if_pos e] at h; cases h; exact ⟨0, by simp [e], rfl⟩
    · rw [if_neg e] at h
      obtain ⟨k, h1, h2⟩ := lookB_some h
      exact ⟨k + 1, by simpa using h1, by simpa using h2⟩
  | .sl i :: ps, .fz c :: os, h => by
    obtain ⟨k, h1, h2⟩ := lookB_some (ps := ps) (os := os) h
    exact ⟨k + 1, by simpa using h1, by simpa using h2⟩
  | .sl i :: ps, [], h => by simp [lookB] at h
  | .vl v :: ps, c :: os, h => by
    obtain ⟨k, h1, h2⟩ := lookB_some (ps := ps) (os := os) h
    exact ⟨k + 1, by simpa using h1, by simpa using h2⟩
  | .vl v :: ps, [], h => by simp [lookB] at h
theorem lookB_none {j : Nat} : ∀ {ps : List Opn} {os : List Val} {k : Nat} {o : O}, lookB j ps os = none → ps[k]? = some (.sl j) → os[k]? = some (.own o) → False
  | [], _, k, o, h, e1, e2 => by simp at e1
  | p :: ps, [], k, o, h, e1, e2 => by simp at e2
  | .sl i :: ps, .own c :: os, 0, o, h, e1, e2 => by simp at e1; simp [lookB, e1] at h
  | .sl i :: ps, .own c :: os, k + 1, o, h, e1, e2 => by
    simp only [lookB] at h
    by_cases e : i = j
    · rw [if_pos e] at h; cases h
    · rw [if_neg e] at h
      exact lookB_none (k := k) h (by simpa using e1) (by simpa using e2)
  | .sl i :: ps, .fz c :: os, 0, o, h, e1, e2 => by simp at e2
  | .sl i :: ps, .fz c :: os, k + 1, o, h, e1, e2 => lookB_none (ps := ps) (os := os) (k := k) h (by simpa using e1) (by simpa using e2)
  | .vl v :: ps, c :: os, 0, o, h, e1, e2 => by simp at e1
  | .vl v :: ps, c :: os, k + 1, o, h, e1, e2 => lookB_none (ps := ps) (os := os) (k := k) h (by simpa using e1) (by simpa using e2)
theorem lends_get : ∀ {ps : List Opn} {os : List Val} {k : Nat} {p : Opn}, lends fr ps = some os → ps[k]? = some p → ∃ o, os[k]? = some o ∧ lend fr p = some o
  | [], os, k, p, h, e => by simp at e
  | q :: ps, os, k, p, h, e => by
    unfold lends at h
    cases e1 : lend fr q with
    | none => simp [e1] at h
    | some c =>
      cases e2 : lends fr ps with
      | none => simp [e1, e2] at h
      | some cs =>
        simp only [e1, e2] at h
        cases h
        cases k with
        | zero => simp at e; subst e; exact ⟨c, rfl, e1⟩
        | succ k =>
          obtain ⟨o, h1, h2⟩ := lends_get (k := k) e2 (by simpa using e)
          exact ⟨o, by simpa using h1, h2⟩
theorem lends_len : ∀ {ps : List Opn} {os : List Val}, lends fr ps = some os → os.length = ps.length
  | [], os, h => by simp [lends] at h; rw [h]; rfl
  | q :: ps, os, h => by
    unfold lends at h
    cases e1 : lend fr q with
    | none => simp [e1] at h
    | some c =>
      cases e2 : lends fr ps with
      | none => simp [e1, e2] at h
      | some cs =>
        simp only [e1, e2] at h
        cases h
        simp [lends_len e2]
theorem lend_own {p : Opn} {o : O} (h : lend fr p = some (.own o)) : ∃ i, p = .sl i ∧ slO fr i = some o := by
  cases p with
  | vl v => cases h
  | sl i =>
    refine ⟨i, rfl, ?_⟩
    unfold slO
    cases q : fr[i]? with
    | none => simp [lend, q] at h
    | some s =>
      cases s with
      | non => simp [lend, q] at h
      | fz d => simp [lend, q] at h
      | exn c fs => simp [lend, q] at h
      | own c => simp [lend, q] at h; rw [h]
      | bor c => simp [lend, q] at h; rw [h]
theorem once_ok {i : Nat} {o : O} : ∀ {ps : List Opn} {j k : Nat}, once fr ps = true → slO fr i = some o → ps[j]? = some (.sl i) → ps[k]? = some (.sl i) → j = k
  | [], j, k, h, ho, e1, e2 => by simp at e1
  | p :: ps, j, k, h, ho, e1, e2 => by
    have hr : once fr ps = true := by
      cases p with
      | sl l => simp only [once, Bool.and_eq_true] at h; exact h.2
      | vl v => exact h
    have nx : p = Opn.sl i → ∀ m : Nat, ps[m]? ≠ some (Opn.sl i) := fun e m em => by
      subst e
      simp only [once, ho, Bool.and_eq_true, Bool.not_eq_true'] at h
      have : ps.any (isSl i) = true := List.any_eq_true.mpr ⟨_, List.mem_of_getElem? em, by simp [isSl]⟩
      rw [this] at h
      exact absurd h.1 (by decide)
    cases j with
    | zero =>
      cases k with
      | zero => rfl
      | succ k => simp at e1 e2; exact absurd e2 (nx e1 k)
    | succ j =>
      cases k with
      | zero => simp at e1 e2; exact absurd e1 (nx e2 j)
      | succ k => rw [once_ok (j := j) (k := k) hr ho (by simpa using e1) (by simpa using e2)]
theorem OpnsOk.get : ∀ {ps : List Opn} {vs : List V} {k : Nat} {p : Opn}, OpnsOk G F H fr σ ps vs → ps[k]? = some p → ∃ v, vs[k]? = some v ∧ OpnOk G F H fr σ p v
  | [], vs, k, p, h, e => by simp at e
  | q :: ps, vs, k, p, h, e => by
    obtain ⟨v, ws, rfl, oq, os, _⟩ := h
    cases k with
    | zero => simp at e; subst e; exact ⟨v, rfl, oq⟩
    | succ k =>
      obtain ⟨w, h1, h2⟩ := OpnsOk.get (k := k) os (by simpa using e)
      exact ⟨w, by simpa using h1, h2⟩
theorem OpnsOk.len : ∀ {ps : List Opn} {vs : List V}, OpnsOk G F H fr σ ps vs → vs.length = ps.length
  | [], vs, h => by have : vs = [] := h; rw [this]; rfl
  | q :: ps, vs, h => by
    obtain ⟨v, ws, rfl, oq, os, _⟩ := h
    simp [OpnsOk.len os]
/-- temporaries are given up -/
theorem Nx.gives : ∀ {ps : List Opn} {vs : List V} {F : Addr → Prop}, Nx G B σ F0 H0 fr0 F H fr → OpnsOk G F H fr σ ps vs → (∀ a, Tmp ps vs a → H0 a = none) →
    ∃ F', Nx G B σ F0 H0 fr0 F' H fr ∧ (∀ b, F b → F' b) ∧ (∀ b, F' b → F b ∨ Tmp ps vs b) ∧ ∀ (k : Nat) (v : Val) (w : V), ps[k]? = some (.vl v) → vs[k]? = some w → Rep G F' H v.view w
  | [], vs, F, n, o, nw => ⟨F, n, fun _ e => e, fun _ e => .inl e, fun k v w e => by simp at e⟩
  | p :: ps, vs, F, n, o, nw => by
    obtain ⟨v, ws, rfl, op, os, dj⟩ := o
    have tl : ∀ a, Tmp ps ws a → Tmp (p :: ps) (v :: ws) a := fun a ⟨i, o, x, y⟩ => ⟨i + 1, o, by simpa using x, by simpa using y⟩
    obtain ⟨F1, n1, up1, in1, r1⟩ := Nx.gives (ps := ps) n os fun a t => nw a (tl a t)
    have rest : ∀ (F2 : Addr → Prop), (∀ b, F1 b → F2 b) → (∀ x, p = .vl x → Rep G F2 H x.view v) → ∀ (k : Nat) (x : Val) (w : V), (p :: ps)[k]? = some (.vl x) → (v :: ws)[k]? = some w → Rep G F2 H x.view w := fun F2 up h k x w e1 e2 => by
      cases k with
      | zero => simp at e1 e2; subst e2; exact h x e1
      | succ k => exact Rep.up up (r1 k x w (by simpa using e1) (by simpa using e2))
    cases p with
    | sl i => exact ⟨F1, n1, up1, fun b e => (in1 b e).imp id (tl b), rest F1 (fun _ e => e) fun x e => nomatch e⟩
    | vl x =>
      cases x with
      | fz d => exact ⟨F1, n1, up1, fun b e => (in1 b e).imp id (tl b), rest F1 (fun _ e => e) fun x e => by cases e; exact Rep.up up1 op⟩
      | own o =>
        obtain ⟨a, z, r, f, no⟩ := op
        subst z
        refine ⟨fun b => F1 b ∨ b = a, n1.give (nw a ⟨0, o, rfl, rfl⟩) r.there no, fun b e => .inl (up1 b e), fun b e => ?_, rest _ (fun _ e => .inl e) fun x e => by cases e; exact r.frozen (S := fun _ => False) (kp_up fun b e => .inl (up1 b e)) (fun _ _ z => z) (.inr rfl)⟩
        rcases e with e | e
        · exact (in1 b e).imp id (tl b)
        · exact .inr ⟨0, o, rfl, by rw [e]; rfl⟩
/-- at a call -/
theorem lends_ok {ps : List Opn} {vs : List V} {os : List Val} (n : Nx G B σ F0 H0 fr0 F H fr) (o : OpnsOk G F H fr σ ps vs) (nw : ∀ a, Tmp ps vs a → H0 a = none) (e : lends fr ps = some os) (h1 : once fr ps = true) :
    ∃ F', Nx G B σ F0 H0 fr0 F' H fr ∧ ArgsOk G F' H os vs ∧ (∀ a, OwA os vs a → Ow fr σ a) ∧ (∀ (k : Nat) (p : O), os[k]? = some (.own p) → ∃ i, ps[k]? = some (.sl i) ∧ slO fr i = some p ∧ σ[i]? = vs[k]?.map some) := by
  obtain ⟨F', n', up, inn, rt⟩ := n.gives o nw
  have own : ∀ (k : Nat) (p : O), os[k]? = some (.own p) → ∃ i, ps[k]? = some (.sl i) ∧ slO fr i = some p ∧ σ[i]? = vs[k]?.map some := fun k p ek => by
    have hk : k < ps.length := by rw [← lends_len e]; exact (List.getElem?_eq_some_iff.mp ek).1
    obtain ⟨c, h2, h3⟩ := lends_get e (List.getElem?_eq_getElem hk)
    rw [ek] at h2
    cases h2
    obtain ⟨i, h4, h5⟩ := lend_own h3
    obtain ⟨w, h6, h7⟩ := o.get (List.getElem?_eq_getElem hk)
    rw [h4] at h7
    exact ⟨i, by rw [List.getElem?_eq_getElem hk, h4], h5, by rw [h6]; exact h7⟩
  refine ⟨F', n', ⟨by rw [lends_len e, o.len], fun k c w e1 e2 => ?_, fun i j a c p e1 e2 e3 e4 => ?_, n'.I.fl⟩, fun a ⟨k, p, e1, e2⟩ => ?_, own⟩
  · have hk : k < ps.length := by rw [← lends_len e]; exact (List.getElem?_eq_some_iff.mp e1).1
    obtain ⟨c', h2, h3⟩ := lends_get e (List.getElem?_eq_getElem hk)
    rw [e1] at h2
    cases h2
    obtain ⟨w', h6, h7⟩ := o.get (List.getElem?_eq_getElem hk)
    rw [e2] at h6
    cases h6
    cases q : ps[k] with
    | vl x =>
      rw [q] at h3
      cases h3
      exact rt k x w (by rw [List.getElem?_eq_getElem hk, q]) e2
    | sl i =>
      rw [q] at h3 h7
      have h7' : σ[i]? = some (some w) := h7
      cases z : fr[i]? with
      | none => simp [lend, z] at h3
      | some s =>
        have kk := n'.I.ok i s _ z h7'
        cases s with
        | non => simp [lend, z] at h3
        | exn c fs => simp [lend, z] at h3
        | fz d => simp only [lend, z] at h3; cases h3; obtain ⟨u, y, r⟩ := kk; cases y; exact r
        | own p => simp only [lend, z] at h3; cases h3; obtain ⟨u, y, r⟩ := kk; cases y; exact ⟨u, rfl, r⟩
        | bor p => simp only [lend, z] at h3; cases h3; obtain ⟨u, y, r⟩ := kk; cases y; exact ⟨u, rfl, r⟩
  · obtain ⟨i', h2, h3, h4⟩ := own i c e1
    obtain ⟨j', h5, h6, h7⟩ := own j p e2
    rw [e3] at h4
    rw [e4] at h7
    have : i' = j' := n'.I.dj i' j' a ⟨c, slO_own h3⟩ ⟨p, slO_own h6⟩ h4 h7
    subst this
    exact once_ok h1 h3 h2 h5
  · obtain ⟨i, h2, h3, h4⟩ := own k p e1
    rw [e2] at h4
    exact ⟨i, ⟨p, slO_own h3⟩, h4⟩
/-- behind a call -/
theorem Nx.backs {ps : List Opn} {vs : List V} {os os' : List Val} (n : Nx G B σ F0 H0 fr0 F H fr) (ao : ArgsOk G F H os vs) (ow : ∀ a, OwA os vs a → Ow fr σ a)
    (own : ∀ (k : Nat) (p : O), os[k]? = some (.own p) → ∃ i, ps[k]? = some (.sl i) ∧ slO fr i = some p ∧ σ[i]? = vs[k]?.map some) (hk : kinds os os' = true)
    (ao' : ArgsOk G F' H' os' vs) (st : Step F H (OwA os vs) F' H') (os_ps : os.length = ps.length) (lk : ∀ (k : Nat) (i : Nat) (o : O), ps[k]? = some (.sl i) → slO fr i = some o → ∃ p, os[k]? = some (.own p)) : Nx G B σ F0 H0 fr0 F' H' (MP.backs ps os' 0 fr) := by
  have ownB : ∀ j, Own (MP.backs ps os' 0 fr) j → Own fr j := fun j ⟨o, h⟩ => by
    have key : ∀ s, (MP.backs ps os' 0 fr)[j]? = some s → ∃ t, fr[j]? = some t ∧ back1 ps os' j t = s := fun s e => by
      rw [backs_get, Nat.zero_add] at e
      exact Option.map_eq_some_iff.mp e
    rcases h with h | h
    · obtain ⟨t, e1, e2⟩ := key _ h
      cases t with
      | non => cases e2
      | fz d => cases e2
      | exn c fs => cases e2
      | own c => exact ⟨c, .inl e1⟩
      | bor c => exact ⟨c, .inr e1⟩
    · obtain ⟨t, e1, e2⟩ := key _ h
      cases t with
      | non => cases e2
      | fz d => cases e2
      | exn c fs => cases e2
      | own c => exact ⟨c, .inl e1⟩
      | bor c => exact ⟨c, .inr e1⟩
  have dj : ∀ b, F b → ¬ OwA os vs b := fun b f z => n.I.ow_not b f (ow b z)
  have sub : ∀ a, Ow (MP.backs ps os' 0 fr) σ a → Ow fr σ a := fun a ⟨j, hj, ej⟩ => ⟨j, ownB j hj, ej⟩
  -- an object of slot j: lent and come back, or left alone
  have obj : ∀ (j : Nat) (c : O) (t : Option V), slO fr j = some c → σ[j]? = some t → (∃ a, t = some (.ref a) ∧ OwnAt G F H c a ∧ ¬ F a) →
      (∀ o', lookB j ps os' = some o' → ∃ a, t = some (.ref a) ∧ OwnAt G F' H' o' a ∧ ¬ F' a) ∧ (lookB j ps os' = none → ∃ a, t = some (.ref a) ∧ OwnAt G F' H' c a ∧ ¬ F' a) := fun j c t hc ht ⟨a, z, r, nF⟩ => by
    subst z
    constructor
    · intro o' ho'
      obtain ⟨k, h1, h2⟩ := lookB_some ho'
      obtain ⟨p, h3⟩ := kinds_get' hk h2
      obtain ⟨i, h4, h5, h6⟩ := own k p h3
      rw [h1] at h4
      cases h4
      rw [ht] at h6
      cases hv : vs[k]? with
      | none => rw [hv] at h6; cases h6
      | some w =>
        rw [hv] at h6
        cases h6
        obtain ⟨b, y, r', f'⟩ := ao'.ok k _ _ h2 hv
        cases y
        exact ⟨a, rfl, r', f'⟩
    · intro hn
      have na : ¬ OwA os vs a := fun ⟨k, p, e1, e2⟩ => by
        obtain ⟨i, h4, h5, h6⟩ := own k p e1
        rw [e2] at h6
        have : i = j := n.I.dj i j a ⟨p, slO_own h5⟩ ⟨c, slO_own hc⟩ h6 ht
        subst this
        obtain ⟨p', h7⟩ := kinds_get hk e1
        exact lookB_none hn h4 h7
      refine ⟨a, rfl, r.step st.toKp dj na, fun f => ?_⟩
      rcases st.newF a f with y | y | y
      · exact nF y
      · exact na y
      · exact r.there y
  refine ⟨⟨by rw [backs_len]; exact n.I.len, fun j s t e1 e2 => ?_, fun i j a h1 h2 => n.I.dj i j a (ownB i h1) (ownB j h2), fun j o e1 => ?_, fun j v e => ?_, fun a f => (st.lf a f).elim (fun z => st.live a (n.I.fl a z)) id⟩, n.st.trans st fun x h => .inl (n.sub x (ow x h)), fun a h => n.sub a (sub a h)⟩
  · rw [backs_get, Nat.zero_add] at e1
    obtain ⟨u, e3, e4⟩ := Option.map_eq_some_iff.mp e1
    have kk := n.I.ok j u t e3 e2
    cases u with
    | non => cases e4; trivial
    | fz d => cases e4; obtain ⟨v, z, r⟩ := kk; exact ⟨v, z, Rep.step st.toKp dj d v r⟩
    | exn c fs => cases e4; obtain ⟨b, d, z1, z2, r⟩ := kk; exact ⟨b, d, z1, z2, r.step st.toKp dj⟩
    | own c =>
      obtain ⟨h1, h2⟩ := obj j c t (by simp [slO, e3]) e2 kk
      simp only [back1] at e4
      cases el : lookB j ps os' with
      | none => rw [el] at e4; cases e4; exact h2 el
      | some o' => rw [el] at e4; cases e4; exact h1 o' el
    | bor c =>
      obtain ⟨h1, h2⟩ := obj j c t (by simp [slO, e3]) e2 kk
      simp only [back1] at e4
      cases el : lookB j ps os' with
      | none => rw [el] at e4; cases e4; exact h2 el
      | some o' => rw [el] at e4; cases e4; exact h1 o' el
  · rw [backs_get, Nat.zero_add] at e1
    obtain ⟨u, e3, e4⟩ := Option.map_eq_some_iff.mp e1
    cases u with
    | non => cases e4
    | fz d => cases e4
    | exn c fs => cases e4
    | own c =>
      simp only [back1] at e4
      split at e4 <;> cases e4
    | bor c => exact n.I.bor j c e3
  · obtain ⟨o, q⟩ := n.I.brw j v e
    rw [backs_get, Nat.zero_add, q]
    simp only [Option.map_some, back1]
    split
    · exact ⟨_, rfl⟩
    · exact ⟨_, rfl⟩
def sCall (R : List Val → Rs) (f : Fm → Out (List Opn)) : Fm → Out Opn := fun fr => (f fr).bind fun ps fr1 => match lends fr1 ps with
  | some os => match once fr1 ps with
    | true => match R os with
      | .ret v os' => match kinds os os' with
        | true => .ok (.vl v) (backs ps os' 0 fr1)
        | false => .bad
      | .exc x os' => match kinds os os' with
        | true => .exc x (backs ps os' 0 fr1)
        | false => .bad
      | .bad => .bad
    | false => .bad
  | none => .bad
theorem call_ok {R : List Val → Rs} {f : Fm → Out (List Opn)} {Q : VK} {E : St → XK} (hE : ∀ c d H', W c d σ H' → E σ c d H') (h : tE G B W (sCall R f) σ H Q) : tA G B W f σ H fun vs H1 => spF G R vs H1 Q (E σ) := by
  obtain ⟨F, fr, I, h⟩ := h
  refine ⟨F, fr, I, (h.next (.refl I)).imp fun ps fr1 F1 H1 _ ⟨n1, _, h1⟩ vs os nw => ?_⟩
  cases el : lends fr1 ps with
  | none => rw [el] at h1; exact h1.elim
  | some oss =>
    simp only [el] at h1
    cases eo : once fr1 ps with
    | false => rw [eo] at h1; exact h1.elim
    | true =>
      simp only [eo] at h1
      obtain ⟨F2, n2, ao, ow, own⟩ := lends_ok n1 os nw el eo
      have lk : ∀ (k i : Nat) (o : O), ps[k]? = some (.sl i) → slO fr1 i = some o → ∃ p, oss[k]? = some (Val.own p) := fun k i o e1 e2 => by
        obtain ⟨c, h2, h3⟩ := lends_get el e1
        rcases slO_own e2 with q | q
        · simp only [lend, q] at h3; cases h3; exact ⟨o, h2⟩
        · simp only [lend, q] at h3; cases h3; exact ⟨o, h2⟩
      refine ⟨F2, oss, ao, ?_⟩
      cases er : R oss with
      | bad => rw [er] at h1; exact h1.elim
      | ret v os' =>
        simp only [er] at h1
        intro hk F' H' w ao' st vo vn
        simp only [hk] at h1
        have n3 := n2.backs (ps := ps) ao ow own hk ao' st (lends_len el) lk
        refine h1 F' H' n3 w (.of_val n3.I vo fun o a e1 e2 z => ?_) (New.of fun o a e1 e2 => n2.st.free (vn o a e1 e2))
        have := n3.sub a z
        exact n2.I.ow_live (a := a) (by
          obtain ⟨j, hj, ej⟩ := z
          refine ⟨j, ?_, ej⟩
          obtain ⟨c, hc⟩ := hj
          have key : ∀ s, (MP.backs ps os' 0 fr1)[j]? = some s → ∃ t, fr1[j]? = some t ∧ back1 ps os' j t = s := fun s e => by
            rw [backs_get, Nat.zero_add] at e
            exact Option.map_eq_some_iff.mp e
          rcases hc with hc | hc
          · obtain ⟨t, e1, e2⟩ := key _ hc
            cases t with
            | non => cases e2
            | fz d => cases e2
            | exn c fs => cases e2
            | own c => exact ⟨c, .inl e1⟩
            | bor c => exact ⟨c, .inr e1⟩
          · obtain ⟨t, e1, e2⟩ := key _ hc
            cases t with
            | non => cases e2
            | fz d => cases e2
            | exn c fs => cases e2
            | own c => exact ⟨c, .inl e1⟩
            | bor c => exact ⟨c, .inr e1⟩) (vn o a e1 e2)
      | exc x os' =>
        simp only [er] at h1
        intro hk F' H' c d ao' st xo
        simp only [hk] at h1
        exact hE c d H' (h1 F' H' c d (n2.backs (ps := ps) ao ow own hk ao' st (lends_len el) lk) xo)
theorem s_call {k : Nat} {f : Addr} {fd : FuncData} {ps : List Str} {x : Str} {p : Pos} {e : Expr} {es : List Expr} {R : List Val → Rs} {fa : Fm → Out (List Opn)} (tk : Takes X W)
    (Fn : FnOk X.prog X.w X.K X.mg X.base (L2.CX X.prog X.w) k f fd ps (spF G R)) (hr : Room k X.A) (hg : Gl X x) (hm : X.mg x = some (.ref f)) (hk : PySem.W.keepIn X.K (.ref f) = true) (hb : Binds X.K fd ps [])
    (ha : SA X G B W (e :: es) fa) (hdb : (x == ("__debug__" : Str)) = false := by decide) (he : starEach (e :: es) X.env = (false, eval e X.env) :: starEach es X.env := by rfl) (hpl : (backTo pos (starEach es X.env)).any (·.1) = false := by rfl) :
    SE X G B W (.Call (.Name x p) (e :: es) [] pos) (sCall R fa) :=
  PE.of (pe_callS Fn hr hg hm hk hb (fun σ => passAt tk σ) ha hdb he hpl) fun σ H Q h => call_ok (fun _ _ _ h => h) h
/-! ### a def by its body -/
def slOf : Val → Sl
  | .fz d => .fz d
  | .own o => .bor o
def initF (n : Nat) (os : List Val) : Fm := os.map slOf ++ List.replicate (n - os.length) .non
def pinned : Val → V → Option V
  | .fz _, _ => none
  | .own _, v => some v
def bindsB : List Val → List V → List (Option V)
  | o :: os, v :: vs => pinned o v :: bindsB os vs
  | _, _ => []
def finals : List Val → Fm → List Val
  | .own o :: os, s :: fr => (match s with
    | .bor p => .own p
    | _ => .own o) :: finals os fr
  | .fz d :: os, _ :: fr => .fz d :: finals os fr
  | os, [] => os
  | [], _ => []
def ofBody (os : List Val) : OutS → Rs
  | .nx fr => .ret (.fz .non) (finals os fr)
  | .rt v fr => .ret v (finals os fr)
  | .exc x fr => .exc x (finals os fr)
  | _ => .bad
theorem bindsB_get : ∀ {os : List Val} {vs : List V} {i : Nat} {o : Val} {v : V}, os[i]? = some o → vs[i]? = some v → (bindsB os vs)[i]? = some (pinned o v)
  | [], vs, i, o, v, h1, h2 => by simp at h1
  | _ :: _, [], i, o, v, h1, h2 => by simp at h2
  | p :: os, w :: vs, 0, o, v, h1, h2 => by simp at h1 h2; simp [bindsB, h1, h2]
  | p :: os, w :: vs, i + 1, o, v, h1, h2 => by
    simp only [bindsB, List.getElem?_cons_succ]
    exact bindsB_get (by simpa using h1) (by simpa using h2)
theorem bindsB_some : ∀ {os : List Val} {vs : List V} {i : Nat} {v : V}, (bindsB os vs)[i]? = some (some v) → ∃ o, os[i]? = some (Val.own o) ∧ vs[i]? = some v
  | [], vs, i, v, h => by simp [bindsB] at h
  | _ :: _, [], i, v, h => by simp [bindsB] at h
  | p :: os, w :: vs, 0, v, h => by
    cases p with
    | fz d => simp [bindsB, pinned] at h
    | own o => simp [bindsB, pinned] at h; exact ⟨o, rfl, by simp [h]⟩
  | p :: os, w :: vs, i + 1, v, h => by
    simp only [bindsB, List.getElem?_cons_succ] at h
    obtain ⟨o, h1, h2⟩ := bindsB_some h
    exact ⟨o, by simpa using h1, by simpa using h2⟩
theorem initF_get {n : Nat} {os : List Val} {i : Nat} {s : Sl} (h : (initF n os)[i]? = some s) : (∃ o, os[i]? = some o ∧ s = slOf o) ∨ (os.length ≤ i ∧ s = .non) := by
  unfold initF at h
  by_cases hi : i < os.length
  · rw [List.getElem?_append_left (by simpa using hi), List.getElem?_map] at h
    obtain ⟨o, h1, h2⟩ := Option.map_eq_some_iff.mp h
    exact .inl ⟨o, h1, h2.symm⟩
  · rw [List.getElem?_append_right (by simpa using hi), List.getElem?_replicate] at h
    split at h
    · cases h; exact .inr ⟨by omega, rfl⟩
    · cases h
theorem start_get {N : List Str} {vs : List V} {i : Nat} {v : V} (h : vs[i]? = some v) : (start N vs)[i]? = some (some v) := by
  have hi := (List.getElem?_eq_some_iff.mp h).1
  unfold L2.start
  rw [List.getElem?_append_left (by simpa using hi), List.getElem?_map, h]
  rfl
theorem start_some {N : List Str} {vs : List V} {i : Nat} {t : Option V} (hi : i < vs.length) (h : (start N vs)[i]? = some t) : ∃ v, vs[i]? = some v ∧ t = some v := by
  have e := List.getElem?_eq_getElem hi
  rw [start_get e] at h
  cases h
  exact ⟨_, e, rfl⟩
theorem init_si {N : List Str} {os : List Val} {vs : List V} (hn : os.length ≤ N.length) (ao : ArgsOk G F H os vs) : SI G F H ⟨bindsB os vs, none⟩ (initF N.length os) (start N vs) := by
  have ownI : ∀ i, Own (initF N.length os) i → ∃ o, os[i]? = some (Val.own o) := fun i ⟨o, h⟩ => by
    rcases h with h | h
    · rcases initF_get h with ⟨p, e1, e2⟩ | ⟨_, e⟩
      · cases p <;> cases e2
      · cases e
    · rcases initF_get h with ⟨p, e1, e2⟩ | ⟨_, e⟩
      · cases p with
        | fz d => cases e2
        | own c => exact ⟨c, e1⟩
      · cases e
  have lt : ∀ {i : Nat} {o : Val}, os[i]? = some o → i < vs.length := fun {i o} e => by rw [← ao.len]; exact (List.getElem?_eq_some_iff.mp e).1
  refine ⟨?_, fun i s t e1 e2 => ?_, fun i j a h1 h2 e1 e2 => ?_, fun i o e => ?_, fun i v e => ?_, ao.fl⟩
  · unfold initF L2.start
    rw [List.length_append, List.length_append, List.length_map, List.length_map, List.length_replicate, List.length_replicate, ao.len]
  · rcases initF_get e1 with ⟨o, h1, rfl⟩ | ⟨_, rfl⟩
    · obtain ⟨v, h2, rfl⟩ := start_some (lt h1) e2
      have := ao.ok i o v h1 h2
      cases o with
      | fz d => exact ⟨v, rfl, this⟩
      | own o => obtain ⟨a, z, r, f⟩ := this; exact ⟨a, by rw [z], r, f⟩
    · trivial
  · obtain ⟨o, h1⟩ := ownI i h1
    obtain ⟨p, h2⟩ := ownI j h2
    obtain ⟨v, h3, h4⟩ := start_some (lt h1) e1
    obtain ⟨w, h5, h6⟩ := start_some (lt h2) e2
    cases h4; cases h6
    exact ao.dj i j a o p h1 h2 h3 h5
  · rcases initF_get e with ⟨p, e1, e2⟩ | ⟨_, e⟩
    · cases p with
      | fz d => cases e2
      | own c =>
        have hi := lt e1
        have e3 := List.getElem?_eq_getElem hi
        exact ⟨_, bindsB_get e1 e3, start_get e3⟩
    · cases e
  · obtain ⟨o, h1, h2⟩ := bindsB_some e
    have hi : i < os.length := (List.getElem?_eq_some_iff.mp h1).1
    refine ⟨o, ?_⟩
    unfold initF
    rw [List.getElem?_append_left (by simpa using hi), List.getElem?_map, h1]
    rfl
theorem init_ow {N : List Str} {os : List Val} {vs : List V} (hl : os.length = vs.length) {a : Addr} : Ow (initF N.length os) (start N vs) a → OwA os vs a := fun ⟨i, ⟨o, h⟩, e⟩ => by
  have key : ∃ c, os[i]? = some (Val.own c) := by
    rcases h with h | h
    · rcases initF_get h with ⟨p, e1, e2⟩ | ⟨_, e⟩
      · cases p <;> cases e2
      · cases e
    · rcases initF_get h with ⟨p, e1, e2⟩ | ⟨_, e⟩
      · cases p with
        | fz d => cases e2
        | own c => exact ⟨c, e1⟩
      · cases e
  obtain ⟨c, h1⟩ := key
  obtain ⟨v, h2, h3⟩ := start_some (by rw [← hl]; exact (List.getElem?_eq_some_iff.mp h1).1) e
  cases h3
  exact ⟨i, c, h1, h2⟩
theorem finals_get : ∀ {os : List Val} {fr : Fm} {i : Nat} {o : Val}, (finals os fr)[i]? = some o → (∃ d, o = .fz d ∧ os[i]? = some (.fz d)) ∨ (∃ c p, o = .own p ∧ os[i]? = some (.own c) ∧ ((fr[i]? = some (.bor p)) ∨ ∀ q, fr[i]? ≠ some (.bor q)))
  | [], fr, i, o, h => by cases fr <;> simp [finals] at h
  | .fz d :: os, [], i, o, h => by
    simp only [finals] at h
    cases o with
    | fz d' => exact .inl ⟨d', rfl, h⟩
    | own c => exact .inr ⟨c, c, rfl, h, .inr fun q => by simp⟩
  | .own c :: os, [], i, o, h => by
    simp only [finals] at h
    cases o with
    | fz d' => exact .inl ⟨d', rfl, h⟩
    | own c => exact .inr ⟨c, c, rfl, h, .inr fun q => by simp⟩
  | .fz d :: os, s :: fr, 0, o, h => by simp [finals] at h; exact .inl ⟨d, h.symm, rfl⟩
  | .own c :: os, s :: fr, 0, o, h => by
    simp only [finals, List.getElem?_cons_zero, Option.some.injEq] at h
    cases s with
    | bor p => exact .inr ⟨c, p, h.symm, rfl, .inl rfl⟩
    | non => exact .inr ⟨c, c, h.symm, rfl, .inr fun q => by simp⟩
    | fz d => exact .inr ⟨c, c, h.symm, rfl, .inr fun q => by simp⟩
    | exn x fs => exact .inr ⟨c, c, h.symm, rfl, .inr fun q => by simp⟩
    | own d => exact .inr ⟨c, c, h.symm, rfl, .inr fun q => by simp⟩
  | .fz d :: os, s :: fr, i + 1, o, h => by
    simp only [finals, List.getElem?_cons_succ] at h ⊢
    exact finals_get h
  | .own c :: os, s :: fr, i + 1, o, h => by
    simp only [finals, List.getElem?_cons_succ] at h ⊢
    exact finals_get h
theorem finals_len : ∀ {os : List Val} {fr : Fm}, (finals os fr).length = os.length
  | [], fr => by cases fr <;> rfl
  | .fz d :: os, [] => rfl
  | .own c :: os, [] => rfl
  | .fz d :: os, s :: fr => by simp [finals, finals_len (os := os)]
  | .own c :: os, s :: fr => by simp [finals, finals_len (os := os)]
theorem finals_kinds : ∀ {os : List Val} {fr : Fm}, kinds os (finals os fr) = true
  | [], fr => by cases fr <;> rfl
  | .fz d :: os, [] => by
    have : ∀ os, kinds os os = true := fun os => by
      induction os with
      | nil => rfl
      | cons o os ih => cases o <;> simp [kinds, kind1, ih]
    exact this _
  | .own c :: os, [] => by
    have : ∀ os, kinds os os = true := fun os => by
      induction os with
      | nil => rfl
      | cons o os ih => cases o <;> simp [kinds, kind1, ih]
    exact this _
  | .fz d :: os, s :: fr => by simp [finals, kinds, kind1, finals_kinds (os := os)]
  | .own c :: os, s :: fr => by
    simp only [finals, kinds, finals_kinds (os := os), Bool.and_true]
    cases s <;> rfl
theorem end_args {N : List Str} {os : List Val} {vs : List V} (hn : os.length ≤ N.length) (ao : ArgsOk G F H os vs) (n : NxS G ⟨bindsB os vs, none⟩ F H (initF N.length os) (start N vs) F' H' fr' σ') :
    ArgsOk G F' H' (finals os fr') vs ∧ Step F H (OwA os vs) F' H' ∧ ∀ a, OwA os vs a → Ow fr' σ' a := by
  have I0 := init_si hn ao
  have bor : ∀ (i : Nat) (c : O) (v : V), os[i]? = some (Val.own c) → vs[i]? = some v → ∃ o, fr'[i]? = some (.bor o) ∧ σ'[i]? = some (some v) := fun i c v e1 e2 => by
    have e3 := bindsB_get e1 e2
    obtain ⟨o, h1⟩ := n.I.brw i v e3
    obtain ⟨w, h2, h3⟩ := n.I.bor i o h1
    rw [e3] at h2
    cases h2
    exact ⟨o, h1, h3⟩
  refine ⟨⟨by rw [finals_len, ao.len], fun i o v e1 e2 => ?_, fun i j a o p e1 e2 e3 e4 => ?_, n.I.fl⟩, n.st.wide fun a h => init_ow ao.len h, fun a ⟨i, c, e1, e2⟩ => ?_⟩
  · rcases finals_get e1 with ⟨d, rfl, h⟩ | ⟨c, p, rfl, h1, h2⟩
    · exact Rep.step n.st.toKp I0.ow_not d v (ao.ok i _ v h e2)
    · obtain ⟨q, h3, h4⟩ := bor i c v h1 e2
      rcases h2 with h2 | h2
      · exact n.I.ok i _ _ h2 h4 |> fun ⟨a, z, r, f⟩ => by cases z; exact ⟨a, rfl, r, f⟩
      · exact absurd h3 (h2 q)
  · have own : ∀ (i : Nat) (o : O), (finals os fr')[i]? = some (Val.own o) → ∃ c, os[i]? = some (Val.own c) := fun i o e => by
      rcases finals_get e with ⟨d, z, _⟩ | ⟨c, p, _, h1, _⟩
      · cases z
      · exact ⟨c, h1⟩
    obtain ⟨c, h1⟩ := own i o e1
    obtain ⟨c', h2⟩ := own j p e2
    exact ao.dj i j a c c' h1 h2 e3 e4
  · obtain ⟨o, h1, h2⟩ := bor i c _ e1 e2
    exact ⟨i, ⟨o, .inr h1⟩, h2⟩
/-- THE RULE: a def by its body's function -/
theorem fn_mk {P : Program} {w : World} {mg : Str → Option Value} {base : Heap} {x qual : Str} {st : Stmt} {f : Addr} {fd : FuncData} {N ps : List Str} {k : Nat} {R : List Val → Rs} (Fn : Fun G.K x qual st f fd) (S : FnScope N ps (defScope st)) (fb : Fm → OutS)
    (hbody : ∀ (cdv : Value) (A : Around) (outer : List Env) (s : Shared) (H : Hp) (B : Bx) (E : XK), Room k (A.deeper (PyProof.Rows.envOfC qual (defScope st) s.heap.objs.size f cdv)) →
      SSs (cxOf (L2.CX P w) P w G.K mg base N qual (defScope st) f cdv A outer s H E) G B (fun cls d _ H => E cls d H) (defBody st) fb)
    (hl : ∀ os, R os ≠ .bad → os.length = ps.length) (pure' : ∀ os, R os ≠ .bad → ofBody os (fb (initF N.length os)) = R os) : FnOk P w G.K mg base (L2.CX P w) (k + 1) f fd ps (spF G R) := by
  have hpl : ps.length ≤ N.length := by have := congrArg List.length S.pre; rw [List.length_take] at this; omega
  refine Fn.okX S (fun vs H Q E ⟨F, os, ao, h⟩ => ?_) (fun cdv A outer s H vs Q E hr ⟨F, os, ao, h⟩ => ?_)
  · have nb : R os ≠ .bad := fun z => by rw [z] at h; exact h
    rw [← ao.len, hl os nb]
  · have nb : R os ≠ .bad := fun z => by rw [z] at h; exact h
    have hn : os.length ≤ N.length := by rw [hl os nb]; exact hpl
    have pe := pure' os nb
    refine ⟨_, hbody cdv A outer s H ⟨bindsB os vs, none⟩ E hr, F, initF N.length os, init_si hn ao, ?_⟩
    rw [← pe] at h
    revert h
    cases fb (initF N.length os) with
    | nx fr' =>
      intro h F' H' σ' n
      obtain ⟨a1, a2, a3⟩ := end_args hn ao n
      exact h finals_kinds F' H' .non a1 a2 (by show Rep _ _ _ _ _; unfold Rep; rfl) vnew_fz
    | rt v fr' =>
      intro h F' H' σ' w n vo vn
      obtain ⟨a1, a2, a3⟩ := end_args hn ao n
      refine h finals_kinds F' H' w a1 a2 vo fun o a e1 e2 => ?_
      obtain ⟨b1, b2⟩ := vn o a e1 e2
      rcases b2 with b2 | b2
      · exact absurd (a3 a (init_ow ao.len b2)) b1
      · exact b2
    | exc x fr' =>
      intro h F' H' σ' c d n xo
      obtain ⟨a1, a2, a3⟩ := end_args hn ao n
      exact h finals_kinds F' H' c d a1 a2 xo
    | bk fr' => exact fun h => h.elim
    | ct fr' => exact fun h => h.elim
    | bad => exact fun h => h.elim
end
end MP
set_option Elab.async false
set_option linter.all false
set_option maxRecDepth 100000
set_option maxHeartbeats 400000
/-! MP8: list comprehensions. -/
namespace MP
open PySem PySem.Spec L2
section
variable {G : Gx} {B : Bx} {σ σ0 σ1 σ2 σ' : St} {F F0 F1 F2 F' : Addr → Prop} {H H0 H1 H2 H' : Hp} {fr fr0 fr1 fr2 fr' : Fm} {W : WX} {S : Addr → Prop} {X : Cx} {pos : Pos}
def wipeF (fr : Fm) : List Nat → Fm
  | [] => fr
  | v :: vs => (wipeF fr vs).set v .non
/-- none of these slots holds a caller's object -/
def noBor (fr : Fm) : List Nat → Bool
  | [] => true
  | v :: vs => (match fr[v]? with
    | some (.bor _) => false
    | _ => true) && noBor fr vs
theorem wipeF_len : ∀ {vs : List Nat}, (wipeF fr vs).length = fr.length
  | [] => rfl
  | v :: vs => by unfold wipeF; rw [List.length_set, wipeF_len]
theorem wipeF_get {i : Nat} {s : Sl} : ∀ {vs : List Nat}, (wipeF fr vs)[i]? = some s → (i ∉ vs ∧ fr[i]? = some s) ∨ (i ∈ vs ∧ s = .non)
  | [], h => .inl ⟨by simp, h⟩
  | v :: vs, h => by
    unfold wipeF at h
    rcases getset h with ⟨rfl, rfl, _⟩ | ⟨n, h⟩
    · exact .inr ⟨by simp, rfl⟩
    · rcases wipeF_get h with ⟨m, e⟩ | ⟨m, e⟩
      · exact .inl ⟨by simp [n, m], e⟩
      · exact .inr ⟨by simp [m], e⟩
theorem wipeF_out {i : Nat} : ∀ {vs : List Nat}, i ∉ vs → (wipeF fr vs)[i]? = fr[i]?
  | [], _ => rfl
  | v :: vs, h => by
    unfold wipeF
    have h1 : v ≠ i := fun e => h (by simp [e])
    have h2 : i ∉ vs := fun e => h (by simp [e])
    rw [List.getElem?_set_ne h1, wipeF_out h2]
theorem noBor_get {i : Nat} : ∀ {vs : List Nat}, noBor fr vs = true → i ∈ vs → ∀ o, fr[i]? ≠ some (.bor o)
  | [], _, m, o, e => by simp at m
  | v :: vs, h, m, o, e => by
    simp only [noBor, Bool.and_eq_true] at h
    rcases List.mem_cons.mp m with z | z
    · subst z; rw [e] at h; simp at h
    · exact noBor_get h.2 z o e
theorem own_wipe {vs : List Nat} {i : Nat} (h : Own (wipeF fr vs) i) : i ∉ vs ∧ Own fr i := by
  obtain ⟨o, h⟩ := h
  rcases h with h | h
  · rcases wipeF_get h with ⟨m, e⟩ | ⟨_, e⟩
    · exact ⟨m, o, .inl e⟩
    · cases e
  · rcases wipeF_get h with ⟨m, e⟩ | ⟨_, e⟩
    · exact ⟨m, o, .inr e⟩
    · cases e
theorem wipe_out {i : Nat} {vs : List Nat} (h : i ∉ vs) : (wipe σ vs)[i]? = σ[i]? := by rw [wipe_get, if_neg h]
theorem SI.wipe {vs : List Nat} (I : SI G F H B fr σ) (h : noBor fr vs = true) : SI G F H B (wipeF fr vs) (L2.wipe σ vs) := by
  refine ⟨by rw [wipeF_len, wipe_length]; exact I.len, fun j s t e1 e2 => ?_, fun i j a h1 h2 e1 e2 => ?_, fun j o e => ?_, fun j v e => ?_, I.fl⟩
  · rcases wipeF_get e1 with ⟨m, e⟩ | ⟨m, rfl⟩
    · rw [wipe_out m] at e2; exact I.ok j s t e e2
    · trivial
  · obtain ⟨m1, h1⟩ := own_wipe h1
    obtain ⟨m2, h2⟩ := own_wipe h2
    rw [wipe_out m1] at e1
    rw [wipe_out m2] at e2
    exact I.dj i j a h1 h2 e1 e2
  · rcases wipeF_get e with ⟨m, e⟩ | ⟨_, z⟩
    · obtain ⟨v, h1, h2⟩ := I.bor j o e
      exact ⟨v, h1, by rw [wipe_out m]; exact h2⟩
    · cases z
  · obtain ⟨o, q⟩ := I.brw j v e
    have m : j ∉ vs := fun m => noBor_get h m o q
    exact ⟨o, by rw [wipeF_out m]; exact q⟩
theorem ow_wipe {vs : List Nat} {a : Addr} : Ow (wipeF fr vs) (L2.wipe σ vs) a → Ow fr σ a := fun ⟨i, h, e⟩ => by
  obtain ⟨m, h⟩ := own_wipe h
  rw [wipe_out m] at e
  exact ⟨i, h, e⟩
theorem NxS.wipe {vs : List Nat} (n : NxS G B F0 H0 fr0 σ0 F H fr σ) (h : noBor fr vs = true) : NxS G B F0 H0 fr0 σ0 F H (wipeF fr vs) (L2.wipe σ vs) := ⟨n.I.wipe h, n.st, fun a z => n.sub a (ow_wipe z)⟩
/-- behind a block: its own slots as they were, the others as they are -/
def rest1 (vs : List Nat) (fr : Fm) (j : Nat) (s : Sl) : Sl := if j ∈ vs then (match fr[j]? with
  | some t => t
  | none => .non) else s
def restF (vs : List Nat) (fr : Fm) : Nat → Fm → Fm
  | _, [] => []
  | j, s :: gr => rest1 vs fr j s :: restF vs fr (j + 1) gr
theorem restF_get {vs : List Nat} : ∀ {gr : Fm} {n j : Nat}, (restF vs fr n gr)[j]? = (gr[j]?).map (rest1 vs fr (n + j))
  | [], n, j => by simp [restF]
  | s :: gr, n, 0 => by simp [restF]
  | s :: gr, n, j + 1 => by
    simp only [restF, List.getElem?_cons_succ]
    rw [restF_get (gr := gr) (n := n + 1) (j := j)]
    congr 2
    omega
theorem restF_len {vs : List Nat} : ∀ {gr : Fm} {n : Nat}, (restF vs fr n gr).length = gr.length
  | [], n => rfl
  | s :: gr, n => by simp [restF, restF_len (gr := gr)]
theorem restF_some {vs : List Nat} {gr : Fm} {j : Nat} {s : Sl} (hl : gr.length = fr.length) (h : (restF vs fr 0 gr)[j]? = some s) : (j ∈ vs ∧ fr[j]? = some s) ∨ (j ∉ vs ∧ gr[j]? = some s) := by
  rw [restF_get, Nat.zero_add] at h
  obtain ⟨t, h1, h2⟩ := Option.map_eq_some_iff.mp h
  unfold rest1 at h2
  by_cases m : j ∈ vs
  · rw [if_pos m] at h2
    have hj : j < fr.length := by rw [← hl]; exact (List.getElem?_eq_some_iff.mp h1).1
    rw [List.getElem?_eq_getElem hj] at h2
    exact .inl ⟨m, by rw [List.getElem?_eq_getElem hj]; exact congrArg some h2⟩
  · rw [if_neg m] at h2
    exact .inr ⟨m, by rw [h1, h2]⟩
theorem Nx.unwipe {vs : List Nat} {gr : Fm} (I : SI G F H B fr σ) (hb : noBor fr vs = true) (n : Nx G B (L2.wipe σ vs) F H (wipeF fr vs) F' H' gr) : Nx G B σ F H fr F' H' (restF vs fr 0 gr) := by
  have hl : gr.length = fr.length := by rw [n.I.len, wipe_length, I.len]
  have st : Step F H (Ow (wipeF fr vs) (L2.wipe σ vs)) F' H' := n.st
  have out : ∀ {j : Nat} {a : Addr}, j ∈ vs → Own fr j → σ[j]? = some (some (.ref a)) → ¬ Ow (wipeF fr vs) (L2.wipe σ vs) a := fun {j a} m o e ⟨i, h, e2⟩ => by
    obtain ⟨mi, h⟩ := own_wipe h
    rw [wipe_out mi] at e2
    exact mi (I.dj j i a o h e e2 ▸ m)
  have dj : ∀ b, F b → ¬ Ow (wipeF fr vs) (L2.wipe σ vs) b := fun b f z => I.ow_not b f (ow_wipe z)
  have own : ∀ {j : Nat}, Own (restF vs fr 0 gr) j → (j ∈ vs ∧ Own fr j) ∨ (j ∉ vs ∧ Own gr j) := fun {j} ⟨o, h⟩ => by
    rcases h with h | h
    · rcases restF_some hl h with ⟨m, e⟩ | ⟨m, e⟩
      · exact .inl ⟨m, o, .inl e⟩
      · exact .inr ⟨m, o, .inl e⟩
    · rcases restF_some hl h with ⟨m, e⟩ | ⟨m, e⟩
      · exact .inl ⟨m, o, .inr e⟩
      · exact .inr ⟨m, o, .inr e⟩
  have grOw : ∀ {j : Nat} {a : Addr}, j ∉ vs → Own gr j → σ[j]? = some (some (.ref a)) → Ow gr (L2.wipe σ vs) a := fun {j a} m o e => ⟨j, o, by rw [wipe_out m]; exact e⟩
  refine ⟨⟨by rw [restF_len, hl]; exact I.len, fun j s t e1 e2 => ?_, fun i j a h1 h2 e1 e2 => ?_, fun j o e => ?_, fun j v e => ?_, n.I.fl⟩, st.wide fun a z => ow_wipe z, fun a ⟨j, hj, ej⟩ => ?_⟩
  · rcases restF_some hl e1 with ⟨m, e⟩ | ⟨m, e⟩
    · have k := I.ok j s t e e2
      have nf : ∀ {a}, H a ≠ none → ¬ F a → ¬ Ow (wipeF fr vs) (L2.wipe σ vs) a → ¬ F' a := fun {a} h1 h2 h3 z => by
        rcases st.newF a z with y | y | y
        · exact h2 y
        · exact h3 y
        · exact h1 y
      cases s with
      | non => trivial
      | fz d => obtain ⟨v, z, r⟩ := k; exact ⟨v, z, Rep.step st.toKp dj d v r⟩
      | own o =>
        obtain ⟨a, z, r, f⟩ := k
        subst z
        have no := out m ⟨o, .inl e⟩ e2
        exact ⟨a, rfl, r.step st.toKp dj no, nf r.there f no⟩
      | bor o => exact absurd e (noBor_get hb m o)
      | exn c fs => obtain ⟨b, d, z1, z2, r⟩ := k; exact ⟨b, d, z1, z2, r.step st.toKp dj⟩
    · exact n.I.ok j s t e (by rw [wipe_out m]; exact e2)
  · rcases own h1 with ⟨m1, o1⟩ | ⟨m1, o1⟩
    · rcases own h2 with ⟨m2, o2⟩ | ⟨m2, o2⟩
      · exact I.dj i j a o1 o2 e1 e2
      · exfalso
        exact out m1 o1 e1 (n.sub a (grOw m2 o2 e2))
    · rcases own h2 with ⟨m2, o2⟩ | ⟨m2, o2⟩
      · exfalso
        exact out m2 o2 e2 (n.sub a (grOw m1 o1 e1))
      · exact n.I.dj i j a o1 o2 (by rw [wipe_out m1]; exact e1) (by rw [wipe_out m2]; exact e2)
  · rcases restF_some hl e with ⟨m, e⟩ | ⟨m, e⟩
    · exact I.bor j o e
    · obtain ⟨v, h1, h2⟩ := n.I.bor j o e
      exact ⟨v, h1, by rw [wipe_out m] at h2; exact h2⟩
  · obtain ⟨o, q⟩ := n.I.brw j v e
    obtain ⟨o', q'⟩ := I.brw j v e
    have m : j ∉ vs := fun m => noBor_get hb m o' q'
    refine ⟨o, ?_⟩
    rw [restF_get, Nat.zero_add, q]
    simp [rest1, m]
  · rcases own hj with ⟨m, o⟩ | ⟨m, o⟩
    · exact ⟨j, o, ej⟩
    · exact ow_wipe (n.sub a (grOw m o ej))
/-! ### [elt for target in iter if ..] -/
def lcL (tg : D → Fm → Option Fm) (tst : Fm → Out Bool) (el : Fm → Out Opn) (vs : List Nat) : List D → List D → Fm → Out (List D)
  | [], acc, fr => .ok acc fr
  | d :: ds, acc, fr => match tg d fr with
    | none => .bad
    | some fr1 => match tst fr1 with
      | .ok b fr2 => match b with
        | true => match el fr2 with
          | .ok p fr3 => match frz fr3 p with
            | some (e, fr4) => if acc.length < sizeLine ∧ noBor fr4 vs = true then lcL tg tst el vs ds (acc ++ [e]) (wipeF fr4 vs) else .bad
            | none => .bad
          | _ => .bad
        | false => if noBor fr2 vs = true then lcL tg tst el vs ds acc (wipeF fr2 vs) else .bad
      | _ => .bad
def sLc (fi : Fm → Out (List D)) (tg : D → Fm → Option Fm) (tst : Fm → Out Bool) (el : Fm → Out Opn) (vs : List Nat) : Fm → Out Opn := fun fr => (fi fr).bind fun ds fr1 =>
  if noBor fr1 vs = true then (lcL tg tst el vs ds [] (wipeF fr1 vs)).bind fun acc fr2 => .ok (.vl (.own (.lst acc))) (restF vs fr1 0 fr2) else .bad
def sYes : Fm → Out Bool := fun fr => .ok true fr
/-- no exception leaves -/
abbrev W0 : WX := fun _ _ _ _ => False
def tTs (G : Gx) (B : Bx) (W : WX) (f : Fm → Out Bool) : TT := tT G B W f
theorem PTs.of {ifs : List Expr} {t t' : TT} (h : PTs X ifs t) (k : ∀ σ H Q, t' σ H Q → t σ H Q) : PTs X ifs t' := ⟨fun pins s σ H Q I q => h.run pins s σ H Q I (k _ _ _ q)⟩
abbrev STs (X : Cx) (G : Gx) (B : Bx) (W : WX) (ifs : List Expr) (f : Fm → Out Bool) : Prop := PTs X ifs (tT G B W f)
theorem sts_nil : STs X G B W [] sYes := PTs.of pts_nil fun σ H Q ⟨F, fr, I, h⟩ => h F H (.refl I)
theorem sts_one {c : Expr} {f : Fm → Out Bool} (h : ST X G B W c f) : STs X G B W [c] f := pts_one h
/-- the list that is being filled: it stands apart from the frame -/
structure Fill (G : Gx) (F : Addr → Prop) (H : Hp) (fr : Fm) (σ : St) (L : Addr) (acc : List D) : Prop where
  at_ : ∃ vs, H L = some (.lst vs) ∧ Reps G F H acc vs
  nf : ¬ F L
  no : ¬ Ow fr σ L
theorem Fill.step {L : Addr} {acc : List D} (x : Fill G F H fr σ L acc) (st : Step F H (Ow fr σ) F' H') (dj : ∀ b, F b → ¬ Ow fr σ b) (sub : ∀ a, Ow fr' σ' a → Ow fr σ a ∨ H a = none) : Fill G F' H' fr' σ' L acc := by
  obtain ⟨⟨vs, e, r⟩, nf, no⟩ := x
  have live : H L ≠ none := by rw [e]; simp
  refine ⟨⟨vs, st.keep _ _ e no, Reps.step st.toKp dj _ _ r⟩, fun f => ?_, fun z => (sub L z).elim no live⟩
  rcases st.newF L f with y | y | y
  · exact nf y
  · exact no y
  · exact live y
theorem lc_turn {D0 : Addr} {tg : D → Fm → Option Fm} {tst : Fm → Out Bool} {el : Fm → Out Opn} {vs is : List Nat} {acc : List D} {d : D} {σw : St} {tt : TT} {te : TE} {g : TG} {x : V} {Nx' : Hp → Prop} {more : List D → Fm → Prop}
    (his : ∀ i ∈ is, i ∈ vs) (hg : ∀ v σ H Q, tG G B is tg v σ H Q → g v σ H Q) (htt : ∀ σ H Q, tT G B W0 tst σ H Q → tt σ H Q) (hte : ∀ σ H Q, tE G B W0 el σ H Q → te σ H Q)
    (hw : L2.wipe σw vs = σw) (n0 : Nx G B σw F0 H0 fr0 F H fr) (hD : H0 D0 = none) (rd : Rep G F H d x) (fl : Fill G F H fr σw D0 acc)
    (ok : ∃ fr1 b fr2, tg d fr = some fr1 ∧ tst fr1 = .ok b fr2 ∧ ((b = false ∧ noBor fr2 vs = true ∧ more acc (wipeF fr2 vs)) ∨ (b = true ∧ ∃ p fr3 e fr4, el fr2 = .ok p fr3 ∧ frz fr3 p = some (e, fr4) ∧ acc.length < sizeLine ∧ noBor fr4 vs = true ∧ more (acc ++ [e]) (wipeF fr4 vs))))
    (nx : ∀ F' H' fr' acc', Nx G B σw F0 H0 fr0 F' H' fr' → Fill G F' H' fr' σw D0 acc' → more acc' fr' → Nx' H') :
    g x σw H fun σ2 H2 => L2.wipe σ2 vs = L2.wipe σw vs ∧ tt σ2 H2 fun b H3 =>
      if b = true then te σ2 H3 fun y H4 => ∃ acc, H4 D0 = some (.lst acc) ∧ acc.length < sizeLine ∧ Nx' (upd H4 D0 (.lst (acc ++ [y]))) else Nx' H3 := by
  obtain ⟨fr1, b, fr2, eg, et, h⟩ := ok
  refine hg _ _ _ _ ⟨F, fr, d, n0.I, rd, fr1, eg, fun σ2 n1 => ⟨n1.so vs his, ?_⟩⟩
  have ew : L2.wipe σ2 vs = σw := (n1.so vs his).trans hw
  have back : ∀ {F' H' fr'}, SI G F' H' B fr' σ2 → Step F H (fun a => Ow fr1 σ2 a ∨ a = D0) F' H' → (∀ a, Ow fr' σ2 a → Ow fr1 σ2 a) → noBor fr' vs = true → Nx G B σw F0 H0 fr0 F' H' (wipeF fr' vs) := fun {F' H' fr'} I st sub hb => by
    have I' := I.wipe (vs := vs) hb
    rw [ew] at I'
    refine ⟨I', n0.st.trans st fun a z => ?_, fun a z => n0.sub a (n1.sub a (sub a ?_))⟩
    · rcases z with z | z
      · exact .inl (n0.sub a (n1.sub a z))
      · exact .inr (z ▸ hD)
    · rw [← ew] at z
      exact ow_wipe z
  refine htt _ _ _ ⟨F, fr1, n1.I, ?_⟩
  rw [et]
  intro F3 H3 n3
  have fl1 : Fill G F H fr1 σ2 D0 acc := ⟨fl.at_, fl.nf, fun z => fl.no (n1.sub _ z)⟩
  have fl3 : Fill G F3 H3 fr2 σ2 D0 acc := fl1.step n3.st n1.I.ow_not fun a z => .inl (n3.sub a z)
  have wfill : ∀ {F' H' fr' acc'}, Fill G F' H' fr' σ2 D0 acc' → Fill G F' H' (wipeF fr' vs) σw D0 acc' := fun {F' H' fr' acc'} f => ⟨f.at_, f.nf, fun z => f.no (by rw [← ew] at z; exact ow_wipe z)⟩
  rcases h with ⟨rfl, hb, hm⟩ | ⟨rfl, p, fr3, e, fr4, ee, ef, hz, hb, hm⟩
  · exact (if_neg (by decide)).mpr (nx F3 H3 _ acc (back n3.I (n3.st.wide fun a z => .inl z) n3.sub hb) (wfill fl3) hm)
  · refine (if_pos rfl).mpr (hte _ _ _ ⟨F3, fr2, n3.I, ?_⟩)
    rw [ee]
    intro F4 H4 n4 y oy ny
    obtain ⟨F5, n5, r5, up5, in5, sub5⟩ := frz_ok n4 oy ny ef
    have fl4 : Fill G F4 H4 fr3 σ2 D0 acc := fl3.step n4.st n3.I.ow_not fun a z => .inl (n4.sub a z)
    have fl5 : Fill G F5 H4 fr4 σ2 D0 acc := by
      obtain ⟨⟨ws, e1, r1⟩, nf, no⟩ := fl4
      refine ⟨⟨ws, e1, Reps.step (S := fun _ => False) (kp_up up5) (fun _ _ z => z) _ _ r1⟩, fun f => ?_, fun z => no (sub5 _ z)⟩
      rcases in5 D0 f with y | y | ⟨o, z1, z2⟩
      · exact nf y
      · exact no y
      · subst z1
        have := ny D0 z2
        obtain ⟨⟨ws, e3, _⟩, _, _⟩ := fl3
        rw [e3] at this
        cases this
    obtain ⟨⟨ws, e1, r1⟩, nf, no⟩ := fl5
    refine ⟨ws, e1, by rw [← r1.len]; exact hz, ?_⟩
    have st : Step F5 H4 (fun b => b = D0) F5 (upd H4 D0 (.lst (ws ++ [y]))) := ⟨⟨fun b o eb nb => by rw [upd_ne nb]; exact eb, fun b o eb on => by
        by_cases z : b = D0
        · subst z; rw [e1] at eb; cases eb; cases on
        · rw [upd_ne z]; exact eb, fun _ e => e⟩, fun b eb => by
        by_cases z : b = D0
        · rw [z, upd_same]; simp
        · rw [upd_ne z]; exact eb, fun b f => .inl f, fun b f => .inl f⟩
    have dj : ∀ b, F5 b → ¬ b = D0 := fun b f z => nf (z ▸ f)
    have I6 : SI G F5 (upd H4 D0 (.lst (ws ++ [y]))) B fr4 σ2 := n5.I.step st dj fun a z e => no (e ▸ z)
    have n35 := n3.trans n5
    have st6 : Step F H (fun a => Ow fr1 σ2 a ∨ a = D0) F5 (upd H4 D0 (.lst (ws ++ [y]))) := (n35.st.wide fun a z => .inl z).trans st fun a z => .inl (.inr z)
    refine nx F5 _ _ (acc ++ [e]) (back I6 st6 n35.sub hb) (wfill ⟨⟨_, upd_same, Reps.step st.toKp dj _ _ (Reps.append r1 (Reps.cons r5 Reps.nil))⟩, nf, no⟩) hm
theorem wipe_wipe {vs : List Nat} : L2.wipe (L2.wipe σ vs) vs = L2.wipe σ vs := by
  apply List.ext_getElem?
  intro j
  rw [wipe_get, wipe_get]
  by_cases m : j ∈ vs
  · simp only [m, if_true]
    cases σ[j]? <;> rfl
  · simp only [m, if_false]
theorem lcL_ok {tg : D → Fm → Option Fm} {tst : Fm → Out Bool} {el : Fm → Out Opn} {vs : List Nat} {d : D} {ds acc : List D} {P : Out (List D) → Prop} (hbad : ¬ P .bad) (h : P (lcL tg tst el vs (d :: ds) acc fr)) :
    ∃ fr1 b fr2, tg d fr = some fr1 ∧ tst fr1 = .ok b fr2 ∧ ((b = false ∧ noBor fr2 vs = true ∧ P (lcL tg tst el vs ds acc (wipeF fr2 vs))) ∨ (b = true ∧ ∃ p fr3 e fr4, el fr2 = .ok p fr3 ∧ frz fr3 p = some (e, fr4) ∧ acc.length < sizeLine ∧ noBor fr4 vs = true ∧ P (lcL tg tst el vs ds (acc ++ [e]) (wipeF fr4 vs)))) := by
  unfold lcL at h
  cases eg : tg d fr with
  | none => rw [eg] at h; exact absurd h hbad
  | some fr1 =>
    simp only [eg] at h
    cases et : tst fr1 with
    | bad => rw [et] at h; exact absurd h hbad
    | exc y fr2 => simp only [et] at h; exact absurd h hbad
    | ok b fr2 =>
      simp only [et] at h
      cases b with
      | false =>
        simp only at h
        cases hb : noBor fr2 vs with
        | false => simp only [hb] at h; exact absurd h hbad
        | true =>
          simp only [hb, if_true] at h
          exact ⟨fr1, false, fr2, rfl, et, .inl ⟨rfl, hb, h⟩⟩
      | true =>
        simp only at h
        cases ee : el fr2 with
        | bad => simp only [ee] at h; exact absurd h hbad
        | exc y fr3 => simp only [ee] at h; exact absurd h hbad
        | ok p fr3 =>
          simp only [ee] at h
          cases ef : frz fr3 p with
          | none => simp only [ef] at h; exact absurd h hbad
          | some q =>
            obtain ⟨e, fr4⟩ := q
            simp only [ef] at h
            by_cases hz : acc.length < sizeLine ∧ noBor fr4 vs = true
            · rw [if_pos hz] at h
              exact ⟨fr1, true, fr2, rfl, et, .inr ⟨rfl, p, fr3, e, fr4, ee, ef, hz.1, hz.2, h⟩⟩
            · rw [if_neg hz] at h; exact absurd h hbad
theorem lc_ok {fi : Fm → Out (List D)} {tg : D → Fm → Option Fm} {tst : Fm → Out Bool} {el : Fm → Out Opn} {vs is : List Nat} {wi : TI} {g : TG} {tt : TT} {te : TE} {Q : VK} (his : ∀ i ∈ is, i ∈ vs)
    (hi : ∀ σ H R, tI G B W fi σ H R → wi σ H R) (hg : ∀ v σ H Q, tG G B is tg v σ H Q → g v σ H Q) (htt : ∀ σ H Q, tT G B W0 tst σ H Q → tt σ H Q) (hte : ∀ σ H Q, tE G B W0 el σ H Q → te σ H Q)
    (h : tE G B W (sLc fi tg tst el vs) σ H Q) : tLc wi g tt te vs σ H Q := by
  obtain ⟨F, fr, I, h⟩ := h
  refine hi _ _ _ ⟨F, fr, I, (h.next (.refl I)).imp fun ds fr1 F1 H1 _ ⟨n1, _, h1⟩ J jo => ?_⟩
  cases hb : noBor fr1 vs with
  | false => simp only [hb] at h1; exact h1.elim
  | true =>
    simp only [hb, if_true] at h1
    intro D0 hD
    have Iw := n1.I.wipe (vs := vs) hb
    -- the run of the block, as a computation of the wiped frame
    let P : Out (List D) → Prop := fun o => ∃ acc fr2, o = .ok acc fr2 ∧ Aft G B W σ F H fr (.ok (.vl (.own (.lst acc))) (restF vs fr1 0 fr2) : Out Opn) (EPost G σ H Q)
    have hP : P (lcL tg tst el vs ds [] (wipeF fr1 vs)) := by
      cases e : lcL tg tst el vs ds [] (wipeF fr1 vs) with
      | bad => rw [e] at h1; exact h1.elim
      | ok acc fr2 => rw [e] at h1; exact ⟨acc, fr2, rfl, h1⟩
      | exc x fr2 =>
        exfalso
        have : ∀ (ds acc : List D) (fr : Fm), lcL tg tst el vs ds acc fr ≠ .exc x fr2 := by
          intro ds
          induction ds with
          | nil => intro acc fr z; simp [lcL] at z
          | cons d ds ih =>
            intro acc fr z
            unfold lcL at z
            split at z
            · cases z
            · split at z
              · split at z
                · split at z
                  · split at z
                    · split at z
                      · exact ih _ _ z
                      · cases z
                    · cases z
                  · cases z
                · split at z
                  · exact ih _ _ z
                  · cases z
              · cases z
        exact this _ _ _ e
    have hbad : ¬ P .bad := fun ⟨_, _, z, _⟩ => nomatch z
    have nD : Nx G B (L2.wipe σ vs) F1 H1 (wipeF fr1 vs) F1 (upd H1 D0 (.lst [])) (wipeF fr1 vs) := (Nx.refl Iw).quiet (step_new hD)
    have fD : Fill G F1 (upd H1 D0 (.lst [])) (wipeF fr1 vs) (L2.wipe σ vs) D0 [] := ⟨⟨[], upd_same, Reps.nil⟩, fun f => n1.I.fl D0 f hD, fun z => n1.I.ow_live (ow_wipe z) hD⟩
    refine ⟨fun i m H2 => ∃ rest acc F2 fr2, m = rest.length ∧ i + rest.length = ds.length ∧ ds.drop i = rest ∧ Nx G B (L2.wipe σ vs) F1 H1 (wipeF fr1 vs) F2 H2 fr2 ∧ Fill G F2 H2 fr2 (L2.wipe σ vs) D0 acc ∧ P (lcL tg tst el vs rest acc fr2),
      ⟨ds.length, ds, [], F1, wipeF fr1 vs, rfl, by simp, rfl, nD, fD, hP⟩, ?_⟩
    rintro i m H2 ⟨rest, acc, F2, fr2, rfl, hl, hd, n2, f2, p2⟩
    obtain ⟨j1, j2⟩ := jo F2 H2 i (n2.kp Iw.ow_not)
    cases rest with
    | nil =>
      refine .inl ⟨j2 (by simpa using hl), ?_⟩
      obtain ⟨acc', fr3, e, k⟩ := p2
      unfold lcL at e
      cases e
      have nU := Nx.unwipe n1.I hb n2
      have nAll := n1.trans nU
      obtain ⟨⟨ws, e1, r1⟩, nf, no⟩ := f2
      have hn : H D0 = none := n1.st.free hD
      refine k F2 H2 nAll (.ref D0) ⟨D0, rfl, ⟨ws, e1, r1⟩, nf, fun z => ?_⟩ (fun a e => by cases e; exact hn)
      exact n1.I.ow_live (nU.sub D0 z) hD
    | cons d rest =>
      have hd0 : ds[i]? = some d := by
        have := congrArg (fun l => l[0]?) hd
        simpa using this
      obtain ⟨go, yl⟩ := j1 d hd0
      refine .inr ⟨go, fun H3 => ∃ acc F3 fr3, Nx G B (L2.wipe σ vs) F1 H1 (wipeF fr1 vs) F3 H3 fr3 ∧ Fill G F3 H3 fr3 (L2.wipe σ vs) D0 acc ∧ P (lcL tg tst el vs rest acc fr3), fun H3 ⟨acc, F3, fr3, n3, f3, p3⟩ => ?_, fun x H3 hy => ?_⟩
      · refine ⟨rest.length, Nat.lt_succ_self _, rest, acc, F3, fr3, rfl, by simp at hl; omega, ?_, n3, f3, p3⟩
        have := congrArg List.tail hd
        rw [List.tail_drop] at this
        simpa using this
      · obtain ⟨F3, st, rd⟩ := yl x H3 hy
        have n3 := n2.quiet st
        have f3 : Fill G F3 H3 fr2 (L2.wipe σ vs) D0 acc := f2.step (st.wide fun _ z => z.elim) n2.I.ow_not fun a z => .inl z
        have key := lc_turn (Nx' := fun H3 => ∃ acc F3 fr3, Nx G B (L2.wipe σ vs) F1 H1 (wipeF fr1 vs) F3 H3 fr3 ∧ Fill G F3 H3 fr3 (L2.wipe σ vs) D0 acc ∧ P (lcL tg tst el vs rest acc fr3)) (more := fun acc fr => P (lcL tg tst el vs rest acc fr)) his hg htt hte wipe_wipe n3 hD rd f3 (lcL_ok hbad p2) fun F' H' fr' acc' n' f' m' => ⟨acc', F', fr', n', f', m'⟩
        rw [wipe_wipe] at key
        exact key
theorem s_lc {elt tg iter : Expr} {ifs : List Expr} {scope : Scope} {own : List (Str × Nat)} {is : List Nat} {fi : Fm → Out (List D)} {ft : D → Fm → Option Fm} {fs : Fm → Out Bool} {fe : Fm → Out Opn} (hc : X.calm = true) (hN : X.N.Nodup) (hi : SIt X G B W tg iter fi) (ok : BlkOk X.N X.env.scope scope own)
    (hg : ∀ (s : Shared) (H : Hp) (C : Addr) (cl : List (Str × Addr)) (fp : List Addr), SG (X.blk s H scope (compEnvC scope cl C X.env) fp) G B is tg ft)
    (ht : ∀ (s : Shared) (H : Hp) (C : Addr) (cl : List (Str × Addr)) (fp : List Addr), STs (X.blk s H scope (compEnvC scope cl C X.env) fp) G B W0 ifs fs)
    (he : ∀ (s : Shared) (H : Hp) (C : Addr) (cl : List (Str × Addr)) (fp : List Addr), SE (X.blk s H scope (compEnvC scope cl C X.env) fp) G B W0 elt fe)
    (his : ∀ i ∈ is, i ∈ own.map (·.2) := by decide) (hs : ∀ x, foldedSetIterable iter X.env x = pure x := by intro _; rfl) :
    SE X G B W (.ListComp elt [⟨tg, iter, ifs, 0⟩] scope pos) (sLc fi ft fs fe (own.map (·.2))) :=
  PE.of (pe_lc hc hN hi ok hg ht he hs) fun σ H Q h => lc_ok his (fun _ _ _ z => z) (fun _ _ _ _ z => z) (fun _ _ _ z => z) (fun _ _ _ z => z) h
theorem ss_setLc (i : Nat) {y : Str} {py spos : Pos} {elt tg iter : Expr} {ifs : List Expr} {scope : Scope} {own : List (Str × Nat)} {is : List Nat} {fi : Fm → Out (List D)} {ft : D → Fm → Option Fm} {fs : Fm → Out Bool} {fe : Fm → Out Opn} (hc : X.calm = true) (hN : X.N.Nodup) (hy : X.N[i]? = some y) (hyl : X.env.scope.names.lookup y = some .local)
    (hsw : swapsWith (.ListComp elt [⟨tg, iter, ifs, 0⟩] scope pos) (some (.Name y py)) spos.line X.env = pure true) (hi : SIt X G B W tg iter fi) (ok : BlkOk X.N X.env.scope scope own)
    (hg : ∀ (s : Shared) (H : Hp) (C : Addr) (cl : List (Str × Addr)) (fp : List Addr), SG (X.blk s H scope (compEnvC scope cl C X.env) fp) G B is tg ft)
    (ht : ∀ (s : Shared) (H : Hp) (C : Addr) (cl : List (Str × Addr)) (fp : List Addr), STs (X.blk s H scope (compEnvC scope cl C X.env) fp) G B W0 ifs fs)
    (he : ∀ (s : Shared) (H : Hp) (C : Addr) (cl : List (Str × Addr)) (fp : List Addr), SE (X.blk s H scope (compEnvC scope cl C X.env) fp) G B W0 elt fe)
    (his : ∀ i ∈ is, i ∈ own.map (·.2) := by decide) (hs : ∀ x, foldedSetIterable iter X.env x = pure x := by intro _; rfl) :
    SS X G B W (.Assign [.Name y py] (.ListComp elt [⟨tg, iter, ifs, 0⟩] scope pos) spos) (sSet i (sLc fi ft fs fe (own.map (·.2)))) :=
  PS.of (ps_setLc hc hN hy hyl hsw hi ok hg ht he hs) fun D σ H h => lc_ok (W := W) his (fun _ _ _ z => z) (fun _ _ _ _ z => z) (fun _ _ _ z => z) (fun _ _ _ z => z) (set_ok h)
end
end MP
set_option Elab.async false
set_option linter.all false
set_option maxRecDepth 100000
set_option maxHeartbeats 400000
/-! MPA: the operations by data. -/
namespace MP
open PySem PySem.Spec L2
section
variable {X : Cx} {G : Gx} {F F' : Addr → Prop} {H H' : Hp}
/-! ### reading a value back -/
theorem rr_non {x : V} (r : RRep G F H .non x) : x = .non := by unfold RRep Rep at r; exact r
theorem rr_bl {b : Bool} {x : V} (r : RRep G F H (.bl b) x) : x = .bl b := by unfold RRep Rep at r; exact r
theorem rr_int {i : Int} {x : V} (r : RRep G F H (.int i) x) : x = .int i := by unfold RRep Rep at r; exact r
theorem rr_str {z : Str} {x : V} (r : RRep G F H (.str z) x) : x = .str z := by unfold RRep Rep at r; exact r
theorem rr_ty {n : String} {x : V} (r : RRep G F H (.ty n) x) : x = .ty n := by unfold RRep Rep at r; exact r
theorem rr_cls {c : Nat} {x : V} (r : RRep G F H (.cls c) x) : x = .ref (G.cl c) := by unfold RRep Rep at r; exact r
theorem rr_tup {ds : List D} {x : V} (r : RRep G F H (.tup ds) x) : ∃ a vs, x = .ref a ∧ H a = some (.tup vs) ∧ Reps G F H ds vs := by unfold RRep Rep at r; exact r
theorem rr_lst {ds : List D} {x : V} (r : RRep G F H (.lst ds) x) : ∃ a vs, x = .ref a ∧ H a = some (.lst vs) ∧ Reps G F H ds vs := r
theorem rp_int {i : Int} : Rep G F H (.int i) (.int i) := by unfold Rep; rfl
theorem rp_bl {b : Bool} : Rep G F H (.bl b) (.bl b) := by unfold Rep; rfl
theorem rp_str {z : Str} : Rep G F H (.str z) (.str z) := by unfold Rep; rfl
theorem rp_non : Rep G F H .non .non := by unfold Rep; rfl
theorem rs_int {i : Int} {x : V} (r : Rep G F H (.int i) x) : x = .int i := by unfold Rep at r; exact r
theorem rs_bl {b : Bool} {x : V} (r : Rep G F H (.bl b) x) : x = .bl b := by unfold Rep at r; exact r
theorem rs_str {z : Str} {x : V} (r : Rep G F H (.str z) x) : x = .str z := by unfold Rep at r; exact r
/-! ### one operator, several kinds of operands -/
theorem opr_or {op : Value → Value → Sem Value} {r r' : R2} (h : OpR X op r) (h' : OpR X op r') : OpR X op (fun x y H Q => r x y H Q ∨ r' x y H Q) := fun pins s σ H x y v u Q I rx ry q => q.elim (h pins s σ H x y v u Q I rx ry) (h' pins s σ H x y v u Q I rx ry)
def orG (g g' : D → D → Option Val) : D → D → Option Val := fun d e => match g d e with
  | some u => some u
  | none => g' d e
theorem Lift2.or {op : Value → Value → Sem Value} {g g' : D → D → Option Val} (a : Lift2 X G op g) (b : Lift2 X G op g') : Lift2 X G op (orG g g') := by
  obtain ⟨r, h, k⟩ := a
  obtain ⟨r', h', k'⟩ := b
  refine ⟨_, opr_or h h', fun F H d e x y u Q fl rd re eg c => ?_⟩
  unfold orG at eg
  cases z : g d e with
  | some u' => rw [z] at eg; cases eg; exact .inl (k F H d e x y _ Q fl rd re z c)
  | none => rw [z] at eg; exact .inr (k' F H d e x y u Q fl rd re eg c)
/-! ### ints -/
def gI0 (g : Int → Int → D) : D → D → Option Val
  | .int i, .int j => some (.fz (g i j))
  | _, _ => none
def gI (C : Int → Int → Bool) (g : Int → Int → D) : D → D → Option Val
  | .int i, .int j => if C i j then some (.fz (g i j)) else none
  | _, _ => none
theorem lift_I0 {op : Value → Value → Sem Value} {f : Int → Int → V} {g : Int → Int → D} (h : OpR X op (rI0 f)) (hf : ∀ i j F H, Rep G F H (g i j) (f i j)) : Lift2 X G op (gI0 g) := by
  refine ⟨_, h, fun F H d e x y u Q fl rd re eg k => ?_⟩
  unfold gI0 at eg
  split at eg
  · cases eg; exact ⟨_, _, rr_int rd, rr_int re, k F H _ .refl (hf _ _ F H) vnew_fz⟩
  · cases eg
theorem lift_I {op : Value → Value → Sem Value} {P : Int → Int → Prop} {C : Int → Int → Bool} {f : Int → Int → V} {g : Int → Int → D} (h : OpR X op (rI P f)) (hC : ∀ i j, C i j = true → P i j) (hf : ∀ i j F H, Rep G F H (g i j) (f i j)) : Lift2 X G op (gI C g) := by
  refine ⟨_, h, fun F H d e x y u Q fl rd re eg k => ?_⟩
  unfold gI at eg
  split at eg
  · split at eg
    · rename_i z; cases eg; exact ⟨_, _, rr_int rd, rr_int re, hC _ _ z, k F H _ .refl (hf _ _ F H) vnew_fz⟩
    · cases eg
  · cases eg
def w64 (i : Int) : Bool := decide (-(2 ^ 64) < i) && decide (i < 2 ^ 64)
def mulC (i j : Int) : Bool := w64 i || w64 j
def divC (i j : Int) : Bool := decide (0 < j) && decide (j < 1073741824)
def powC (i j : Int) : Bool := decide (0 ≤ j) && decide (j ≤ 1000000) && decide (i.natAbs < 2 ^ 64)
theorem l_addI : Lift2 X G (binaryOp .Add) (gI0 fun i j => .int (i + j)) := lift_I0 op_add fun _ _ _ _ => rp_int
theorem l_subI : Lift2 X G (binaryOp .Sub) (gI0 fun i j => .int (i - j)) := lift_I0 op_sub fun _ _ _ _ => rp_int
theorem l_mulI : Lift2 X G (binaryOp .Mult) (gI mulC fun i j => .int (i * j)) := lift_I op_mul (fun i j h => by
  unfold mulC w64 at h
  simp only [Bool.or_eq_true, Bool.and_eq_true, decide_eq_true_eq] at h
  exact h) fun _ _ _ _ => rp_int
theorem l_divI : Lift2 X G (binaryOp .FloorDiv) (gI divC fun i j => .int (i / j)) := lift_I op_fdiv (fun i j h => by
  unfold divC at h
  simp only [Bool.and_eq_true, decide_eq_true_eq] at h
  exact h) fun _ _ _ _ => rp_int
theorem l_modI : Lift2 X G (binaryOp .Mod) (gI (fun _ j => decide (0 < j)) fun i j => .int (i % j)) := lift_I op_mod (fun i j h => of_decide_eq_true h) fun _ _ _ _ => rp_int
theorem l_powI : Lift2 X G (binaryOp .Pow) (gI powC fun i j => .int (i ^ j.toNat)) := lift_I op_pow (fun i j h => by
  unfold powC at h
  simp only [Bool.and_eq_true, decide_eq_true_eq] at h
  exact ⟨h.1.1, h.1.2, h.2⟩) fun _ _ _ _ => rp_int
theorem l_lt : Lift2 X G (compareOp .Lt) (gI0 fun i j => .bl (decide (i < j))) := lift_I0 op_lt fun _ _ _ _ => rp_bl
theorem l_le : Lift2 X G (compareOp .LtE) (gI0 fun i j => .bl (decide (i ≤ j))) := lift_I0 op_le fun _ _ _ _ => rp_bl
theorem l_gt : Lift2 X G (compareOp .Gt) (gI0 fun i j => .bl (decide (j < i))) := lift_I0 op_gt fun _ _ _ _ => rp_bl
theorem l_ge : Lift2 X G (compareOp .GtE) (gI0 fun i j => .bl (decide (j ≤ i))) := lift_I0 op_ge fun _ _ _ _ => rp_bl
/-! ### texts, lists, tuples: +, * -/
def gAddS : D → D → Option Val
  | .str x, .str y => if x.length + y.length ≤ sizeLine then some (.fz (.str (x ++ y))) else none
  | _, _ => none
theorem vp_str {z : Str} : VOk G F H (.fz (.str z)) (.str z) := rp_str (G := G) (F := F) (H := H)
theorem vp_int {z : Int} : VOk G F H (.fz (.int z)) (.int z) := rp_int (G := G) (F := F) (H := H)
theorem vp_bl {z : Bool} : VOk G F H (.fz (.bl z)) (.bl z) := rp_bl (G := G) (F := F) (H := H)
theorem l_addS : Lift2 X G (binaryOp .Add) gAddS := by
  refine ⟨_, op_add_str, fun F H d e x y u Q fl rd re eg k => ?_⟩
  unfold gAddS at eg
  split at eg
  · split at eg
    · rename_i z; cases eg; exact ⟨_, _, rr_str rd, rr_str re, z, k F H _ .refl vp_str vnew_fz⟩
    · cases eg
  · cases eg
/-- a new list, a new tuple -/
theorem mk_lst {Q : VK} {ds : List D} {vs : List V} {p : Addr} (fl : ∀ a, F a → H a ≠ none) (r : Reps G F H ds vs) (hp : H p = none) (k : ∀ F' H' w, Step F H (fun _ => False) F' H' → VOk G F' H' (.own (.lst ds)) w → VNew H (.own (.lst ds)) w → Q w H') : Q (.ref p) (upd H p (.lst vs)) :=
  k F _ _ (step_new hp) (new_lst hp fl r) (vnew_own hp)
theorem mk_tup {Q : VK} {ds : List D} {vs : List V} {p : Addr} (r : Reps G F H ds vs) (hp : H p = none) (k : ∀ F' H' w, Step F H (fun _ => False) F' H' → VOk G F' H' (.fz (.tup ds)) w → VNew H (.fz (.tup ds)) w → Q w H') : Q (.ref p) (upd H p (.tup vs)) :=
  k F _ _ (step_new hp) (new_tup hp r) vnew_fz
theorem rp_tup {ds : List D} {vs : List V} {a : Addr} (e : H a = some (.tup vs)) (r : Reps G F H ds vs) : Rep G F H (.tup ds) (.ref a) := by unfold Rep; exact ⟨a, vs, rfl, e, r⟩
theorem Reps.nil_iff {ds : List D} {vs : List V} (r : Reps G F H ds vs) : vs = [] ↔ ds = [] := by
  have := r.len
  constructor
  · intro e; subst e; exact List.length_eq_zero_iff.mp (by simpa using this)
  · intro e; subst e; exact List.length_eq_zero_iff.mp (by simpa using this.symm)
def gAddL : D → D → Option Val
  | .lst xs, .lst ys => if xs.length + ys.length ≤ sizeLine then some (.own (.lst (xs ++ ys))) else none
  | _, _ => none
theorem l_addL : Lift2 X G (binaryOp .Add) gAddL := by
  refine ⟨_, op_cat, fun F H d e x y u Q fl rd re eg k => ?_⟩
  unfold gAddL at eg
  split at eg
  · split at eg
    · rename_i z
      cases eg
      obtain ⟨a, vs, rfl, e1, r1⟩ := rr_lst rd
      obtain ⟨b, ws, rfl, e2, r2⟩ := rr_lst re
      exact ⟨a, b, vs, ws, rfl, rfl, e1, e2, by rw [← r1.len, ← r2.len]; exact z, fun p hp => mk_lst fl (r1.append r2) hp k⟩
    · cases eg
  · cases eg
def gAddT : D → D → Option Val
  | .tup xs, .tup ys => if xs.length + ys.length ≤ sizeLine then some (.fz (.tup (xs ++ ys))) else none
  | _, _ => none
theorem l_addT : Lift2 X G (binaryOp .Add) gAddT := by
  refine ⟨_, op_catA, fun F H d e x y u Q fl rd re eg k => ?_⟩
  unfold gAddT at eg
  split at eg
  · split at eg
    · rename_i z
      cases eg
      obtain ⟨a, vs, rfl, e1, r1⟩ := rr_tup rd
      obtain ⟨b, ws, rfl, e2, r2⟩ := rr_tup re
      refine ⟨a, b, vs, ws, rfl, rfl, .of e1, .of e2, by rw [← r1.len, ← r2.len]; exact z, fun h => ?_, fun h1 h2 => ?_, fun _ _ p hp => mk_tup (r1.append r2) hp k⟩
      · have := r1.nil_iff.mp h
        subst this
        exact k F H _ .refl (rp_tup e2 r2) vnew_fz
      · have := r2.nil_iff.mp h2
        subst this
        exact k F H _ .refl (by rw [List.append_nil]; exact rp_tup e1 r1) vnew_fz
    · cases eg
  · cases eg
def addD : D → D → Option Val := orG (gI0 fun i j => .int (i + j)) (orG gAddS (orG gAddL gAddT))
theorem l_add : Lift2 X G (binaryOp .Add) addD := l_addI.or (l_addS.or (l_addL.or l_addT))
def repN {α : Type} (k : Int) (xs : List α) : List α := (List.replicate k.toNat xs).flatten
theorem Reps.rep {ds : List D} {vs : List V} (r : Reps G F H ds vs) : ∀ n : Nat, Reps G F H (List.replicate n ds).flatten (List.replicate n vs).flatten
  | 0 => Reps.nil
  | n + 1 => by rw [List.replicate_succ, List.replicate_succ, List.flatten_cons, List.flatten_cons]; exact r.append (r.rep n)
def w63 (i : Int) : Bool := decide (-(2 ^ 63) ≤ i) && decide (i < 2 ^ 63)
theorem w63_ok {i : Int} (h : w63 i = true) : -(2 ^ 63) ≤ i ∧ i < 2 ^ 63 := by
  unfold w63 at h
  simp only [Bool.and_eq_true, decide_eq_true_eq] at h
  exact h
def gMulL : D → D → Option Val
  | .lst xs, .int k => if w63 k = true ∧ xs.length * k.toNat ≤ sizeLine then some (.own (.lst (repN k xs))) else none
  | _, _ => none
theorem l_mulL : Lift2 X G (binaryOp .Mult) gMulL := by
  refine ⟨_, op_rep, fun F H d e x y u Q fl rd re eg k => ?_⟩
  unfold gMulL at eg
  split at eg
  · split at eg
    · rename_i z
      cases eg
      obtain ⟨a, vs, rfl, e1, r1⟩ := rr_lst rd
      obtain ⟨z1, z2⟩ := z
      obtain ⟨z3, z4⟩ := w63_ok z1
      exact ⟨a, _, vs, rfl, rr_int re, e1, z3, z4, by rw [← r1.len]; exact z2, fun p hp => mk_lst fl (r1.rep _) hp k⟩
    · cases eg
  · cases eg
def gMulT : D → D → Option Val
  | .tup xs, .int k => if xs ≠ [] ∧ 2 ≤ k ∧ k ≤ 1000 ∧ xs.length ≤ 1000 then some (.fz (.tup (repN k xs))) else none
  | _, _ => none
theorem l_mulT : Lift2 X G (binaryOp .Mult) gMulT := by
  refine ⟨_, op_repT, fun F H d e x y u Q fl rd re eg k => ?_⟩
  unfold gMulT at eg
  split at eg
  · split at eg
    · rename_i z
      cases eg
      obtain ⟨a, vs, rfl, e1, r1⟩ := rr_tup rd
      obtain ⟨z1, z2, z3, z4⟩ := z
      exact ⟨a, _, vs, rfl, rr_int re, .of e1, fun h => z1 (r1.nil_iff.mp h), z2, z3, by rw [← r1.len]; exact z4, fun p hp => mk_tup (r1.rep _) hp k⟩
    · cases eg
  · cases eg
def mulD : D → D → Option Val := orG (gI mulC fun i j => .int (i * j)) (orG gMulL gMulT)
theorem l_mul : Lift2 X G (binaryOp .Mult) mulD := l_mulI.or (l_mulL.or l_mulT)
/-! ### == -/
mutual
def toP : D → Option PyData
  | .non => some .none
  | .bl b => some (.bool b)
  | .int i => some (.int i)
  | .str x => some (.str x)
  | .tup xs => (toPs xs).map .tuple
  | .lst xs => (toPs xs).map .list
  | _ => none
def toPs : List D → Option (List PyData)
  | [] => some []
  | d :: ds => match toP d, toPs ds with
    | some p, some ps => some (p :: ps)
    | _, _ => none
end
mutual
theorem dp_rep (G : Gx) (F : Addr → Prop) (H : Hp) : ∀ (d : D) (x : V) (p : PyData), Rep G F H d x → toP d = some p → Dp G.K H x p
  | .non, x, p, r, e => by unfold Rep at r; unfold toP at e; cases e; subst r; exact .non
  | .bl b, x, p, r, e => by unfold Rep at r; unfold toP at e; cases e; subst r; exact .bl b
  | .int i, x, p, r, e => by unfold Rep at r; unfold toP at e; cases e; subst r; exact .int i
  | .str z, x, p, r, e => by unfold Rep at r; unfold toP at e; cases e; subst r; exact .str z
  | .ty n, x, p, r, e => by unfold toP at e; cases e
  | .cls n, x, p, r, e => by unfold toP at e; cases e
  | .scr n, x, p, r, e => by unfold toP at e; cases e
  | .dic _ _, x, p, r, e => by unfold toP at e; cases e
  | .ins _ _ _, x, p, r, e => by unfold toP at e; cases e
  | .tup ds, x, p, r, e => by
    unfold Rep at r
    unfold toP at e
    obtain ⟨a, vs, rfl, q, rs⟩ := r
    cases z : toPs ds with
    | none => rw [z] at e; cases e
    | some ps => rw [z] at e; cases e; exact .tup (.of q) (dps_rep G F H ds vs ps rs z)
  | .lst ds, x, p, r, e => by
    unfold Rep at r
    unfold toP at e
    obtain ⟨a, vs, rfl, f, q, rs⟩ := r
    cases z : toPs ds with
    | none => rw [z] at e; cases e
    | some ps => rw [z] at e; cases e; exact .lst (.of q) (dps_rep G F H ds vs ps rs z)
theorem dps_rep (G : Gx) (F : Addr → Prop) (H : Hp) : ∀ (ds : List D) (vs : List V) (ps : List PyData), Reps G F H ds vs → toPs ds = some ps → DpAll G.K H vs ps
  | [], vs, ps, r, e => by unfold Reps at r; unfold toPs at e; cases e; subst r; exact .nil
  | d :: ds, vs, ps, r, e => by
    obtain ⟨v, ws, rfl, r1, rs⟩ := r.of_cons
    unfold toPs at e
    cases z1 : toP d with
    | none => simp [z1] at e
    | some p =>
      cases z2 : toPs ds with
      | none => simp [z1, z2] at e
      | some qs =>
        simp only [z1, z2] at e
        cases e
        exact .cons (dp_rep G F H d v p r1 z1) (dps_rep G F H ds ws qs rs z2)
end
theorem dp_of {d : D} {x : V} {p : PyData} (r : RRep G F H d x) (e : toP d = some p) : Dp G.K H x p := by
  cases d with
  | lst ds =>
    obtain ⟨a, vs, rfl, q, rs⟩ := rr_lst r
    unfold toP at e
    cases z : toPs ds with
    | none => rw [z] at e; cases e
    | some ps => rw [z] at e; cases e; exact .lst (.of q) (dps_rep G F H ds vs ps rs z)
  | dic ks vs => unfold toP at e; cases e
  | ins c ks vs => unfold toP at e; cases e
  | _ => exact dp_rep G F H _ x p r e
def eqD (d e : D) : Option Bool := match toP d, toP e with
  | some a, some b => if SeqAt.shaped a = true ∧ SeqAt.shaped b = true then some (PyData.eqv a b) else none
  | _, _ => none
def eqDG (d e : D) : Option Val := (eqD d e).map fun b => .fz (.bl b)
def neDG (d e : D) : Option Val := (eqD d e).map fun b => .fz (.bl (!b))
theorem eqD_ok {d e : D} {x y : V} {b : Bool} (h : eqD d e = some b) (rd : RRep G F H d x) (re : RRep G F H e y) : ∃ p q, Dp G.K H x p ∧ Dp G.K H y q ∧ SeqAt.shaped p = true ∧ SeqAt.shaped q = true ∧ PyData.eqv p q = b := by
  unfold eqD at h
  cases z1 : toP d with
  | none => simp [z1] at h
  | some p =>
    cases z2 : toP e with
    | none => simp [z1, z2] at h
    | some q =>
      simp only [z1, z2] at h
      split at h
      · rename_i z; cases h; exact ⟨p, q, dp_of rd z1, dp_of re z2, z.1, z.2, rfl⟩
      · cases h
theorem l_eqDD (hK : X.K = G.K) (hu : X.A.units + 64 < cLine) : Lift2 X G (compareOp .Eq) eqDG := by
  refine ⟨_, op_eqD hu, fun F H d e x y u Q fl rd re eg k => ?_⟩
  unfold eqDG at eg
  cases z : eqD d e with
  | none => rw [z] at eg; cases eg
  | some b =>
    rw [z] at eg; cases eg
    obtain ⟨p, q, h1, h2, h3, h4, rfl⟩ := eqD_ok z rd re
    exact ⟨p, q, by rw [hK]; exact h1, by rw [hK]; exact h2, h3, h4, k F H _ .refl vp_bl vnew_fz⟩
theorem l_neDD (hK : X.K = G.K) (hu : X.A.units + 64 < cLine) : Lift2 X G (compareOp .NotEq) neDG := by
  refine ⟨_, op_neD hu, fun F H d e x y u Q fl rd re eg k => ?_⟩
  unfold neDG at eg
  cases z : eqD d e with
  | none => rw [z] at eg; cases eg
  | some b =>
    rw [z] at eg; cases eg
    obtain ⟨p, q, h1, h2, h3, h4, rfl⟩ := eqD_ok z rd re
    exact ⟨p, q, by rw [hK]; exact h1, by rw [hK]; exact h2, h3, h4, k F H _ .refl vp_bl vnew_fz⟩
/-- ints, texts, bools -/
def eqSc : D → D → Option Bool
  | .int i, .int j => some (i == j)
  | .str i, .str j => some (i == j)
  | .bl i, .bl j => some (i == j)
  | _, _ => none
theorem eqSc_ok {d e : D} {x y : V} {b : Bool} (h : eqSc d e = some b) (rd : RRep G F H d x) (re : RRep G F H e y) : scal x y = true ∧ decide (x = y) = b := by
  unfold eqSc at h
  split at h
  · cases h; cases rr_int rd; cases rr_int re; exact ⟨rfl, dec_int⟩
  · cases h; cases rr_str rd; cases rr_str re; exact ⟨rfl, dec_str⟩
  · cases h; cases rr_bl rd; cases rr_bl re; exact ⟨rfl, dec_bl⟩
  · cases h
def eqS (d e : D) : Option Val := (eqSc d e).map fun b => .fz (.bl b)
def neS (d e : D) : Option Val := (eqSc d e).map fun b => .fz (.bl (!b))
theorem l_eqS : Lift2 X G (compareOp .Eq) eqS := by
  refine ⟨_, op_eq, fun F H d e x y u Q fl rd re eg k => ?_⟩
  unfold eqS at eg
  cases z : eqSc d e with
  | none => rw [z] at eg; cases eg
  | some b =>
    rw [z] at eg; cases eg
    obtain ⟨h1, h2⟩ := eqSc_ok z rd re
    exact ⟨h1, by rw [h2]; exact k F H _ .refl vp_bl vnew_fz⟩
theorem l_neS : Lift2 X G (compareOp .NotEq) neS := by
  refine ⟨_, op_ne, fun F H d e x y u Q fl rd re eg k => ?_⟩
  unfold neS at eg
  cases z : eqSc d e with
  | none => rw [z] at eg; cases eg
  | some b =>
    rw [z] at eg; cases eg
    obtain ⟨h1, h2⟩ := eqSc_ok z rd re
    exact ⟨h1, by rw [h2]; exact k F H _ .refl vp_bl vnew_fz⟩
def eqG : D → D → Option Val := orG eqS eqDG
def neG : D → D → Option Val := orG neS neDG
theorem l_eqD (hK : X.K = G.K) (hu : X.A.units + 64 < cLine) : Lift2 X G (compareOp .Eq) eqG := l_eqS.or (l_eqDD hK hu)
theorem l_neD (hK : X.K = G.K) (hu : X.A.units + 64 < cLine) : Lift2 X G (compareOp .NotEq) neG := l_neS.or (l_neDD hK hu)
/-! ### in -/
def flatD : D → Bool
  | .non => true
  | .bl _ => true
  | .int _ => true
  | .str _ => true
  | _ => false
def flV : D → V
  | .bl b => .bl b
  | .int i => .int i
  | .str z => .str z
  | _ => .non
theorem flV_of {d : D} {x : V} (h : flatD d = true) (r : Rep G F H d x) : x = flV d ∧ flatV x = true := by
  cases d with
  | non => unfold Rep at r; subst r; exact ⟨rfl, rfl⟩
  | bl b => cases rs_bl r; exact ⟨rfl, rfl⟩
  | int i => cases rs_int r; exact ⟨rfl, rfl⟩
  | str z => cases rs_str r; exact ⟨rfl, rfl⟩
  | _ => cases h
theorem flV_all : ∀ {ds : List D} {vs : List V}, ds.all flatD = true → Reps G F H ds vs → vs = ds.map flV ∧ vs.all flatV = true
  | [], vs, h, r => by unfold Reps at r; subst r; exact ⟨rfl, rfl⟩
  | d :: ds, vs, h, r => by
    obtain ⟨v, ws, rfl, r1, rs⟩ := r.of_cons
    rw [List.all_cons, Bool.and_eq_true] at h
    obtain ⟨e1, e2⟩ := flV_of h.1 r1
    obtain ⟨e3, e4⟩ := flV_all h.2 rs
    exact ⟨by rw [e1, e3]; rfl, by rw [List.all_cons, e2, e4]; rfl⟩
def inItems (d : D) (ds : List D) : Bool := (ds.map flV).any fun y => eqV y (flV d)
def seqOf : D → Option (List D)
  | .lst xs => some xs
  | .tup xs => some xs
  | _ => none
def gInS (neg : Bool) (d e : D) : Option Val := match seqOf e with
  | some ds => if flatD d = true ∧ ds.all flatD = true then some (.fz (.bl (if neg then !inItems d ds else inItems d ds))) else none
  | none => none
theorem rep_flat {d : D} {x : V} (h : flatD d = true) (r : RRep G F H d x) : Rep G F H d x := by
  cases d <;> first | exact r | cases h
theorem l_inS {op : CmpOp} {neg : Bool} (hK : X.K = G.K) (hop : OpR X (compareOp op) (rIn X.K neg)) : Lift2 X G (compareOp op) (gInS neg) := by
  refine ⟨_, hop, fun F H d e x y u Q fl rd re eg k => ?_⟩
  unfold gInS at eg
  cases z : seqOf e with
  | none => rw [z] at eg; cases eg
  | some ds =>
    simp only [z] at eg
    split at eg
    · rename_i h
      cases eg
      obtain ⟨e1, e2⟩ := flV_of h.1 (rep_flat h.1 rd)
      have fin : ∀ (a : Addr) (vs : List V), y = .ref a → (SqL X.K H a vs ∨ SqT X.K H a vs) → Reps G F H ds vs → rIn X.K neg x y H Q := fun a vs e3 hs rs => by
        obtain ⟨e4, e5⟩ := flV_all h.2 rs
        refine ⟨a, vs, e3, hs, e2, e5, ?_⟩
        have : inV x vs = inItems d ds := by unfold inV inItems; rw [e1, e4]
        rw [this]
        exact k F H _ .refl vp_bl vnew_fz
      cases e with
      | lst xs => cases z; obtain ⟨a, vs, e3, q, rs⟩ := rr_lst re; exact fin a vs e3 (.inl (.of q)) rs
      | tup xs => cases z; obtain ⟨a, vs, e3, q, rs⟩ := rr_tup re; exact fin a vs e3 (.inr (.of q)) rs
      | _ => cases z
    · cases eg
def gInC (neg : Bool) : D → D → Option Val
  | .str x, .str z => match x.cps.toList with
    | [c] => some (.fz (.bl (if neg then !decide (c ∈ z.cps.toList) else decide (c ∈ z.cps.toList))))
    | _ => none
  | _, _ => none
theorem one_sign {x : Str} {c : Nat} (h : x.cps.toList = [c]) : x = ⟨#[c]⟩ := by
  cases x with
  | mk a => congr; exact Array.toList_inj.mp (by rw [h])
theorem l_inC : Lift2 X G (compareOp .In) (gInC false) := by
  refine ⟨_, op_in_sign, fun F H d e x y u Q fl rd re eg k => ?_⟩
  unfold gInC at eg
  split at eg
  · split at eg
    · rename_i h
      cases eg
      exact ⟨_, _, by rw [rr_str rd, one_sign h], rr_str re, k F H _ .refl vp_bl vnew_fz⟩
    · cases eg
  · cases eg
theorem l_notInC : Lift2 X G (compareOp .NotIn) (gInC true) := by
  refine ⟨_, op_notIn_sign, fun F H d e x y u Q fl rd re eg k => ?_⟩
  unfold gInC at eg
  split at eg
  · split at eg
    · rename_i h
      cases eg
      exact ⟨_, _, by rw [rr_str rd, one_sign h], rr_str re, k F H _ .refl vp_bl vnew_fz⟩
    · cases eg
  · cases eg
def inG (neg : Bool) : D → D → Option Val := orG (gInS neg) (gInC neg)
theorem l_in (hK : X.K = G.K) : Lift2 X G (compareOp .In) (inG false) := (l_inS hK op_in_seq).or l_inC
theorem l_notIn (hK : X.K = G.K) : Lift2 X G (compareOp .NotIn) (inG true) := (l_inS hK op_notIn_seq).or l_notInC
/-! ### is None -/
def isNon : D → Bool
  | .non => true
  | _ => false
theorem isNon_of {d : D} {x : V} (r : RRep G F H d x) : decide (x = .non) = isNon d := by
  cases d with
  | non => cases rr_non r; rfl
  | bl b => cases rr_bl r; rfl
  | int b => cases rr_int r; rfl
  | str b => cases rr_str r; rfl
  | ty b => cases rr_ty r; rfl
  | cls b => cases rr_cls r; rfl
  | scr xs => unfold RRep Rep at r; obtain ⟨a, rfl, _⟩ := r; rfl
  | tup xs => obtain ⟨a, vs, rfl, _⟩ := rr_tup r; rfl
  | lst xs => obtain ⟨a, vs, rfl, _⟩ := rr_lst r; rfl
  | dic ks xs => obtain ⟨a, vs, rfl, _⟩ := r; rfl
  | ins c ks xs => obtain ⟨a, dx, vs, rfl, _⟩ := r; rfl
def gIs (neg : Bool) (d e : D) : Option Val := match e with
  | .non => some (.fz (.bl (if neg then !isNon d else isNon d)))
  | _ => none
theorem l_isN : Lift2 X G (compareOp .Is) (gIs false) := by
  refine ⟨_, op_isN, fun F H d e x y u Q fl rd re eg k => ?_⟩
  unfold gIs at eg
  split at eg
  · cases eg
    refine ⟨rr_non re, ?_⟩
    rw [isNon_of rd]
    exact k F H _ .refl vp_bl vnew_fz
  · cases eg
theorem l_notN : Lift2 X G (compareOp .IsNot) (gIs true) := by
  refine ⟨_, op_notN, fun F H d e x y u Q fl rd re eg k => ?_⟩
  unfold gIs at eg
  split at eg
  · cases eg
    refine ⟨rr_non re, ?_⟩
    rw [isNon_of rd]
    exact k F H _ .refl vp_bl vnew_fz
  · cases eg
/-! ### subscripts, slices -/
def gIxQ (d e : D) : Option Val := match e with
  | .int i => match seqOf d with
    | some ds => (atI ds i).map .fz
    | none => none
  | _ => none
def gIxC : D → D → Option Val
  | .str z, .int i => if z.length ≤ sizeLine then (atI z.cps.toList i).map fun c => .fz (.str ⟨#[c]⟩) else none
  | _, _ => none
theorem Reps.at {ds : List D} {vs : List V} {i : Int} {d : D} (r : Reps G F H ds vs) (h : atI ds i = some d) : ∃ v, atI vs i = some v ∧ Rep G F H d v := by
  unfold atI at h ⊢
  rw [← r.len]
  cases z : ixN ds.length i with
  | none => rw [z] at h; cases h
  | some j =>
    rw [z] at h
    obtain ⟨v, h1, h2⟩ := r.get (show ds[j]? = some d from h)
    exact ⟨v, h1, h2⟩
def ixG (d e : D) : Option Val := match gIxQ d e with
  | some u => some u
  | none => gIxC d e
theorem l_ix (hK : X.K = G.K) : LiftIx X G ixG := by
  refine ⟨_, ix_seq, fun F H d e x y u Q fl rd re eg k => ?_⟩
  rw [hK]
  unfold ixG at eg
  cases z : gIxQ d e with
  | some u' =>
    rw [z] at eg
    cases eg
    unfold gIxQ at z
    split at z
    · split at z
      · rename_i ds hs
        cases ha : atI ds _ with
        | none => rw [ha] at z; cases z
        | some c =>
          rw [ha] at z
          cases z
          cases d with
          | lst xs =>
            cases hs
            obtain ⟨a, vs, rfl, q, rs⟩ := rr_lst rd
            obtain ⟨v, h1, h2⟩ := rs.at ha
            exact .inl ⟨a, vs, _, v, rfl, rr_int re, .of q, h1, k F H _ .refl h2 vnew_fz⟩
          | tup xs =>
            cases hs
            obtain ⟨a, vs, rfl, q, rs⟩ := rr_tup rd
            obtain ⟨v, h1, h2⟩ := rs.at ha
            exact .inr (.inl ⟨a, vs, _, v, rfl, rr_int re, .of q, h1, k F H _ .refl h2 vnew_fz⟩)
          | _ => cases hs
      · cases z
    · cases z
  | none =>
    rw [z] at eg
    simp only at eg
    unfold gIxC at eg
    split at eg
    · rename_i zz i
      split at eg
      · rename_i h
        cases ha : atI zz.cps.toList i with
        | none => rw [ha] at eg; cases eg
        | some c => rw [ha] at eg; cases eg; exact .inr (.inr ⟨zz, i, c, rr_str rd, rr_int re, h, ha, k F H _ .refl vp_str vnew_fz⟩)
      · cases eg
    · cases eg
def cutD {α : Type} (xs : List α) (lo hi : Option Int) : List α := (xs.drop (HT.sIx xs.length 0 lo)).take (HT.sIx xs.length xs.length hi - HT.sIx xs.length 0 lo)
theorem Reps.cut {ds : List D} {vs : List V} (lo hi : Option Int) (r : Reps G F H ds vs) : Reps G F H (cutD ds lo hi) (cutV vs lo hi) := by
  unfold cutD cutV
  rw [r.len]
  exact (r.drop _).take _
theorem reps_ints : ∀ {xs : List Int}, Reps G F H (xs.map D.int) (xs.map V.int)
  | [] => Reps.nil
  | x :: xs => Reps.cons rp_int reps_ints
def slG (d : D) (lo hi : Option Int) : Option Val := match d with
  | .lst xs => some (.own (.lst (cutD xs lo hi)))
  | .scr xs => some (.own (.lst (cutD (xs.map D.int) lo hi)))
  | .tup xs => some (.fz (.tup (cutD xs lo hi)))
  | .str z => if z.length ≤ sizeLine then some (.fz (.str (Txt.slice z lo hi))) else none
  | _ => none
theorem l_sl (hK : X.K = G.K) : LiftSl X G slG := by
  refine ⟨_, sl_list.or (sl_tupA.or C8.sl_txt), fun F H d x lo hi u Q fl rd eg k => ?_⟩
  rw [hK]
  unfold slG at eg
  cases d with
  | lst xs =>
    cases eg
    obtain ⟨a, vs, rfl, q, rs⟩ := rr_lst rd
    exact .inl ⟨a, vs, rfl, .of q, fun p hp => mk_lst fl (rs.cut lo hi) hp k⟩
  | scr xs =>
    cases eg
    unfold RRep Rep at rd
    obtain ⟨a, rfl, q⟩ := rd
    refine .inl ⟨a, xs.map V.int, rfl, ?_, fun p hp => mk_lst fl (reps_ints.cut lo hi) hp k⟩
    rcases q with ⟨o, q⟩ | q
    · exact .inl (.inr ⟨o, q⟩)
    · exact q H
  | tup xs =>
    cases eg
    obtain ⟨a, vs, rfl, q, rs⟩ := rr_tup rd
    refine .inr (.inl ⟨a, vs, rfl, .of q, fun h => ?_, fun h p hp => mk_tup (rs.cut lo hi) hp k⟩)
    rw [← rs.len] at h
    have : cutD xs lo hi = xs := by
      unfold cutD
      rw [h.1, h.2]
      simp
    exact k F H _ .refl (by rw [this]; exact rp_tup q rs) vnew_fz
  | str z =>
    simp only at eg
    split at eg
    · rename_i h
      cases eg
      exact .inr (.inr ⟨z, rr_str rd, h, k F H _ .refl vp_str vnew_fz⟩)
    · cases eg
  | _ => cases eg
end
end MP
set_option Elab.async false
set_option linter.all false
set_option maxRecDepth 100000
set_option maxHeartbeats 400000
/-! MPB: built-in calls, methods, isinstance, dicts, by data. -/
namespace MP
open PySem PySem.Spec L2
section
variable {X : Cx} {G : Gx} {F F' : Addr → Prop} {H H' : Hp}
theorem callr_or {f : Value} {r r' : List V → Hp → VK → Prop} (h : CallR X f r) (h' : CallR X f r') : CallR X f (fun xs H Q => r xs H Q ∨ r' xs H Q) := fun pins s σ H xs us Q I rx q => q.elim (h pins s σ H xs us Q I rx) (h' pins s σ H xs us Q I rx)
def orC (g g' : List D → Option Val) : List D → Option Val := fun d => match g d with
  | some u => some u
  | none => g' d
theorem LiftC.or {f : Value} {g g' : List D → Option Val} (a : LiftC X G f g) (b : LiftC X G f g') : LiftC X G f (orC g g') := by
  obtain ⟨r, h, k⟩ := a
  obtain ⟨r', h', k'⟩ := b
  refine ⟨_, callr_or h h', fun F H ds vs u Q fl rd eg c => ?_⟩
  unfold orC at eg
  cases z : g ds with
  | some u' => rw [z] at eg; cases eg; exact .inl (k F H ds vs _ Q fl rd z c)
  | none => rw [z] at eg; exact .inr (k' F H ds vs u Q fl rd eg c)
theorem rr1 {d : D} {vs : List V} (r : RReps G F H [d] vs) : ∃ x, vs = [x] ∧ RRep G F H d x := by
  obtain ⟨v, ws, rfl, r1, rn⟩ := r
  have : ws = [] := rn
  subst this
  exact ⟨v, rfl, r1⟩
theorem rr2 {d e : D} {vs : List V} (r : RReps G F H [d, e] vs) : ∃ x y, vs = [x, y] ∧ RRep G F H d x ∧ RRep G F H e y := by
  obtain ⟨v, ws, rfl, r1, rn⟩ := r
  obtain ⟨y, rfl, r2⟩ := rr1 rn
  exact ⟨v, y, rfl, r1, r2⟩
/-- a call with one argument -/
def gOne (g : D → Option Val) : List D → Option Val
  | [d] => g d
  | _ => none
theorem lift_one {f : Value} {g : D → Option Val} {r : List V → Hp → VK → Prop} (h : CallR X f r)
    (k : ∀ (F : Addr → Prop) (H : Hp) (d : D) (x : V) (u : Val) (Q : VK), (∀ a, F a → H a ≠ none) → RRep G F H d x → g d = some u → (∀ F' H' w, Step F H (fun _ => False) F' H' → VOk G F' H' u w → VNew H u w → Q w H') → r [x] H Q) : LiftC X G f (gOne g) := by
  refine ⟨r, h, fun F H ds vs u Q fl rd eg c => ?_⟩
  unfold gOne at eg
  split at eg
  · obtain ⟨x, rfl, r1⟩ := rr1 rd
    exact k F H _ x u Q fl r1 eg c
  · cases eg
def lenD : D → Option Val
  | .str z => if z.length ≤ sizeLine then some (.fz (.int z.length)) else none
  | .lst xs => some (.fz (.int xs.length))
  | .tup xs => some (.fz (.int xs.length))
  | _ => none
theorem l_len (hK : X.K = G.K) : LiftC X G (.builtin "len") (gOne lenD) := lift_one call_len fun F H d x u Q fl rd eg k => by
  rw [hK]
  cases d with
  | str z =>
    simp only [lenD] at eg
    split at eg
    · rename_i h; cases eg; cases rr_str rd; exact ⟨_, z.length, rfl, ⟨h, rfl⟩, k F H _ .refl vp_int vnew_fz⟩
    · cases eg
  | lst xs =>
    cases eg
    obtain ⟨a, vs, rfl, q, rs⟩ := rr_lst rd
    exact ⟨_, vs.length, rfl, .inl ⟨vs, .of q, rfl⟩, by rw [← rs.len]; exact k F H _ .refl vp_int vnew_fz⟩
  | tup xs =>
    cases eg
    obtain ⟨a, vs, rfl, q, rs⟩ := rr_tup rd
    exact ⟨_, vs.length, rfl, .inr ⟨vs, .of q, rfl⟩, by rw [← rs.len]; exact k F H _ .refl vp_int vnew_fz⟩
  | _ => cases eg
/-- a list of bools -/
def bools : List D → Option (List Bool)
  | [] => some []
  | d :: ds => match d with
    | .bl b => (bools ds).map (b :: ·)
    | _ => none
theorem bools_ok : ∀ {ds : List D} {bs : List Bool} {vs : List V}, bools ds = some bs → Reps G F H ds vs → vs = bs.map V.bl
  | [], bs, vs, e, r => by cases e; unfold Reps at r; exact r
  | d :: ds, bs, vs, e, r => by
    obtain ⟨v, ws, rfl, r1, rs⟩ := r.of_cons
    unfold bools at e
    split at e
    · cases z : bools ds with
      | none => rw [z] at e; cases e
      | some cs => rw [z] at e; cases e; rw [rs_bl r1, bools_ok z rs]; rfl
    · cases e
def allD : D → Option Val
  | .lst xs => (bools xs).map fun bs => .fz (.bl (bs.all id))
  | _ => none
def anyD : D → Option Val
  | .lst xs => (bools xs).map fun bs => .fz (.bl (bs.any id))
  | _ => none
theorem l_all (hK : X.K = G.K) (hc : X.calm = true) : LiftC X G (.builtin "all") (gOne allD) := lift_one (cr_all hc) fun F H d x u Q fl rd eg k => by
  rw [hK]
  unfold allD at eg
  split at eg
  · obtain ⟨a, vs, rfl, q, rs⟩ := rr_lst rd
    rename_i xs
    cases z : bools xs with
    | none => rw [z] at eg; cases eg
    | some bs =>
      rw [z] at eg; cases eg
      have := bools_ok z rs
      subst this
      exact ⟨a, bs, rfl, .of q, k F H _ .refl vp_bl vnew_fz⟩
  · cases eg
theorem l_any (hK : X.K = G.K) (hc : X.calm = true) : LiftC X G (.builtin "any") (gOne anyD) := lift_one (cr_any hc) fun F H d x u Q fl rd eg k => by
  rw [hK]
  unfold anyD at eg
  split at eg
  · obtain ⟨a, vs, rfl, q, rs⟩ := rr_lst rd
    rename_i xs
    cases z : bools xs with
    | none => rw [z] at eg; cases eg
    | some bs =>
      rw [z] at eg; cases eg
      have := bools_ok z rs
      subst this
      exact ⟨a, bs, rfl, .of q, k F H _ .refl vp_bl vnew_fz⟩
  · cases eg
def intD : D → Option Val
  | .int i => some (.fz (.int i))
  | .bl b => some (.fz (.int (if b then 1 else 0)))
  | .str z => if z.length ≤ 640 then (PySem.intText? z).map fun n => .fz (.int n) else none
  | _ => none
theorem l_int : LiftC X G (.type "int") (gOne intD) := lift_one (callr_or call_int1 call_int_str) fun F H d x u Q fl rd eg k => by
  cases d with
  | int i => cases eg; cases rr_int rd; exact .inl (.inl ⟨i, rfl, k F H _ .refl vp_int vnew_fz⟩)
  | bl b => cases eg; cases rr_bl rd; exact .inl (.inr ⟨b, rfl, k F H _ .refl vp_int vnew_fz⟩)
  | str z =>
    simp only [intD] at eg
    split at eg
    · rename_i h
      cases rr_str rd
      cases hz : PySem.intText? z with
      | none => rw [hz] at eg; cases eg
      | some n => rw [hz] at eg; cases eg; exact .inr ⟨z, n, rfl, hz, h, k F H _ .refl vp_int vnew_fz⟩
    · cases eg
  | _ => cases eg
def absD : D → Option Val
  | .int i => some (.fz (.int (if i < 0 then -i else i)))
  | _ => none
theorem l_abs : LiftC X G (.builtin "abs") (gOne absD) := lift_one call_abs fun F H d x u Q fl rd eg k => by
  cases d with
  | int i => cases eg; cases rr_int rd; exact ⟨i, rfl, k F H _ .refl vp_int vnew_fz⟩
  | _ => cases eg
def strD : D → Option Val
  | .int i => if i.natAbs.log2 < 1920 then some (.fz (.str (toString i))) else none
  | .str z => some (.fz (.str z))
  | _ => none
theorem l_str : LiftC X G (.type "str") (gOne strD) := lift_one (callr_or call_str_int SkE.call_str_str) fun F H d x u Q fl rd eg k => by
  cases d with
  | int i =>
    simp only [strD] at eg
    split at eg
    · rename_i h; cases eg; cases rr_int rd; exact .inl ⟨i, rfl, h, k F H _ .refl vp_str vnew_fz⟩
    · cases eg
  | str z => cases eg; cases rr_str rd; exact .inr ⟨z, rfl, k F H _ .refl vp_str vnew_fz⟩
  | _ => cases eg
def tupD : D → Option Val
  | .lst xs => some (.fz (.tup xs))
  | .tup xs => some (.fz (.tup xs))
  | _ => none
theorem l_tuple (hK : X.K = G.K) : LiftC X G (.type "tuple") (gOne tupD) := lift_one call_tuple_of fun F H d x u Q fl rd eg k => by
  rw [hK]
  cases d with
  | lst xs => cases eg; obtain ⟨a, vs, rfl, q, rs⟩ := rr_lst rd; exact ⟨a, vs, rfl, .inl ⟨.of q, fun p hp => mk_tup rs hp k⟩⟩
  | tup xs => cases eg; obtain ⟨a, vs, rfl, q, rs⟩ := rr_tup rd; exact ⟨a, vs, rfl, .inr ⟨.of q, k F H _ .refl (rp_tup q rs) vnew_fz⟩⟩
  | _ => cases eg
def lstD : D → Option Val
  | .lst xs => some (.own (.lst xs))
  | .tup xs => some (.own (.lst xs))
  | _ => none
theorem l_list (hK : X.K = G.K) : LiftC X G (.type "list") (gOne lstD) := lift_one call_list_of fun F H d x u Q fl rd eg k => by
  rw [hK]
  cases d with
  | lst xs => cases eg; obtain ⟨a, vs, rfl, q, rs⟩ := rr_lst rd; exact ⟨a, vs, rfl, .inl (.of q), fun p hp => mk_lst fl rs hp k⟩
  | tup xs => cases eg; obtain ⟨a, vs, rfl, q, rs⟩ := rr_tup rd; exact ⟨a, vs, rfl, .inr (.of q), fun p hp => mk_lst fl rs hp k⟩
  | _ => cases eg
/-! ### dicts -/
def keyOf : D → Option Key
  | .int i => some (.inl i)
  | .str z => some (.inr z)
  | _ => none
theorem keyOf_ok {d : D} {k : Key} {x : V} (h : keyOf d = some k) (r : RRep G F H d x) : x = kV k := by
  cases d with
  | int i => cases h; exact rr_int r
  | str z => cases h; exact rr_str r
  | _ => cases h
def putKs (ks : List Key) (k : Key) : List Key := if ks.any (fun j => decide (j = k)) = true then ks else ks ++ [k]
def putVs {α : Type} (ks : List Key) (vs : List α) (k : Key) (x : α) : List α := if ks.any (fun j => decide (j = k)) = true then List.zipWith (fun j v => if j = k then x else v) ks vs else vs ++ [x]
def getV {α : Type} : List Key → List α → Key → Option α
  | j :: ks, v :: vs, k => if j = k then some v else getV ks vs k
  | _, _, _ => none
theorem any_zip : ∀ {ks : List Key} {vs : List V} {k : Key}, ks.length = vs.length → ((ks.zip vs).any fun kv => decide (kv.1 = k)) = ks.any fun j => decide (j = k)
  | [], [], k, h => rfl
  | j :: ks, v :: vs, k, h => by
    rw [List.zip_cons_cons, List.any_cons, List.any_cons, any_zip (by simpa using h)]
theorem putK_zip {ks : List Key} {vs : List V} {k : Key} {x : V} (h : ks.length = vs.length) : putK (ks.zip vs) k x = (putKs ks k).zip (putVs ks vs k x) ∧ (putKs ks k).length = (putVs ks vs k x).length := by
  unfold putK putKs putVs
  rw [any_zip h]
  split
  · refine ⟨?_, by rw [List.length_zipWith]; omega⟩
    rename_i z; clear z
    induction ks generalizing vs with
    | nil => cases vs <;> rfl
    | cons j ks ih =>
      cases vs with
      | nil => simp at h
      | cons v vs =>
        rw [List.zip_cons_cons, List.map_cons, List.zipWith_cons_cons, List.zip_cons_cons, ih (by simpa using h)]
        congr 1
        by_cases e : j = k
        · simp [e]
        · simp [e]
  · refine ⟨?_, by simp [h]⟩
    rw [List.zip_append h]
    rfl
theorem Reps.putVs {ks : List Key} {ds : List D} {vs : List V} {k : Key} {d : D} {x : V} (r : Reps G F H ds vs) (rd : Rep G F H d x) : Reps G F H (MP.putVs ks ds k d) (MP.putVs ks vs k x) := by
  unfold MP.putVs
  split
  · rename_i z; clear z
    induction ks generalizing ds vs with
    | nil => simp; exact Reps.nil
    | cons j ks ih =>
      cases ds with
      | nil => unfold Reps at r; subst r; simp; exact Reps.nil
      | cons c ds =>
        obtain ⟨v, ws, rfl, r1, rs⟩ := r.of_cons
        rw [List.zipWith_cons_cons, List.zipWith_cons_cons]
        refine Reps.cons ?_ (ih rs)
        by_cases e : j = k
        · rw [if_pos e, if_pos e]; exact rd
        · rw [if_neg e, if_neg e]; exact r1
  · exact r.append (Reps.cons rd Reps.nil)
theorem getV_ok : ∀ {ks : List Key} {ds : List D} {vs : List V} {k : Key} {d : D}, Reps G F H ds vs → ks.length = vs.length → getV ks ds k = some d → ∃ v, valV (ks.zip vs) k = some v ∧ Rep G F H d v
  | [], ds, vs, k, d, r, h, e => by unfold getV at e; cases ds <;> cases e
  | j :: ks, [], vs, k, d, r, h, e => by unfold getV at e; cases e
  | j :: ks, c :: ds, vs, k, d, r, h, e => by
    obtain ⟨v, ws, rfl, r1, rs⟩ := r.of_cons
    unfold getV at e
    by_cases z : j = k
    · rw [if_pos z] at e; cases e
      exact ⟨v, by rw [List.zip_cons_cons]; exact valV_pos z, r1⟩
    · rw [if_neg z] at e
      obtain ⟨w, h1, h2⟩ := getV_ok rs (by simpa using h) e
      refine ⟨w, ?_, h2⟩
      rw [List.zip_cons_cons]
      unfold valV at h1 ⊢
      rw [List.find?_cons]
      simp only [z, decide_false]
      exact h1
def gDget (d e : D) : Option Val := match d with
  | .dic ks ds => match keyOf e with
    | some k => (getV ks ds k).map .fz
    | none => none
  | _ => none
theorem s_dget {B : Bx} {W : WX} {o i : Expr} {fo fi : Fm → Out Opn} {pos : Pos} (hu : X.A.units + 1 < cLine) (ho : SE X G B W o fo) (hi : SE X G B W i fi) (hs : NoSl i := by intro _ _; rfl) : SE X G B W (.Subscript o i pos) (sBin gDget fo fi) :=
  PE.of (pe_dget hu ho hi hs) fun σ H Q h => bin_ok h fun F1 H1 d e x y u fl rd re eg k => by
    unfold gDget at eg
    split at eg
    · split at eg
      · rename_i ks ds _ kk hk
        cases hg : getV ks ds kk with
        | none => rw [hg] at eg; cases eg
        | some c =>
          rw [hg] at eg
          cases eg
          obtain ⟨a, vs, rfl, q, hl, rs⟩ := rd
          obtain ⟨v, h1, h2⟩ := getV_ok rs hl hg
          exact ⟨a, v, rfl, .inl ⟨_, kk, .inl q, keyOf_ok hk re, h1.symm⟩, k F1 H1 _ .refl h2 vnew_fz⟩
      · cases eg
    · cases eg
/-- dict(pairs) -/
def pairOf : D → Option (Key × D)
  | .tup xs => match xs with
    | [a, b] => (keyOf a).map fun k => (k, b)
    | _ => none
  | _ => none
def pairsOf : List D → Option (List (Key × D))
  | [] => some []
  | d :: ds => match pairOf d, pairsOf ds with
    | some p, some ps => some (p :: ps)
    | _, _ => none
def mergeD : List (Key × D) → List Key → List D → List Key × List D
  | [], ks, ds => (ks, ds)
  | (k, d) :: r, ks, ds => mergeD r (putKs ks k) (putVs ks ds k d)
theorem mergeD_ok : ∀ {ps : List (Key × D)} {kvs : List (Key × V)} {ks : List Key} {ds : List D} {vs : List V}, ps.map (·.1) = kvs.map (·.1) → Reps G F H (ps.map (·.2)) (kvs.map (·.2)) → Reps G F H ds vs → ks.length = vs.length →
    ∃ ws, mergeK (ks.zip vs) kvs = (mergeD ps ks ds).1.zip ws ∧ (mergeD ps ks ds).1.length = ws.length ∧ Reps G F H (mergeD ps ks ds).2 ws
  | [], kvs, ks, ds, vs, h1, h2, r, h => by
    cases kvs with
    | nil => exact ⟨vs, rfl, h, r⟩
    | cons _ _ => simp at h1
  | (k, d) :: ps, kvs, ks, ds, vs, h1, h2, r, h => by
    cases kvs with
    | nil => simp at h1
    | cons q kvs =>
      obtain ⟨k', x⟩ := q
      simp only [List.map_cons, List.cons.injEq] at h1 h2
      obtain ⟨rfl, h1⟩ := h1
      obtain ⟨v, ws, e, r1, rs⟩ := h2.of_cons
      cases e
      obtain ⟨e1, e2⟩ := putK_zip (k := k) (x := x) h
      obtain ⟨ws, q1, q2, q3⟩ := mergeD_ok (ps := ps) (kvs := kvs) (ks := putKs ks k) (ds := MP.putVs ks ds k d) (vs := MP.putVs ks vs k x) h1 rs (r.putVs r1) e2
      refine ⟨ws, ?_, q2, q3⟩
      show mergeK (putK (ks.zip vs) k x) kvs = (mergeD ps (putKs ks k) (MP.putVs ks ds k d)).1.zip ws
      rw [← q1, ← e1]
theorem pairs_ok : ∀ {ds : List D} {ps : List (Key × D)} {vs : List V}, pairsOf ds = some ps → Reps G F H ds vs → ∃ (as : List Addr) (kvs : List (Key × V)), vs = as.map V.ref ∧ Paired (fun p kv => SqT G.K H p [kV kv.1, kv.2]) as kvs ∧ ps.map (·.1) = kvs.map (·.1) ∧ Reps G F H (ps.map (·.2)) (kvs.map (·.2))
  | [], ps, vs, e, r => by
    cases e
    unfold Reps at r
    subst r
    exact ⟨[], [], rfl, .nil, rfl, Reps.nil⟩
  | d :: ds, ps, vs, e, r => by
    obtain ⟨v, ws, rfl, r1, rs⟩ := r.of_cons
    unfold pairsOf at e
    cases z1 : pairOf d with
    | none => simp [z1] at e
    | some p =>
      cases z2 : pairsOf ds with
      | none => simp [z1, z2] at e
      | some qs =>
        simp only [z1, z2] at e
        cases e
        obtain ⟨as, kvs, h1, h2, h3, h4⟩ := pairs_ok z2 rs
        unfold pairOf at z1
        split at z1
        · split at z1
          · rename_i a b
            cases hk : keyOf a with
            | none => rw [hk] at z1; cases z1
            | some k =>
              rw [hk] at z1
              cases z1
              unfold Rep at r1
              obtain ⟨q, us, rfl, hq, rq⟩ := r1
              obtain ⟨x, us1, rfl, rx, rq⟩ := rq.of_cons
              obtain ⟨y, us2, rfl, ry, rq⟩ := rq.of_cons
              unfold Reps at rq
              subst rq
              have ex := keyOf_ok hk rx.rrep
              exact ⟨q :: as, (k, y) :: kvs, by rw [h1]; rfl, .cons (.of (by rw [hq, ex])) h2, by simp [h3], by simp only [List.map_cons]; exact Reps.cons ry h4⟩
          · cases z1
        · cases z1
def dictD : D → Option Val
  | .lst xs => (pairsOf xs).map fun ps => .own (.dic (mergeD ps [] []).1 (mergeD ps [] []).2)
  | _ => none
theorem l_dict (hK : X.K = G.K) (hc : X.calm = true) : LiftC X G (.type "dict") (gOne dictD) := lift_one (call_dictP hc) fun F H d x u Q fl rd eg k => by
  rw [hK]
  cases d with
  | lst xs =>
    cases z : pairsOf xs with
    | none => simp [dictD, z] at eg
    | some ps =>
      simp only [dictD, z, Option.map_some, Option.some.injEq] at eg
      subst eg
      obtain ⟨a, vs, rfl, q, rs⟩ := rr_lst rd
      obtain ⟨as, kvs, rfl, h2, h3, h4⟩ := pairs_ok z rs
      obtain ⟨ws, q1, q2, q3⟩ := mergeD_ok (ks := []) (ds := []) (vs := []) h3 h4 Reps.nil rfl
      refine ⟨a, as, kvs, rfl, .of q, h2, fun p hp => ?_⟩
      refine k F _ _ (step_new hp) ⟨p, rfl, ⟨ws, ?_, q2, q3.new hp⟩, fun f => fl p f hp⟩ (vnew_own hp)
      rw [upd_same]
      exact congrArg (fun z => some (HO.dK z)) q1
  | _ => cases eg
/-! ### isinstance -/
/-- what is known of the own classes -/
structure Clk (G : Gx) (cs : List Nat) : Prop where
  ins : ∀ c ∈ cs, C8.InsC G.K (G.cl c)
  cls : ∀ c ∈ cs, ((PySem.W.clsIn G.K (G.cl c)).isSome && PySem.W.typeIn G.K (.ref (G.cl c)) == some (.type "type")) = true
  two : ∀ c ∈ cs, ∀ d ∈ cs, c ≠ d → PySem.W.kitOne G.K (.ref (G.cl c)) (.ref (G.cl d)) = some false
  blt : ∀ c ∈ cs, ∀ n ∈ (["int", "bool", "str", "tuple", "list", "dict"] : List String), PySem.W.kitOne G.K (.ref (G.cl c)) (.type n) = some false
def tyN : D → Option String
  | .non => some "NoneType"
  | .bl _ => some "bool"
  | .int _ => some "int"
  | .str _ => some "str"
  | .tup _ => some "tuple"
  | .lst _ => some "list"
  | .dic _ _ => some "dict"
  | _ => none
def isBN (n : String) : Bool := (["int", "bool", "str", "tuple", "list", "dict"] : List String).contains n
def isOne (cs : List Nat) (d c : D) : Option Bool := match c with
  | .ty n => if isBN n = true then (match d with
    | .ins c _ _ => if c ∈ cs then some false else none
    | d => (tyN d).map fun t => t == n || (t == "bool" && n == "int")) else none
  | .cls c => if c ∈ cs then (match d with
    | .ins c' _ _ => if c' ∈ cs then some (c' == c) else none
    | d => (tyN d).map fun _ => false) else none
  | _ => none
theorem kit_bb (K : PySem.W.Frag) {t n : String} (ht : (["NoneType", "int", "bool", "str", "tuple", "list", "dict"] : List String).contains t = true) (hn : isBN n = true) : PySem.W.kitOne K (.type t) (.type n) = some (t == n || (t == "bool" && n == "int")) := by
  unfold isBN at hn
  simp only [List.contains_cons, List.contains_nil, Bool.or_false, Bool.or_eq_true, beq_iff_eq] at ht hn
  rcases ht with rfl | rfl | rfl | rfl | rfl | rfl | rfl <;> rcases hn with rfl | rfl | rfl | rfl | rfl | rfl <;> rfl
theorem kit_bc {cs : List Nat} (ck : Clk G cs) {t : String} {c : Nat} (hc : c ∈ cs) (ht : (["NoneType", "int", "bool", "str", "tuple", "list", "dict"] : List String).contains t = true) : PySem.W.kitOne G.K (.type t) (.ref (G.cl c)) = some false := by
  have := ck.cls c hc
  unfold PySem.W.kitOne PySem.W.kitCls
  simp only [this]
  simp only [List.contains_cons, List.contains_nil, Bool.or_false, Bool.or_eq_true, beq_iff_eq] at ht
  rcases ht with rfl | rfl | rfl | rfl | rfl | rfl | rfl <;> rfl
theorem tyN_ok {d : D} {t : String} {x : V} (h : tyN d = some t) (r : RRep G F H d x) : TyX G.K H x (.type t) ∧ (["NoneType", "int", "bool", "str", "tuple", "list", "dict"] : List String).contains t = true := by
  cases d with
  | non => cases h; cases rr_non r; exact ⟨.base .non, rfl⟩
  | bl b => cases h; cases rr_bl r; exact ⟨.base (.bl b), rfl⟩
  | int b => cases h; cases rr_int r; exact ⟨.base (.int b), rfl⟩
  | str b => cases h; cases rr_str r; exact ⟨.base (.str b), rfl⟩
  | tup xs => cases h; obtain ⟨a, vs, rfl, q, _⟩ := rr_tup r; exact ⟨.base (.tup q), rfl⟩
  | lst xs => cases h; obtain ⟨a, vs, rfl, q, _⟩ := rr_lst r; exact ⟨.base (.lst q), rfl⟩
  | dic ks xs => cases h; obtain ⟨a, vs, rfl, q, _⟩ := r; exact ⟨.base (.dK q), rfl⟩
  | _ => cases h
def tyW (G : Gx) : D → Option Value
  | .ins c _ _ => some (.ref (G.cl c))
  | d => (tyN d).map .type
theorem tyW_of {d : D} {t : String} (h : tyN d = some t) : tyW G d = some (.type t) := by
  cases d <;> first | (cases h; done) | (cases h; rfl)
theorem isOne_ok {cs : List Nat} (ck : Clk G cs) {d c : D} {b : Bool} {x y : V} (h : isOne cs d c = some b) (rd : RRep G F H d x) (rc : RRep G F H c y) : ∃ t u, tyW G d = some t ∧ ClsV y u ∧ TyX G.K H x t ∧ PySem.W.kitOne G.K t u = some b := by
  unfold isOne at h
  split at h
  · rename_i n
    split at h
    · rename_i hn
      cases rr_ty rc
      split at h
      · split at h
        · rename_i hc
          cases h
          obtain ⟨a, dx, vs, rfl, q, _⟩ := rd
          have ic := ck.ins _ hc
          unfold isBN at hn
          exact ⟨_, _, rfl, .ty n, .base (.ins q ic.cl ic.ha ic.hn ic.htk ic.hm), ck.blt _ hc n (by simpa using hn)⟩
        · cases h
      · cases z : tyN d with
        | none => rw [z] at h; cases h
        | some t =>
          rw [z] at h
          cases h
          obtain ⟨h1, h2⟩ := tyN_ok z rd
          exact ⟨_, _, tyW_of z, .ty n, h1, kit_bb G.K h2 hn⟩
    · cases h
  · rename_i c
    split at h
    · rename_i hc
      cases rr_cls rc
      split at h
      · split at h
        · rename_i c' _ _ hc'
          cases h
          obtain ⟨a, dx, vs, rfl, q, _⟩ := rd
          have ic := ck.ins _ hc'
          refine ⟨_, _, rfl, .own _, .base (.ins q ic.cl ic.ha ic.hn ic.htk ic.hm), ?_⟩
          by_cases e : c' = c
          · subst e; rw [beq_self_eq_true]; exact ic.me
          · rw [beq_false_of_ne e]; exact ck.two _ hc' _ hc e
        · cases h
      · cases z : tyN d with
        | none => rw [z] at h; cases h
        | some t =>
          rw [z] at h
          cases h
          obtain ⟨h1, h2⟩ := tyN_ok z rd
          exact ⟨_, _, tyW_of z, .own _, h1, kit_bc ck hc h2⟩
    · cases h
  · cases h
def isAny (cs : List Nat) (d : D) : List D → Option Bool
  | [] => some false
  | c :: r => match isOne cs d c with
    | some true => some true
    | some false => isAny cs d r
    | none => none
def isiD (cs : List Nat) : List D → Option Val
  | [d, c] => match c with
    | .tup us => if us.isEmpty then none else (isAny cs d us).map fun b => .fz (.bl b)
    | c => (isOne cs d c).map fun b => .fz (.bl b)
  | _ => none
end
end MP
set_option Elab.async false
set_option linter.all false
set_option maxRecDepth 100000
set_option maxHeartbeats 400000
/-! MPC: isinstance, methods, stores, f-texts, zip. -/
namespace MP
open PySem PySem.Spec L2
section
variable {X : Cx} {G : Gx} {F F' : Addr → Prop} {H H' : Hp}
/-- the classes of a tuple, as values -/
def clsW (G : Gx) : D → Option Value
  | .ty n => some (.type n)
  | .cls c => some (.ref (G.cl c))
  | _ => none
def clsWs (G : Gx) : List D → Option (List Value)
  | [] => some []
  | d :: ds => match clsW G d, clsWs G ds with
    | some p, some ps => some (p :: ps)
    | _, _ => none
def isCls : D → Bool
  | .ty _ => true
  | .cls _ => true
  | _ => false
theorem clsW_ok {c : D} {y : V} (h : isCls c = true) (r : Rep G F H c y) : ∃ u, ClsV y u ∧ clsW G c = some u := by
  cases c with
  | ty n => unfold Rep at r; subst r; exact ⟨_, .ty n, rfl⟩
  | cls n => unfold Rep at r; subst r; exact ⟨_, .own _, rfl⟩
  | _ => cases h
theorem clsWs_ok : ∀ {us : List D} {vs : List V}, us.all isCls = true → Reps G F H us vs → ∃ ws, Paired ClsV vs ws ∧ clsWs G us = some ws
  | [], vs, h, r => by unfold Reps at r; subst r; exact ⟨[], .nil, rfl⟩
  | u :: us, vs, h, r => by
    obtain ⟨v, ws, rfl, r1, rs⟩ := r.of_cons
    rw [List.all_cons, Bool.and_eq_true] at h
    obtain ⟨a, h1, h2⟩ := clsW_ok h.1 r1
    obtain ⟨as, h3, h4⟩ := clsWs_ok h.2 rs
    exact ⟨a :: as, .cons h1 h3, by unfold clsWs; rw [h2, h4]⟩
theorem ClsV.uniq {y : V} {u w : Value} (a : ClsV y u) (b : ClsV y w) : u = w := by
  cases a <;> cases b <;> rfl
theorem kitAny_ok {cs : List Nat} (ck : Clk G cs) {d : D} {x : V} {t : Value} (rd : RRep G F H d x) (ht : tyW G d = some t) : ∀ {us : List D} {vs : List V} {ws : List Value} {b : Bool}, isAny cs d us = some b → Reps G F H us vs → Paired ClsV vs ws → PySem.W.kitAny G.K t ws = some b
  | [], vs, ws, b, h, r, p => by
    unfold Reps at r
    subst r
    cases p
    cases h
    rfl
  | c :: us, vs, ws, b, h, r, p => by
    obtain ⟨v, vs', rfl, r1, rs⟩ := r.of_cons
    cases p with
    | cons p1 ps =>
      unfold isAny at h
      cases z : isOne cs d c with
      | none => rw [z] at h; cases h
      | some k =>
        obtain ⟨t', u', q1, q2, q3, q4⟩ := isOne_ok ck z rd r1.rrep
        rw [ht] at q1
        cases q1
        have := ClsV.uniq q2 p1
        subst this
        unfold PySem.W.kitAny
        rw [q4]
        rw [z] at h
        cases k with
        | true => cases h; rfl
        | false => exact kitAny_ok ck rd ht h rs ps
theorem isAny_ty {cs : List Nat} (ck : Clk G cs) {d c : D} {us : List D} {x : V} {b : Bool} {v : V} (h : isAny cs d (c :: us) = some b) (rd : RRep G F H d x) (rc : RRep G F H c v) : ∃ t, tyW G d = some t ∧ TyX G.K H x t := by
  unfold isAny at h
  cases z : isOne cs d c with
  | none => rw [z] at h; cases h
  | some k =>
    obtain ⟨t', u', q1, q2, q3, q4⟩ := isOne_ok ck z rd rc
    exact ⟨t', q1, q3⟩
def isiG (cs : List Nat) (d c : D) : Option Val := match c with
  | .tup us => if us.all isCls = true ∧ us ≠ [] then (isAny cs d us).map fun b => .fz (.bl b) else none
  | c => (isOne cs d c).map fun b => .fz (.bl b)
def gTwo (g : D → D → Option Val) : List D → Option Val
  | [d, e] => g d e
  | _ => none
theorem lift_two {f : Value} {g : D → D → Option Val} {r : List V → Hp → VK → Prop} (h : CallR X f r)
    (k : ∀ (F : Addr → Prop) (H : Hp) (d e : D) (x y : V) (u : Val) (Q : VK), (∀ a, F a → H a ≠ none) → RRep G F H d x → RRep G F H e y → g d e = some u → (∀ F' H' w, Step F H (fun _ => False) F' H' → VOk G F' H' u w → VNew H u w → Q w H') → r [x, y] H Q) : LiftC X G f (gTwo g) := by
  refine ⟨r, h, fun F H ds vs u Q fl rd eg c => ?_⟩
  unfold gTwo at eg
  split at eg
  · obtain ⟨x, y, rfl, r1, r2⟩ := rr2 rd
    exact k F H _ _ x y u Q fl r1 r2 eg c
  · cases eg
theorem l_isi {cs : List Nat} (hK : X.K = G.K) (ck : Clk G cs) : LiftC X G (.builtin "isinstance") (gTwo (isiG cs)) := lift_two (callr_or call_isi call_isiT) fun F H d c x y u Q fl rd rc eg k => by
  rw [hK]
  have one : ∀ b, isOne cs d c = some b → Q (.bl b) H → rIsi G.K [x, y] H Q := fun b h q => by
    obtain ⟨t, u, h0, h1, h2, h3⟩ := isOne_ok ck h rd rc
    exact ⟨x, y, t, u, b, rfl, h1, h2, h3, q⟩
  unfold isiG at eg
  split at eg
  · rename_i us
    split at eg
    · rename_i hus
      cases z : isAny cs d us with
      | none => rw [z] at eg; cases eg
      | some b =>
        rw [z] at eg
        cases eg
        obtain ⟨tp, vs, rfl, q, rs⟩ := rr_tup rc
        obtain ⟨ws, h1, _⟩ := clsWs_ok hus.1 rs
        cases us with
        | nil => exact absurd rfl hus.2
        | cons c us =>
          obtain ⟨v, vs', rfl, r1, _⟩ := id rs.of_cons
          obtain ⟨t, ht, hx⟩ := isAny_ty ck z rd r1.rrep
          exact .inr ⟨x, tp, _, t, ws, b, rfl, q, h1, hx, kitAny_ok ck rd ht z rs h1, k F H _ .refl vp_bl vnew_fz⟩
    · cases eg
  · cases z : isOne cs d c with
    | none => rw [z] at eg; cases eg
    | some b => rw [z] at eg; cases eg; exact .inl (one b z (k F H _ .refl vp_bl vnew_fz))
/-! ### min, max of two; minus -/
def maxG : D → D → Option Val
  | .int i, .int j => some (.fz (.int (if j > i then j else i)))
  | _, _ => none
def minG : D → D → Option Val
  | .int i, .int j => some (.fz (.int (if j < i then j else i)))
  | _, _ => none
theorem l_max2 (hc : X.calm = true) : LiftC X G (.builtin "max") (gTwo maxG) := lift_two (call_max2 hc) fun F H d c x y u Q fl rd rc eg k => by
  unfold maxG at eg
  split at eg
  · cases eg; cases rr_int rd; cases rr_int rc; exact ⟨_, _, rfl, k F H _ .refl vp_int vnew_fz⟩
  · cases eg
theorem l_min2 (hc : X.calm = true) : LiftC X G (.builtin "min") (gTwo minG) := lift_two (call_min2 hc) fun F H d c x y u Q fl rd rc eg k => by
  unfold minG at eg
  split at eg
  · cases eg; cases rr_int rd; cases rr_int rc; exact ⟨_, _, rfl, k F H _ .refl vp_int vnew_fz⟩
  · cases eg
def negD : D → Option Val
  | .int i => some (.fz (.int (-i)))
  | _ => none
theorem l_neg : Lift1 X G (unaryOp .USub) negD := ⟨_, un_neg, fun F H d x u Q fl rd eg k => by
  unfold negD at eg
  split at eg
  · cases eg; cases rr_int rd; exact ⟨_, rfl, k F H _ .refl vp_int vnew_fz⟩
  · cases eg⟩
/-! ### methods that read -/
def strsOf : List D → Option (List Str)
  | [] => some []
  | d :: ds => match d with
    | .str z => (strsOf ds).map (z :: ·)
    | _ => none
theorem strsOf_ok : ∀ {ds : List D} {ys : List Str} {vs : List V}, strsOf ds = some ys → Reps G F H ds vs → vs = ys.map V.str
  | [], bs, vs, e, r => by cases e; unfold Reps at r; exact r
  | d :: ds, bs, vs, e, r => by
    obtain ⟨v, ws, rfl, r1, rs⟩ := r.of_cons
    unfold strsOf at e
    split at e
    · cases z : strsOf ds with
      | none => rw [z] at e; cases e
      | some cs => rw [z] at e; cases e; rw [rs_str r1, strsOf_ok z rs]; rfl
    · cases e
theorem reps_strs : ∀ {ys : List Str}, Reps G F H (ys.map D.str) (ys.map V.str)
  | [] => Reps.nil
  | x :: xs => Reps.cons rp_str reps_strs
def joinG : D → List D → Option Val
  | .str a, [d] => match (seqOf d).bind strsOf with
    | some ys => if (ys.map (·.length)).sum + ys.length * a.length ≤ 16777216 then some (.fz (.str (Txt.join a ys))) else none
    | none => none
  | _, _ => none
theorem l_join (hK : X.K = G.K) : LiftM X G "str.join" joinG := by
  refine ⟨_, mt_join, fun F H d x ds vs u Q fl rd rs eg k => ?_⟩
  rw [hK]
  unfold joinG at eg
  split at eg
  · rename_i a e
    obtain ⟨y, rfl, ry⟩ := rr1 rs
    cases z : seqOf e with
    | none => rw [z] at eg; cases eg
    | some es =>
      cases z2 : strsOf es with
      | none => simp only [z, Option.bind_some, z2] at eg; cases eg
      | some ys =>
        simp only [z, Option.bind_some, z2] at eg
        split at eg
        · rename_i hz
          cases eg
          have fin : ∀ (p : Addr) (ws : List V), y = .ref p → (SqL G.K H p ws ∨ SqT G.K H p ws) → Reps G F H es ws → ∃ a p, ∃ ys : List Str, x = .str a ∧ [y] = [.ref p] ∧ (SqL G.K H p (ys.map V.str) ∨ SqT G.K H p (ys.map V.str)) ∧ (ys.map (·.length)).sum + ys.length * a.length ≤ 16777216 ∧ Q (.str (Txt.join a ys)) H := fun p ws e1 hs r => by
            have := strsOf_ok z2 r
            subst this
            exact ⟨a, p, ys, rr_str rd, by rw [e1], hs, hz, k F H _ .refl vp_str vnew_fz⟩
          cases e with
          | lst xs => cases z; obtain ⟨p, ws, e1, q, r⟩ := rr_lst ry; exact fin p ws e1 (.inl (.of q)) r
          | tup xs => cases z; obtain ⟨p, ws, e1, q, r⟩ := rr_tup ry; exact fin p ws e1 (.inr (.of q)) r
          | _ => cases z
        · cases eg
  · cases eg
def splitG : D → List D → Option Val
  | .str a, [d] => match d with
    | .str b => if b.length ≠ 0 ∧ a.length + 2 ≤ sizeLine then some (.own (.lst ((Txt.split a b).map D.str))) else none
    | _ => none
  | _, _ => none
theorem l_split : LiftM X G "str.split" splitG := by
  refine ⟨_, mt_split, fun F H d x ds vs u Q fl rd rs eg k => ?_⟩
  unfold splitG at eg
  split at eg
  · obtain ⟨y, rfl, ry⟩ := rr1 rs
    split at eg
    · split at eg
      · rename_i hz
        cases eg
        exact ⟨_, _, rr_str rd, by rw [rr_str ry], by simpa using hz.1, hz.2, fun p hp => mk_lst fl reps_strs hp k⟩
      · cases eg
    · cases eg
  · cases eg
/-! ### methods that write -/
theorem step_wr {a : Addr} {o u : HO} (e : H a = some u) (ow : Ownable u = true) : Step F H (fun b => b = a) F (upd H a o) :=
  ⟨⟨fun b v eb nb => by rw [upd_ne nb]; exact eb, fun b v eb on => by
      by_cases z : b = a
      · subst z; rw [e] at eb; cases eb; rw [ow] at on; cases on
      · rw [upd_ne z]; exact eb, fun _ e => e⟩, fun b eb => by
      by_cases z : b = a
      · rw [z, upd_same]; simp
      · rw [upd_ne z]; exact eb, fun b f => .inl f, fun b f => .inl f⟩
theorem Reps.wr {a : Addr} {o u : HO} {ds : List D} {vs : List V} (e : H a = some u) (ow : Ownable u = true) (nf : ¬ F a) (r : Reps G F H ds vs) : Reps G F (upd H a o) ds vs :=
  Reps.step (step_wr (F := F) (o := o) e ow).toKp (fun b f z => nf (z ▸ f)) _ _ r
theorem rw1 {d : D} {vs : List V} (r : Reps G F H [d] vs) : ∃ x, vs = [x] ∧ Rep G F H d x := by
  obtain ⟨v, ws, rfl, r1, rn⟩ := r.of_cons
  unfold Reps at rn
  subst rn
  exact ⟨v, rfl, r1⟩
def appG : O → List D → Option (Val × O)
  | .lst xs, [d] => if xs.length < sizeLine then some (.fz .non, .lst (xs ++ [d])) else none
  | _, _ => none
theorem l_append : LiftW X G "list.append" appG := by
  refine ⟨_, mt_append, fun F H a o o' ds vs u Q fl nF ro rs eg k => ?_⟩
  unfold appG at eg
  split at eg
  · split at eg
    · rename_i hz
      cases eg
      obtain ⟨ws, e, r⟩ := ro
      obtain ⟨y, rfl, ry⟩ := rw1 rs
      refine ⟨a, ws, y, rfl, rfl, e, by rw [← r.len]; exact hz, ?_⟩
      exact k F _ _ (step_wr e rfl) ⟨_, upd_same, (r.append (Reps.cons ry Reps.nil)).wr e rfl nF⟩ nF (by show Rep _ _ _ _ _; unfold Rep; rfl) vnew_fz
    · cases eg
  · cases eg
def extG : O → List D → Option (Val × O)
  | .lst xs, [d] => match d with
    | .lst ys => if xs.length + ys.length ≤ sizeLine then some (.fz .non, .lst (xs ++ ys)) else none
    | _ => none
  | _, _ => none
theorem l_extend : LiftW X G "list.extend" extG := by
  refine ⟨_, mt_extend, fun F H a o o' ds vs u Q fl nF ro rs eg k => ?_⟩
  unfold extG at eg
  split at eg
  · split at eg
    · split at eg
      · rename_i hz
        cases eg
        obtain ⟨ws, e, r⟩ := ro
        obtain ⟨y, rfl, ry⟩ := rw1 rs
        unfold Rep at ry
        obtain ⟨b, us, rfl, f, q, ru⟩ := ry
        refine ⟨a, b, ws, us, rfl, rfl, e, q, by rw [← r.len, ← ru.len]; exact hz, ?_⟩
        exact k F _ _ (step_wr e rfl) ⟨_, upd_same, (r.append ru).wr e rfl nF⟩ nF (by show Rep _ _ _ _ _; unfold Rep; rfl) vnew_fz
      · cases eg
    · cases eg
  · cases eg
theorem Reps.dropLast {ds : List D} {vs : List V} (r : Reps G F H ds vs) : Reps G F H ds.dropLast vs.dropLast := by
  rw [List.dropLast_eq_take, List.dropLast_eq_take, r.len]
  exact r.take _
def popG : O → List D → Option (Val × O)
  | .lst xs, [] => (xs[xs.length - 1]?).map fun d => (.fz d, .lst xs.dropLast)
  | _, _ => none
theorem l_pop0 : LiftW X G "list.pop" popG := by
  refine ⟨_, mt_pop, fun F H a o o' ds vs u Q fl nF ro rs eg k => ?_⟩
  unfold popG at eg
  split at eg
  · rename_i xs
    obtain ⟨ws, e, r⟩ := ro
    unfold Reps at rs
    subst rs
    cases z : xs[xs.length - 1]? with
    | none => rw [z] at eg; cases eg
    | some d =>
      rw [z] at eg
      cases eg
      obtain ⟨v, h1, h2⟩ := r.get z
      refine ⟨a, ws, v, rfl, rfl, e, by rw [← r.len]; exact h1, ?_⟩
      exact k F _ _ (step_wr e rfl) ⟨_, upd_same, r.dropLast.wr e rfl nF⟩ nF (Rep.step (step_wr (F := F) e rfl).toKp (fun b f z => nF (z ▸ f)) _ _ h2) vnew_fz
  · cases eg
/-! ### xs[i] = v -/
def setLG (o : O) (d e : D) : Option O := match o, d with
    | .lst xs, .int k => (ixN xs.length k).map fun j => .lst (xs.set j e)
    | _, _ => none
theorem l_setL : LiftSet G rSetL setLG := fun F H a o o' d e i v Q nF ro ri rv eg k => by
  unfold setLG at eg
  split at eg
  · rename_i xs j
    obtain ⟨ws, q, r⟩ := ro
    cases z : ixN xs.length j with
    | none => rw [z] at eg; cases eg
    | some n =>
      rw [z] at eg
      cases eg
      refine ⟨a, ws, j, n, rfl, rr_int ri, q, by rw [← r.len]; exact z, ?_⟩
      exact k _ (step_wr q rfl) ⟨_, upd_same, (r.set n rv).wr q rfl nF⟩
  · cases eg
def setDG (o : O) (d e : D) : Option O := match o with
    | .dic ks ds => match keyOf d with
      | some k => if ks.length < sizeLine then some (.dic (putKs ks k) (putVs ks ds k e)) else none
      | none => none
    | _ => none
theorem l_setD : LiftSet G rSetD setDG := fun F H a o o' d e i v Q nF ro ri rv eg k => by
  unfold setDG at eg
  split at eg
  · split at eg
    · split at eg
      · rename_i kk hk hz
        cases eg
        obtain ⟨ws, q, hl, r⟩ := ro
        obtain ⟨e1, e2⟩ := putK_zip (k := kk) (x := v) hl
        refine ⟨a, _, rfl, .inl ⟨_, kk, q, keyOf_ok hk ri, by rw [List.length_zip]; omega, rfl⟩, ?_⟩
        refine k _ (step_wr q rfl) ⟨_, ?_, e2, (r.putVs rv).wr q rfl nF⟩
        rw [upd_same, e1]
      · cases eg
    · cases eg
  · cases eg
end
/-! ### f'..' -/
section
variable {G : Gx} {B : Bx} {σ : St} {F F0 F1 F2 F' : Addr → Prop} {H H0 H1 H2 H' : Hp} {fr fr0 fr1 fr2 fr' : Fm} {W : WX} {X : Cx} {pos : Pos}
def fmtD : D → Option Val
  | .str y => if y.length ≤ sizeLine then some (.fz (.str y)) else none
  | .int i => if i.natAbs.log2 < 1920 then some (.fz (.str (toString i))) else none
  | _ => none
theorem s_fmt {e : Expr} {f : Fm → Out Opn} (he : SE X G B W e f) : SE X G B W (.FormattedValue e (-1) none pos) (sUn fmtD f) :=
  PE.of (pe_fmt he) fun σ H Q h => un_ok h fun F1 H1 d x u fl rd eg k => by
    unfold fmtD at eg
    split at eg
    · split at eg
      · rename_i h; cases eg; exact .inl ⟨_, rr_str rd, h, k F1 H1 _ .refl vp_str vnew_fz⟩
      · cases eg
    · split at eg
      · rename_i h; cases eg; exact .inr ⟨_, rr_int rd, h, k F1 H1 _ .refl vp_str vnew_fz⟩
      · cases eg
    · cases eg
def jL : Str → List (Fm → Out Opn) → Fm → Out Opn
  | acc, [], fr => .ok (.vl (.fz (.str acc))) fr
  | acc, f :: fs, fr => (f fr).bind fun p fr1 => match cont fr1 p with
    | some (.str y) => if (acc ++ y).length ≤ sizeLine then jL (acc ++ y) fs fr1 else .bad
    | _ => .bad
inductive SJ (X : Cx) (G : Gx) (B : Bx) (W : WX) : List Expr → List (Fm → Out Opn) → Prop where
  | nil : SJ X G B W [] []
  | cons {e : Expr} {f : Fm → Out Opn} {es : List Expr} {fs : List (Fm → Out Opn)} (h : SE X G B W e f) (r : SJ X G B W es fs) : SJ X G B W (e :: es) (f :: fs)
theorem SJ.pj {es : List Expr} {fs : List (Fm → Out Opn)} (h : SJ X G B W es fs) : PJ X es (fs.map fun f => tE G B W f) := by
  induction h with
  | nil => exact .nil
  | cons h r ih => exact .cons h ih
theorem jL_ok {fs : List (Fm → Out Opn)} {Q : VK} : ∀ {acc : Str} {F : Addr → Prop} {H : Hp} {fr : Fm}, Nx G B σ F0 H0 fr0 F H fr → Aft G B W σ F0 H0 fr0 (jL acc fs fr) (EPost G σ H0 Q) → tJs (fs.map fun f => tE G B W f) acc σ H fun out H1 => Q (.str out) H1 := by
  induction fs with
  | nil => exact fun {acc F H fr} n h => h F H n _ vp_str trivial
  | cons f fs ih =>
    intro acc F H fr n h
    refine ⟨F, fr, n.I, (h.next n).imp fun p fr1 F1 H1 _ ⟨n1, _, h1⟩ x ox nx => ?_⟩
    cases ep : cont fr1 p with
    | none => rw [ep] at h1; exact h1.elim
    | some d =>
      rw [ep] at h1
      have r := cont_ok n1.I ox ep
      cases d with
      | str y =>
        simp only at h1
        by_cases hz : (acc ++ y).length ≤ sizeLine
        · rw [if_pos hz] at h1
          exact ⟨y, rr_str r, hz, ih n1 h1⟩
        · rw [if_neg hz] at h1; exact h1.elim
      | _ => exact h1.elim
theorem s_joined {v1 v2 : Expr} {rest : List Expr} {fs : List (Fm → Out Opn)} (h : SJ X G B W (v1 :: v2 :: rest) fs) : SE X G B W (.JoinedStr (v1 :: v2 :: rest) pos) (jL Str.empty fs) :=
  PE.of (pe_joined h.pj) fun σ H Q ⟨F, fr, I, h⟩ => jL_ok (.refl I) h
/-! ### zip -/
def zipD : List D → List D → List D
  | x :: xs, y :: ys => .tup [x, y] :: zipD xs ys
  | _, _ => []
theorem zipD_get : ∀ {xs ys : List D} {i : Nat} {d : D}, (zipD xs ys)[i]? = some d → ∃ x y, xs[i]? = some x ∧ ys[i]? = some y ∧ d = .tup [x, y]
  | [], ys, i, d, h => by simp [zipD] at h
  | x :: xs, [], i, d, h => by simp [zipD] at h
  | x :: xs, y :: ys, 0, d, h => by simp [zipD] at h; exact ⟨x, y, by simp, by simp, h.symm⟩
  | x :: xs, y :: ys, i + 1, d, h => by
    obtain ⟨a, b, h1, h2, h3⟩ := zipD_get (xs := xs) (ys := ys) (i := i) (by simpa [zipD] using h)
    exact ⟨a, b, by simpa using h1, by simpa using h2, h3⟩
theorem zipD_len : ∀ {xs ys : List D}, xs.length ≤ (zipD xs ys).length ∨ ys.length ≤ (zipD xs ys).length
  | [], ys => .inl (by simp)
  | x :: xs, [] => .inr (by simp)
  | x :: xs, y :: ys => by
    rcases zipD_len (xs := xs) (ys := ys) with h | h
    · exact .inl (by simp [zipD]; exact h)
    · exact .inr (by simp [zipD]; exact h)
theorem itz_ok {a b : Addr} {vs ws : List V} {ds es : List D} (f : F a) (q : H a = some (.lst vs)) (rs : Reps G F H ds vs) (f' : F b) (q' : H b = some (.lst ws)) (rs' : Reps G F H es ws) : ItOk G F H (Itz G.K a b) (zipD ds es) := by
  intro F2 H2 i kp
  have q2 := kp.keep a _ q (fun z => z f)
  have q2' := kp.keep b _ q' (fun z => z f')
  have rs2 := Reps.step kp (fun b f z => z f) _ _ rs
  have rs2' := Reps.step kp (fun b f z => z f) _ _ rs'
  refine ⟨fun d hd => ?_, fun e => ⟨vs, ws, .of q2, .of q2', ?_⟩⟩
  · obtain ⟨x, y, h1, h2, rfl⟩ := zipD_get hd
    obtain ⟨v, hv, rv⟩ := rs2.get h1
    obtain ⟨w, hw, rw'⟩ := rs2'.get h2
    refine ⟨⟨vs, ws, v, w, .of q2, .of q2', hv, hw⟩, fun z H3 hy => ?_⟩
    obtain ⟨T, x', y', rfl, hT, rfl, h3, h4⟩ := hy
    have e1 := h3 vs (.of q2)
    have e2 := h4 ws (.of q2')
    rw [hv] at e1
    rw [hw] at e2
    cases e1
    cases e2
    exact ⟨F2, step_new hT, pair_new hT rv rw'⟩
  · rw [e, ← rs.len, ← rs'.len]; exact zipD_len
theorem itzt_ok {a b : Addr} {vs ws : List V} {ds es : List D} (q : H a = some (.tup vs)) (rs : Reps G F H ds vs) (q' : H b = some (.tup ws)) (rs' : Reps G F H es ws) : ItOk G F H (RZ.ItzT G.K a b) (zipD ds es) := by
  intro F2 H2 i kp
  have q2 := kp.tups a _ q rfl
  have q2' := kp.tups b _ q' rfl
  have rs2 := Reps.step kp (fun b f z => z f) _ _ rs
  have rs2' := Reps.step kp (fun b f z => z f) _ _ rs'
  refine ⟨fun d hd => ?_, fun e => ⟨vs, ws, .of q2, .of q2', ?_⟩⟩
  · obtain ⟨x, y, h1, h2, rfl⟩ := zipD_get hd
    obtain ⟨v, hv, rv⟩ := rs2.get h1
    obtain ⟨w, hw, rw'⟩ := rs2'.get h2
    refine ⟨⟨vs, ws, v, w, .of q2, .of q2', hv, hw⟩, fun z H3 hy => ?_⟩
    obtain ⟨T, x', y', rfl, hT, rfl, h3, h4⟩ := hy
    have e1 := h3 vs (.of q2)
    have e2 := h4 ws (.of q2')
    rw [hv] at e1
    rw [hw] at e2
    cases e1
    cases e2
    exact ⟨F2, step_new hT, pair_new hT rv rw'⟩
  · rw [e, ← rs.len, ← rs'.len]; exact zipD_len
def zipOf : List D → Option (List D)
  | [d, e] => match d, e with
    | .lst xs, .lst ys => some (zipD xs ys)
    | .tup xs, .tup ys => some (zipD xs ys)
    | _, _ => none
  | _ => none
def iZp (f : Fm → Out (List Opn)) : Fm → Out (List D) := fun fr => (f fr).bind fun ps fr1 => match frzs fr1 ps with
  | some (ds, fr2) => match zipOf ds with
    | some xs => .ok xs fr2
    | none => .bad
  | none => .bad
theorem rw2 {d e : D} {vs : List V} (r : Reps G F H [d, e] vs) : ∃ x y, vs = [x, y] ∧ Rep G F H d x ∧ Rep G F H e y := by
  obtain ⟨v, ws, rfl, r1, rn⟩ := r.of_cons
  obtain ⟨y, rfl, r2⟩ := rw1 rn
  exact ⟨v, y, rfl, r1, r2⟩
theorem si_zip {e e2 : Expr} {f : Fm → Out (List Opn)} {p pos tpos : Pos} {elts : List Expr} {kk : Nat} (hK : X.K = G.K) (hg : Gl X "zip") (hm : X.mg "zip" = none) (ha : SA X G B W [e, e2] f)
    (hs : starEach [e, e2] X.env = (false, eval e X.env) :: starEach [e2] X.env := by rfl) (hpl : (backTo pos (starEach [e2] X.env)).any (·.1) = false := by rfl) :
    SIt X G B W (.Tuple elts kk tpos) (.Call (.Name "zip" p) [e, e2] [] pos) (iZp f) := by
  refine PI.of (RZ.pi_zipA hg hm ha hs hpl) fun σ H R ⟨F, fr, I, h⟩ => ?_
  refine ⟨F, fr, I, (h.next (.refl I)).imp fun ps fr1 F1 H1 _ ⟨n1, _, h1⟩ vs os nw => ?_⟩
  rw [hK]
  cases ef : frzs fr1 ps with
  | none => rw [ef] at h1; exact h1.elim
  | some q =>
    obtain ⟨ds, fr2⟩ := q
    simp only [ef] at h1
    obtain ⟨F2, n2, r, _⟩ := frzs_ok n1 os nw ef
    cases ez : zipOf ds with
    | none => rw [ez] at h1; exact h1.elim
    | some xs =>
      simp only [ez] at h1
      unfold zipOf at ez
      split at ez
      · obtain ⟨x, y, rfl, rx, ry⟩ := rw2 r
        split at ez
        · cases ez
          unfold Rep at rx ry
          obtain ⟨a, vs, rfl, f, q, rs⟩ := rx
          obtain ⟨b, ws, rfl, f', q', rs'⟩ := ry
          exact ⟨a, b, vs, ws, rfl, .inl ⟨.of q, .of q', h1 F2 H1 n2 _ (itz_ok f q rs f' q' rs')⟩⟩
        · cases ez
          unfold Rep at rx ry
          obtain ⟨a, vs, rfl, q, rs⟩ := rx
          obtain ⟨b, ws, rfl, q', rs'⟩ := ry
          exact ⟨a, b, vs, ws, rfl, .inr ⟨.of q, .of q', h1 F2 H1 n2 _ (itzt_ok q rs q' rs')⟩⟩
        · cases ez
      · cases ez
end
end MP
set_option Elab.async false
set_option linter.all false
set_option maxRecDepth 100000
set_option maxHeartbeats 400000
/-! MPD: own classes: ==, !=, len, making, attributes. -/
namespace MP
open PySem PySem.Spec L2
section
variable {X : Cx} {G : Gx} {F F' : Addr → Prop} {H H' : Hp}
/-! ### a call that only reads, everything handed in stands still meanwhile -/
theorem rrep_fz {d : D} {x : V} (r : RRep G F H d x) : Rep G (fun z => F z ∨ (H z ≠ none ∧ x = .ref z)) H d x := by
  cases d with
  | lst ds => obtain ⟨a, vs, rfl, q, rs⟩ := rr_lst r; unfold Rep; exact ⟨a, vs, rfl, .inr ⟨by rw [q]; simp, rfl⟩, q, Reps.step (S := fun _ => False) (kp_up fun _ h => .inl h) (fun _ _ z => z) _ _ rs⟩
  | dic ks ds => obtain ⟨a, vs, rfl, q, l, rs⟩ := r; unfold Rep; exact ⟨a, vs, rfl, .inr ⟨by rw [q]; simp, rfl⟩, q, l, Reps.step (S := fun _ => False) (kp_up fun _ h => .inl h) (fun _ _ z => z) _ _ rs⟩
  | ins c ks ds => obtain ⟨a, dx, vs, rfl, q, l, rs⟩ := r; unfold Rep; exact ⟨a, dx, vs, rfl, .inr ⟨by rw [q]; simp, rfl⟩, q, l, Reps.step (S := fun _ => False) (kp_up fun _ h => .inl h) (fun _ _ z => z) _ _ rs⟩
  | _ => exact Rep.up (fun _ h => .inl h) r
theorem rreps_get : ∀ {ds : List D} {vs : List V} {i : Nat} {d : D} {v : V}, RReps G F H ds vs → ds[i]? = some d → vs[i]? = some v → RRep G F H d v
  | [], vs, i, d, v, r, h1, h2 => by simp at h1
  | c :: ds, vs, i, d, v, r, h1, h2 => by
    obtain ⟨w, ws, rfl, r1, rs⟩ := r
    cases i with
    | zero => simp at h1 h2; subst h1 h2; exact r1
    | succ i => exact rreps_get (i := i) rs (by simpa using h1) (by simpa using h2)
theorem rreps_len : ∀ {ds : List D} {vs : List V}, RReps G F H ds vs → ds.length = vs.length
  | [], vs, r => by have : vs = [] := r; subst this; rfl
  | c :: ds, vs, r => by
    obtain ⟨w, ws, rfl, r1, rs⟩ := r
    simp [rreps_len rs]
theorem sp_frz {R : List Val → Rs} {ds : List D} {vs : List V} {c : D} {os' : List Val} (fl : ∀ a, F a → H a ≠ none) (r : RReps G F H ds vs) (hR : R (ds.map Val.fz) = .ret (.fz c) os') (hc : flatD c = true) (E : XK) :
    spF G R vs H (fun v H' => v = flV c ∧ Step F H (fun _ => False) F H') E := by
  have no : ∀ a, ¬ OwA (ds.map Val.fz) vs a := fun a ⟨i, o, e, _⟩ => by
    rw [List.getElem?_map] at e
    cases z : ds[i]? with
    | none => rw [z] at e; cases e
    | some d => rw [z] at e; cases e
  refine ⟨fun z => F z ∨ (H z ≠ none ∧ V.ref z ∈ vs), ds.map Val.fz, ⟨by rw [List.length_map, rreps_len r], fun i o v e1 e2 => ?_, fun i j a o p e1 => ?_, fun a h => h.elim (fl a) fun z => z.1⟩, ?_⟩
  · rw [List.getElem?_map] at e1
    cases z : ds[i]? with
    | none => rw [z] at e1; cases e1
    | some d =>
      rw [z] at e1
      cases e1
      refine Rep.up (fun b h => ?_) (rrep_fz (rreps_get r z e2))
      exact h.imp id fun ⟨h1, h2⟩ => ⟨h1, by rw [← h2]; exact List.mem_of_getElem? e2⟩
  · rw [List.getElem?_map] at e1
    cases z : ds[i]? with
    | none => rw [z] at e1; cases e1
    | some d => rw [z] at e1; cases e1
  · rw [hR]
    intro hk F' H' w ao st vo vn
    refine ⟨(flV_of hc vo).1, ⟨⟨fun b o e _ => st.keep b o e (no b), st.tups, fun _ h => h⟩, st.live, fun _ h => .inl h, fun _ h => .inl h⟩⟩
/-- a call of an own def with values, somewhere below -/
theorem own_call {k : Nat} {f : Addr} {fd : FuncData} {ps : List Str} {R : List Val → Rs} {A : Around} {pins : List (Addr × Obj)} {σ : St} {s : Shared} {ds : List D} {vs : List V} {us : List Value} {c : D} {os' : List Val} {Q : Value → Shared → Prop}
    (Fn : FnOk X.prog X.w X.K X.mg X.base (L2.CX X.prog X.w) k f fd ps (spF G R)) (hb : Binds X.K fd ps []) (hr : Room k A) (hA : A.frames = X.A.frames) (I : Inv X pins σ H s) (rv : Vals vs us)
    (fl : ∀ a, F a → H a ≠ none) (r : RReps G F H ds vs) (hR : R (ds.map Val.fz) = .ret (.fz c) os') (hc : flatD c = true)
    (h : ∀ u H' s', Inv X pins σ H' s' → RelV (flV c) u → Step F H (fun _ => False) F H' → Q u s') : wpAny (model X.prog X.w) A (call (.ref f) us) Q X.xe s := by
  have hsp := sp_frz fl r hR hc (fun _ _ _ => False)
  have e0 : Env0 X.prog X.w X.K X.mg X.base A X.stack s H := by
    have e := I.env0
    exact ⟨by rw [hA]; exact e.frames, e.mod, e.bs, e.bsz, e.funs, e.frf, e.hok, e.bare⟩
  have hl := Fn.len _ _ _ _ hsp
  have b := hb s us I.kIn (by rw [List.append_nil, ← rv.length]; exact hl)
  rw [List.append_nil] at b
  refine wpAny_call (codeAny_mono (Fn.run A X.stack s H ⟨us, []⟩ us vs _ (fun _ _ _ => False) hr e0 b rv hsp) fun r s' hq => ?_)
  cases r with
  | error e => exact passAt (W := W0) (fun _ _ x => by obtain ⟨_, _, _, _, _, _, _, _, _, _, _, _, _, _, _, _, z⟩ := x; exact z.elim) σ pins H s e s' I hq
  | ok fl =>
    cases fl with
    | ret w =>
      obtain ⟨z, H', I', rz, ez, st⟩ := I.after hq
      subst ez
      exact h w H' s' I' rz st
    | next => exact False.elim hq
    | brk => exact False.elim hq
    | cont => exact False.elim hq
def bG : Rs → Option Bool
  | .ret v _ => match v with
    | .fz d => match d with
      | .bl b => some b
      | _ => none
    | _ => none
  | _ => none
theorem bG_ok {r : Rs} {b : Bool} (h : bG r = some b) : ∃ os', r = .ret (.fz (.bl b)) os' := by
  unfold bG at h
  split at h
  · split at h
    · split at h
      · cases h; exact ⟨_, rfl⟩
      · cases h
    · cases h
  · cases h
/-- the type of the right operand is known -/
def tyKn (cs : List Nat) : D → Bool
  | .ins c _ _ => cs.contains c
  | d => (tyN d).isSome
theorem tyKn_ok {cs : List Nat} (ck : Clk G cs) {d : D} {x : V} (h : tyKn cs d = true) (r : RRep G F H d x) : ∃ t, tyW G d = some t ∧ TyX G.K H x t := by
  have key : (tyN d).isSome = true → ∃ t, tyW G d = some t ∧ TyX G.K H x t := fun h => by
    obtain ⟨t, ht⟩ := Option.isSome_iff_exists.mp h
    exact ⟨_, tyW_of ht, (tyN_ok ht r).1⟩
  cases d with
  | ins c ns vs =>
    obtain ⟨a, dx, ws, rfl, q, _⟩ := r
    have ic := ck.ins c (by simpa [tyKn] using h)
    exact ⟨_, rfl, .base (.ins q ic.cl ic.ha ic.hn ic.htk ic.hm)⟩
  | _ => exact key h
def eqOG (cs : List Nat) (R : List Val → Rs) (c : Nat) (d e : D) : Option Bool := match d with
  | .ins c' ns ds => if c' = c ∧ tyKn cs e = true then bG (R [.fz (.ins c' ns ds), .fz e]) else none
  | _ => none
def eqOV (cs : List Nat) (R : List Val → Rs) (c : Nat) (d e : D) : Option Val := (eqOG cs R c d e).map fun b => .fz (.bl b)
def neOV (cs : List Nat) (R : List Val → Rs) (c : Nat) (d e : D) : Option Val := (eqOG cs R c d e).map fun b => .fz (.bl (!b))
/-- what is known of an own == -/
structure OwnE (X : Cx) (G : Gx) (cs : List Nat) (c : Nat) (k : Nat) (f : Addr) (fd : FuncData) (ps : List Str) (R : List Val → Rs) : Prop where
  fn : FnOk X.prog X.w X.K X.mg X.base (L2.CX X.prog X.w) k f fd ps (spF G R)
  bi : Binds X.K fd ps []
  at_ : PySem.W.findIn X.K (.ref (G.cl c)) "__eq__" = some (some (.ref f))
  isf : PySem.W.isFn X.K (.ref f) = true
  nf : ∀ n ∈ (["NoneType", "int", "bool", "str", "tuple", "list", "dict"] : List String), PySem.W.notFirst X.K (G.cl c) (.type n) = true
  nc : ∀ d ∈ cs, PySem.W.notFirst X.K (G.cl c) (.ref (G.cl d)) = true
theorem own_nf {cs : List Nat} {c k : Nat} {f : Addr} {fd : FuncData} {ps : List Str} {R : List Val → Rs} (O : OwnE X G cs c k f fd ps R) {d : D} {t : Value} (h : tyKn cs d = true) (ht : tyW G d = some t) : PySem.W.notFirst X.K (G.cl c) t = true := by
  have key : ∀ t', tyN d = some t' → t = .type t' → PySem.W.notFirst X.K (G.cl c) t = true := fun t' h1 h2 => by
    subst h2
    refine O.nf t' ?_
    cases d <;> cases h1 <;> decide
  cases d with
  | ins c' ns vs => cases ht; exact O.nc c' (by simpa [tyKn] using h)
  | _ => first | (cases ht; exact key _ rfl rfl) | cases ht
theorem l_eqO {cs : List Nat} {c k : Nat} {f : Addr} {fd : FuncData} {ps : List Str} {R : List Val → Rs} (hK : X.K = G.K) (ck : Clk G cs) (O : OwnE X G cs c k f fd ps R) (hr : Room k X.A) :
    Lift2 X G (compareOp .Eq) (eqOV cs R c) := by
  refine ⟨fun x y H Q => ∃ (F : Addr → Prop) (d e : D) (b : Bool), (∀ a, F a → H a ≠ none) ∧ RRep G F H d x ∧ RRep G F H e y ∧ eqOG cs R c d e = some b ∧ ∀ H', Step F H (fun _ => False) F H' → Q (.bl b) H', fun pins s σ H x y v u Q I rx ry h => ?_, fun F H d e x y u Q fl rd re eg k => ?_⟩
  · obtain ⟨F, d, e, b, fl, rd, re, h, q⟩ := h
    unfold eqOG at h
    split at h
    · split at h
      · rename_i c' ns ds hz
        obtain ⟨rfl, hk⟩ := hz
        obtain ⟨os', hR⟩ := bG_ok h
        obtain ⟨a, dx, ws, rfl, ha, hl, rs⟩ := id rd
        cases rx
        obtain ⟨mA, J, _⟩ := ins_get I.hok ha
        obtain ⟨od, J, _⟩ := J.look
        obtain ⟨t, ht, tx⟩ := tyKn_ok ck hk re
        obtain ⟨P, Z, p, _⟩ := kit_of I ry (by rw [hK]; exact tx)
        obtain ⟨m, hF⟩ := I.fr
        show wpAny (model X.prog X.w) X.A (richCompare .Eq (.ref a) u) _ X.xe s
        refine PySem.W.cmp_K (op := .Eq) (tb := t) hr.units0 hF I.ok.mod.kin J (Z.ty _ _ I.kIn p) (own_nf O hk ht) O.at_ O.isf ?_
        refine own_call (vs := [.ref a, y]) O.fn O.bi hr rfl I (.cons rfl (.cons ry .nil)) fl (ds := [.ins c' ns ds, e]) ⟨_, _, rfl, rd, _, _, rfl, re, rfl⟩ hR rfl fun u' H' s' I' ru st => ?_
        obtain rfl : u' = .bool b := ru
        exact ⟨.bl b, H', I', rfl, q H' st⟩
      · cases h
    · cases h
  · unfold eqOV at eg
    cases z : eqOG cs R c d e with
    | none => rw [z] at eg; cases eg
    | some b => rw [z] at eg; cases eg; exact ⟨F, d, e, b, fl, rd, re, z, fun H' st => k F H' _ st vp_bl vnew_fz⟩
end
/-! != by the own == -/
section
open Sem (wp)
open Builtin
variable {prog : Program} {w : World} {A : Around} {E : Value → Shared → Prop} {s : Shared} {K : PySem.W.Frag} {x C L f : Addr} {h₀ : Heap} {m : Str → Option Value} {ox : Obj} {od : Option Obj} {b tb : Value}
theorem objNe_K (X : K.In s.heap) (I : PySem.W.InstAt s.heap x ox C od) (hu : A.units < cLine) (hs : PySem.W.findIn K (.ref C) "__eq__" = some (some (.ref f))) (hf : PySem.W.isFn K (.ref f) = true) {Q : Fin → Shared → Prop}
    (hcall : wpAny (model prog w) A (call (.ref f) [.ref x, b]) (fun v s' => ∃ c, v = .bool c ∧ Q (.done (.ret (.bool (!c)))) s') E s) :
    wpAny (model prog w) A (Builtin.«object.__ne__» ⟨[.ref x, b], []⟩) Q E s := by
  unfold Builtin.«object.__ne__»
  repeat (first
    | with_reducible refine wpAny_cRoomFor hu ?_
    | (refine wpAny_bind (m := callSpecialIfBound? (.ref x) (Str.ofString "__eq__") [b])
        (PySem.W.ifBound_K X I hs hf (wpAny_mono hcall (fun r s' hr => by
          obtain ⟨c, rfl, hq⟩ := hr
          repeat (first | exact hq | exact wpAny_pure hq | exact wpAny_truthy_bool hq | (refine wpAny_bind (m := truthy (.bool _)) (wpAny_truthy_bool ?_)) | wp_step)) fun _ _ e => e)))
    | wp_step)
theorem ne_K {Q : Value → Shared → Prop} (hu : A.units < cLine) (hu1 : A.in1.units < cLine) (F₀ : PyProof.Rows.Fr h₀ L s.heap m) (X₀ : K.In h₀) (I : PySem.W.InstAt s.heap x ox C od) (hb : PySem.W.Looks (model prog w) s.heap (typeOf b) tb) (hn : PySem.W.notFirst K C tb = true)
    (hne : PySem.W.findIn K (.ref C) "__ne__" = some (some (.builtin "object.__ne__"))) (hsub : PySem.W.mroIn K C (.type "object") = some true) (hs : PySem.W.findIn K (.ref C) "__eq__" = some (some (.ref f))) (hf : PySem.W.isFn K (.ref f) = true)
    (h : wpAny (model prog w) A.in1 (call (.ref f) [.ref x, b]) (fun v s' => ∃ c, v = .bool c ∧ Q (.bool (!c)) s') E s) : wpAny (model prog w) A (richCompare .NotEq (.ref x) b) Q E s := by
  have X := X₀.keeps F₀.keep
  have inst : PySem.W.Looks (model prog w) s.heap (isInstance (.ref x) (.type "object")) true := I.type.andThen (PySem.W.looks_mroIn X hsub)
  have one : wpAny (model prog w) A (tryCompare (.ref x) "__ne__" b) (fun r s' => ∃ v, r = some v ∧ Q v s') E s := by
    unfold tryCompare
    have nb : wpAny (model prog w) A (call (.builtin "object.__ne__") [.ref x, b]) (fun v s' => ∃ c, v = .bool c ∧ Q (.bool c) s') E s := by
      refine wpAny_call (codeAny_call_builtin F.cmp_object.ne.plain F.cmpEntry_ne (PySem.W.check_slot F.cmpKind_ne F.cmpSplit_ne inst (F.cmpArgs_ne _ _) ?_))
      exact objNe_K X I (A := A.in1) hu1 hs hf (wpAny_mono h (fun v s' hv => by
        obtain ⟨c, rfl, hq⟩ := hv
        exact ⟨c, rfl, by first | exact ⟨_, rfl, hq⟩ | exact hq⟩) fun _ _ e => e)
    refine wpAny_bind ?_
    have fin : wpAny (model prog w) A (call (.builtin "object.__ne__") ([.ref x] ++ [b]) >>= fun v => pure (some v)) (fun r s' => wpAny (model prog w) A (match r with
      | some .notImplemented => pure none
      | none => pure none
      | some o => pure (some o)) (fun r s' => ∃ v, r = some v ∧ Q v s') E s') E s := wpAny_bind (wpAny_mono nb (fun v s' h' => wpAny_pure (by obtain ⟨c, rfl, hq⟩ := h'; exact wpAny_pure ⟨_, rfl, hq⟩)) fun _ _ h' => h')
    simp only [callSpecialIfBound?, bindSpecialIfBound?]
    refine wpAny_holding (wpAny_bind (wpAny_bind (wpAny_bind (I.type.here ((PySem.W.looks_findIn X hne).here ?_)))))
    simp only [F.cmp_object.ne.bind]
    refine wpAny_bind (wpAny_askSetting (wpAny_ite ?_))
    split
    · exact wpAny_bind (wpAny_pure (wpAny_pure (by exact fin)))
    · exact wpAny_tryCatch (wpAny_bind (wpAny_pure (wpAny_pure (by exact fin))))
  unfold richCompare
  simp only [oneThing_ref]
  refine wpAny_holding (wpAny_bind (wpAny_cRoomFor hu ?_))
  refine wpAny_bind (I.type.here (wpAny_bind (hb.here ?_)))
  split
  · rename_i q
    have e : PySem.W.subIn K tb (.ref C) = some false := by
      rcases Bool.or_eq_true_iff.mp hn with e | e
      · rw [beq_iff_eq.mp e] at q; simp at q
      · exact beq_iff_eq.mp e
    refine wpAny_bind ((PySem.W.looks_subIn X e).here ?_)
    simp only [Bool.false_eq_true, if_false]
    refine wpAny_bind (wpAny_mono one (fun r s' z => ?_) fun _ _ e => e)
    obtain ⟨v, rfl, hq⟩ := z
    exact wpAny_pure hq
  · refine wpAny_bind (wpAny_pure ?_)
    simp only [Bool.false_eq_true, if_false]
    refine wpAny_bind (wpAny_mono one (fun r s' z => ?_) fun _ _ e => e)
    obtain ⟨v, rfl, hq⟩ := z
    exact wpAny_pure hq
end
section
variable {X : Cx} {G : Gx} {F F' : Addr → Prop} {H H' : Hp}
theorem l_neO {cs : List Nat} {c k : Nat} {f : Addr} {fd : FuncData} {ps : List Str} {R : List Val → Rs} (hK : X.K = G.K) (ck : Clk G cs) (O : OwnE X G cs c k f fd ps R) (hne : PySem.W.findIn X.K (.ref (G.cl c)) "__ne__" = some (some (.builtin "object.__ne__"))) (hc : c ∈ cs) (hr : Room (k + 1) X.A) :
    Lift2 X G (compareOp .NotEq) (neOV cs R c) := by
  refine ⟨fun x y H Q => ∃ (F : Addr → Prop) (d e : D) (b : Bool), (∀ a, F a → H a ≠ none) ∧ RRep G F H d x ∧ RRep G F H e y ∧ eqOG cs R c d e = some b ∧ ∀ H', Step F H (fun _ => False) F H' → Q (.bl (!b)) H', fun pins s σ H x y v u Q I rx ry h => ?_, fun F H d e x y u Q fl rd re eg k => ?_⟩
  · obtain ⟨F, d, e, b, fl, rd, re, h, q⟩ := h
    unfold eqOG at h
    split at h
    · split at h
      · rename_i c' ns ds hz
        obtain ⟨rfl, hk⟩ := hz
        obtain ⟨os', hR⟩ := bG_ok h
        obtain ⟨a, dx, ws, rfl, ha, hl, rs⟩ := id rd
        cases rx
        obtain ⟨mA, J, _⟩ := ins_get I.hok ha
        obtain ⟨od, J, _⟩ := J.look
        obtain ⟨t, ht, tx⟩ := tyKn_ok ck hk re
        obtain ⟨P, Z, p, _⟩ := kit_of I ry (by rw [hK]; exact tx)
        obtain ⟨m, hF⟩ := I.fr
        show wpAny (model X.prog X.w) X.A (richCompare .NotEq (.ref a) u) _ X.xe s
        refine ne_K (tb := t) hr.units0 hr.in1.units0 hF I.ok.mod.kin J (Z.ty _ _ I.kIn p) (own_nf O hk ht) hne (by rw [hK]; exact (ck.ins _ hc).hm) O.at_ O.isf ?_
        refine own_call (vs := [.ref a, y]) O.fn O.bi hr.in1 rfl I (.cons rfl (.cons ry .nil)) fl (ds := [.ins c' ns ds, e]) ⟨_, _, rfl, rd, _, _, rfl, re, rfl⟩ hR rfl fun u' H' s' I' ru st => ?_
        obtain rfl : u' = .bool b := ru
        exact ⟨b, rfl, .bl (!b), H', I', rfl, q H' st⟩
      · cases h
    · cases h
  · unfold neOV at eg
    cases z : eqOG cs R c d e with
    | none => rw [z] at eg; cases eg
    | some b => rw [z] at eg; cases eg; exact ⟨F, d, e, b, fl, rd, re, z, fun H' st => k F H' _ st vp_bl vnew_fz⟩
def iG : Rs → Option Int
  | .ret v _ => match v with
    | .fz d => match d with
      | .int b => some b
      | _ => none
    | _ => none
  | _ => none
theorem iG_ok {r : Rs} {b : Int} (h : iG r = some b) : ∃ os', r = .ret (.fz (.int b)) os' := by
  unfold iG at h
  split at h
  · split at h
    · split at h
      · cases h; exact ⟨_, rfl⟩
      · cases h
    · cases h
  · cases h
def lenOG (R : List Val → Rs) (c : Nat) : D → Option Val
  | .ins c' ns ds => if c' = c then (match iG (R [.fz (.ins c' ns ds)]) with
    | some n => if 0 ≤ n ∧ n < 2 ^ 63 then some (.fz (.int n)) else none
    | none => none) else none
  | _ => none
/-- what is known of an own def of the class that the language calls -/
structure OwnL (X : Cx) (G : Gx) (c : Nat) (nm : Str) (k : Nat) (f : Addr) (fd : FuncData) (ps : List Str) (R : List Val → Rs) : Prop where
  fn : FnOk X.prog X.w X.K X.mg X.base (L2.CX X.prog X.w) k f fd ps (spF G R)
  bi : Binds X.K fd ps []
  at_ : PySem.W.findIn X.K (.ref (G.cl c)) nm = some (some (.ref f))
  isf : PySem.W.isFn X.K (.ref f) = true
theorem l_lenO {c k : Nat} {f : Addr} {fd : FuncData} {ps : List Str} {R : List Val → Rs} (O : OwnL X G c "__len__" k f fd ps R) (hr : Room (k + 1) X.A) : LiftC X G (.builtin "len") (gOne (lenOG R c)) := by
  refine lift_one (r := fun xs H Q => ∃ (F : Addr → Prop) (d : D) (x : V) (n : Int), xs = [x] ∧ (∀ a, F a → H a ≠ none) ∧ RRep G F H d x ∧ lenOG R c d = some (.fz (.int n)) ∧ ∀ H', Step F H (fun _ => False) F H' → Q (.int n) H') (fun pins s σ H xs us Q I rv h => ?_) (fun F H d x u Q fl rd eg k => ?_)
  · obtain ⟨F, d, x, n, rfl, fl, rd, h, q⟩ := h
    unfold lenOG at h
    split at h
    · split at h
      · rename_i c' ns ds hz
        subst hz
        cases z : iG (R [.fz (.ins c' ns ds)]) with
        | none => rw [z] at h; cases h
        | some n' =>
          simp only [z] at h
          split at h
          · rename_i hb
            cases h
            obtain ⟨os', hR⟩ := iG_ok z
            obtain ⟨a, dx, ws, rfl, ha, hl, rs⟩ := id rd
            obtain rfl := Vals.ref1 rv
            obtain ⟨mA, J, _⟩ := ins_get I.hok ha
            obtain ⟨od, J, _⟩ := J.look
            obtain ⟨m, hF⟩ := I.fr
            refine PySem.W.len_K hF I.ok.mod.kin J O.at_ O.isf ?_
            refine own_call (vs := [.ref a]) O.fn O.bi hr.in1 rfl I rv fl (ds := [.ins c' ns ds]) ⟨_, _, rfl, rd, rfl⟩ hR rfl fun u' H' s' I' ru st => ?_
            obtain ⟨t, rfl⟩ := (show ∃ t, u' = Value.int n t from ru)
            exact ⟨hb, .int n, H', I'.tok _, ⟨_, rfl⟩, q H' st⟩
          · cases h
      · cases h
    · cases h
  · have key : ∃ n, u = .fz (.int n) := by
      unfold lenOG at eg
      split at eg
      · split at eg
        · split at eg
          · split at eg
            · cases eg; exact ⟨_, rfl⟩
            · cases eg
          · cases eg
        · cases eg
      · cases eg
    obtain ⟨n, rfl⟩ := key
    exact ⟨F, d, x, n, rfl, fl, rd, eg, fun H' st => k F H' _ st vp_int vnew_fz⟩
end
end MP
set_option Elab.async false
set_option linter.all false
set_option maxRecDepth 100000
set_option maxHeartbeats 400000
/-! MPF: making an object of an own class; its attributes. -/
namespace MP
open PySem PySem.Spec L2
section
variable {G : Gx} {B : Bx} {σ σ0 σ1 σ2 σ' : St} {F F0 F1 F2 F' : Addr → Prop} {H H0 H1 H2 H' : Hp} {fr fr0 fr1 fr2 fr' : Fm} {W : WX} {S : Addr → Prop} {X : Cx} {pos : Pos}
def mkO (c : Nat) : List Val → Option (O × List Val)
  | o :: os => match o with
    | .own p => match p with
      | .ins c' ns ds => if c' = c then some (.ins c' ns ds, os) else none
      | _ => none
    | _ => none
  | _ => none
theorem mkO_ok {c : Nat} {os os' : List Val} {o : O} (h : mkO c os = some (o, os')) : os = .own o :: os' := by
  unfold mkO at h
  split at h
  · split at h
    · split at h
      · split at h
        · cases h; rfl
        · cases h
      · cases h
    · cases h
  · cases h
def isN (v : Val) : Bool := match v with
  | .fz d => isNon d
  | _ => false
theorem isN_ok {v : Val} {w : V} (h : isN v = true) (r : VOk G F H v w) : w = .non := by
  cases v with
  | fz d => cases d <;> first | exact rr_non (F := F) (G := G) (H := H) r | cases h
  | own o => cases h
def sMake (c : Nat) (R : List Val → Rs) (f : Fm → Out (List Opn)) : Fm → Out Opn := fun fr => (f fr).bind fun ps fr1 => match lends fr1 ps with
  | some os => match once fr1 ps with
    | true => match R (.own (.ins c [] []) :: os) with
      | .ret v os2 => match isN v, mkO c os2 with
        | true, some (o, os') => match kinds os os' with
          | true => .ok (.vl (.own o)) (backs ps os' 0 fr1)
          | false => .bad
        | _, _ => .bad
      | .exc x os2 => match os2 with
        | _ :: os' => match kinds os os' with
          | true => .exc x (backs ps os' 0 fr1)
          | false => .bad
        | [] => .bad
      | .bad => .bad
    | false => .bad
  | none => .bad
theorem owa_cons {o : Val} {os : List Val} {v : V} {vs : List V} {a : Addr} (h : OwA (o :: os) (v :: vs) a) : (∃ p, o = .own p ∧ v = .ref a) ∨ OwA os vs a := by
  obtain ⟨i, p, e1, e2⟩ := h
  cases i with
  | zero => simp at e1 e2; exact .inl ⟨p, e1, e2⟩
  | succ i => exact .inr ⟨i, p, by simpa using e1, by simpa using e2⟩
theorem ArgsOk.tail {o : Val} {os : List Val} {v : V} {vs : List V} (a : ArgsOk G F H (o :: os) (v :: vs)) : ArgsOk G F H os vs :=
  ⟨by simpa using a.len, fun i p w e1 e2 => a.ok (i + 1) p w (by simpa using e1) (by simpa using e2), fun i j b p q e1 e2 e3 e4 => by
    have := a.dj (i + 1) (j + 1) b p q (by simpa using e1) (by simpa using e2) (by simpa using e3) (by simpa using e4)
    omega, a.fl⟩
theorem make_ok {c : Nat} {R : List Val → Rs} {f : Fm → Out (List Opn)} {Q : VK} {E : St → XK} (hE : ∀ c d H', W c d σ H' → E σ c d H') (h : tE G B W (sMake c R f) σ H Q) : tA G B W f σ H fun vs H1 => ∀ x dx, H1 x = none → H1 dx = none → dx ≠ x →
    spF G R (.ref x :: vs) (upd (upd H1 dx (.own x)) x (.ins (G.cl c) dx [])) (fun v H2 => v = .non ∧ Q (.ref x) H2) (E σ) := by
  obtain ⟨F, fr, I, h⟩ := h
  refine ⟨F, fr, I, (h.next (.refl I)).imp fun ps fr1 F1 H1 _ ⟨n1, _, h1⟩ vs os nw => ?_⟩
  intro x dx hx hdx hne
  cases el : lends fr1 ps with
  | none => rw [el] at h1; exact h1.elim
  | some oss =>
    simp only [el] at h1
    cases eo : once fr1 ps with
    | false => rw [eo] at h1; exact h1.elim
    | true =>
      simp only [eo] at h1
      obtain ⟨F2, n2, ao, ow, own⟩ := lends_ok n1 os nw el eo
      have lk : ∀ (k i : Nat) (o : O), ps[k]? = some (.sl i) → slO fr1 i = some o → ∃ p, oss[k]? = some (Val.own p) := fun k i o e1 e2 => by
        obtain ⟨c, h2, h3⟩ := lends_get el e1
        rcases slO_own e2 with q | q
        · simp only [lend, q] at h3; cases h3; exact ⟨o, h2⟩
        · simp only [lend, q] at h3; cases h3; exact ⟨o, h2⟩
      have hx' : upd H1 dx (.own x) x = none := by rw [upd_ne hne.symm]; exact hx
      have s1 : Step F2 H1 (fun _ => False) F2 (upd H1 dx (.own x)) := step_new hdx
      have s2 : Step F2 (upd H1 dx (.own x)) (fun _ => False) F2 (upd (upd H1 dx (.own x)) x (.ins (G.cl c) dx [])) := step_new hx'
      have s12 := s1.trans s2 fun _ z => z.elim
      have nFx : ¬ F2 x := fun z => n2.I.fl x z hx
      have live : ∀ {i : Nat} {o : O} {a : Addr}, oss[i]? = some (.own o) → vs[i]? = some (.ref a) → a ≠ x := fun {i o a} e1 e2 z => by
        subst z
        obtain ⟨b, e, r, _⟩ := ao.ok i _ _ e1 e2
        cases e
        exact r.there hx
      have ao2 : ArgsOk G F2 (upd (upd H1 dx (.own x)) x (.ins (G.cl c) dx [])) (.own (.ins c [] []) :: oss) (.ref x :: vs) := by
        refine ⟨by simp [ao.len], fun i o v e1 e2 => ?_, fun i j a o p e1 e2 e3 e4 => ?_, fun a f => s12.live a (n2.I.fl a f)⟩
        · cases i with
          | zero =>
            simp at e1 e2
            subst e1 e2
            exact ⟨x, rfl, ⟨dx, [], upd_same, rfl, Reps.nil⟩, nFx⟩
          | succ i =>
            have := ao.ok i o v (by simpa using e1) (by simpa using e2)
            cases o with
            | fz d => exact Rep.step s12.toKp (fun _ _ z => z) _ _ this
            | own o => obtain ⟨a, z, r, f⟩ := this; exact ⟨a, z, r.step s12.toKp (fun _ _ z => z) (fun z => z), f⟩
        · cases i with
          | zero =>
            cases j with
            | zero => rfl
            | succ j =>
              simp at e3
              subst e3
              exact absurd rfl (live (i := j) (by simpa using e2) (by simpa using e4))
          | succ i =>
            cases j with
            | zero =>
              simp at e4
              subst e4
              exact absurd rfl (live (i := i) (by simpa using e1) (by simpa using e3))
            | succ j => rw [ao.dj i j a o p (by simpa using e1) (by simpa using e2) (by simpa using e3) (by simpa using e4)]
      refine ⟨F2, _, ao2, ?_⟩
      have full : ∀ {F' H'}, Step F2 (upd (upd H1 dx (.own x)) x (.ins (G.cl c) dx [])) (OwA (.own (.ins c [] []) :: oss) (.ref x :: vs)) F' H' → Step F2 H1 (OwA oss vs) F' H' := fun {F' H'} st =>
        (s12.wide (S' := OwA oss vs) fun _ z => z.elim).trans st fun a z => by
          rcases owa_cons z with ⟨p, _, e⟩ | z
          · cases e; exact .inr hx
          · exact .inl z
      have keyO : ∀ {os' : List Val} {a : Addr}, Ow (MP.backs ps os' 0 fr1) σ a → Ow fr1 σ a := fun {os' a} ⟨j, hj, ej⟩ => by
        refine ⟨j, ?_, ej⟩
        obtain ⟨c, hc⟩ := hj
        have key : ∀ s, (MP.backs ps os' 0 fr1)[j]? = some s → ∃ t, fr1[j]? = some t ∧ back1 ps os' j t = s := fun s e => by
          rw [backs_get, Nat.zero_add] at e
          exact Option.map_eq_some_iff.mp e
        rcases hc with hc | hc
        · obtain ⟨t, e1, e2⟩ := key _ hc
          cases t with
          | own c => exact ⟨c, .inl e1⟩
          | bor c => exact ⟨c, .inr e1⟩
          | _ => cases e2
        · obtain ⟨t, e1, e2⟩ := key _ hc
          cases t with
          | own c => exact ⟨c, .inl e1⟩
          | bor c => exact ⟨c, .inr e1⟩
          | _ => cases e2
      cases er : R (.own (.ins c [] []) :: oss) with
      | bad => rw [er] at h1; exact h1.elim
      | ret v os2 =>
        simp only [er] at h1
        intro hk2 F' H' w ao' st vo vn
        cases en : isN v with
        | false => simp only [en] at h1; exact h1.elim
        | true =>
          cases em : mkO c os2 with
          | none => simp only [en, em] at h1; exact h1.elim
          | some q =>
            obtain ⟨o, os'⟩ := q
            simp only [en, em] at h1
            cases hk : kinds oss os' with
            | false => simp only [hk] at h1; exact h1.elim
            | true =>
              simp only [hk] at h1
              have e2 := mkO_ok em
              subst e2
              have n3 := n2.backs (ps := ps) ao ow own hk ao'.tail (full st) (lends_len el) lk
              obtain ⟨b, z, r, nf⟩ := ao'.ok 0 (.own o) (.ref x) rfl rfl
              cases z
              refine ⟨isN_ok en vo, h1 F' H' n3 (.ref x) ⟨x, rfl, r, nf, fun z => n2.I.ow_live (keyO z) hx⟩ fun a e => ?_⟩
              cases e
              exact n2.st.free hx
      | exc e os2 =>
        simp only [er] at h1
        intro hk2 F' H' w d ao' st xo
        cases os2 with
        | nil => simp [kinds] at hk2
        | cons o os' =>
          simp only at h1
          cases hk : kinds oss os' with
          | false => simp only [hk] at h1; exact h1.elim
          | true =>
            simp only [hk] at h1
            exact hE w d H' (h1 F' H' w d (n2.backs (ps := ps) ao ow own hk ao'.tail (full st) (lends_len el) lk) xo)
theorem run_makeS {C f : Addr} {k : Nat} {fd : FuncData} {ps : List Str} {sp : Sp} {E : St → XK} {pins : List (Addr × Obj)} {s : Shared} {Q : VK} {us : List Value} {vs : List V} (M : Mk X.K C f) (Fn : FnOk X.prog X.w X.K X.mg X.base (L2.CX X.prog X.w) k f fd ps sp) (hr : Room (k + 1) X.A) (hb : Binds X.K fd ps [])
    (hx : PassesAt (L2.CX X.prog X.w) X σ (E σ)) (I : Inv X pins σ H s) (r : Vals vs us)
    (h : ∀ x dx, H x = none → H dx = none → dx ≠ x → sp (.ref x :: vs) (upd (upd H dx (.own x)) x (.ins C dx [])) (fun v H2 => v = .non ∧ Q (.ref x) H2) (E σ)) :
    wpAny (model X.prog X.w) X.A (call (.ref C) us) (EP X pins σ Q) X.xe s := by
  have hq := h (s.heap.objs.size + 1) s.heap.objs.size (I.hok.fresh (Nat.le_succ _)) (I.hok.fresh (Nat.le_refl _)) (Nat.ne_of_lt (Nat.lt_succ_self _))
  have I2 := Inv.made (C := C) I
  have r2 : Vals (V.ref (s.heap.objs.size + 1) :: vs) (Value.ref (s.heap.objs.size + 1) :: us) := .cons rfl r
  have hl : (Value.ref (s.heap.objs.size + 1) :: us).length = ps.length := by
    have e := r2.length
    rw [Fn.len _ _ _ _ hq] at e
    exact e.symm
  have b := hb _ (Value.ref (s.heap.objs.size + 1) :: us) I2.kIn (by rw [List.append_nil]; exact hl)
  rw [List.append_nil] at b
  refine wpAny_call (make_map (f := f) I.kIn M.makes M.init (beq_iff_eq.mp M.fn) (codeAny_mono (Fn.run _ X.stack _ _ ⟨Value.ref (s.heap.objs.size + 1) :: us, []⟩ (Value.ref (s.heap.objs.size + 1) :: us) _ _ (E σ) (hr.make C us [])
    (I2.env0.make C us []) b r2 hq) fun r s' hq' => ?_))
  cases r with
  | error e => exact hx pins _ _ e s' I2 hq'
  | ok fl =>
    cases fl with
    | ret u =>
      obtain ⟨v, H', I3, rv, ev, q3⟩ := I2.after hq'
      subst ev
      exact ⟨rv, ⟨V.ref (s.heap.objs.size + 1), H', I3, rfl, q3⟩⟩
    | next => exact False.elim hq'
    | brk => exact False.elim hq'
    | cont => exact False.elim hq'
theorem s_make {c k : Nat} {f : Addr} {fd : FuncData} {ps : List Str} {x : Str} {p : Pos} {e : Expr} {es : List Expr} {R : List Val → Rs} {fa : Fm → Out (List Opn)} (tk : Takes X W) (M : Mk X.K (G.cl c) f)
    (Fn : FnOk X.prog X.w X.K X.mg X.base (L2.CX X.prog X.w) k f fd ps (spF G R)) (hr : Room (k + 1) X.A) (hg : Gl X x) (hm : X.mg x = some (.ref (G.cl c))) (hb : Binds X.K fd ps [])
    (ha : SA X G B W (e :: es) fa) (hdb : (x == ("__debug__" : Str)) = false := by decide) (he : starEach (e :: es) X.env = (false, eval e X.env) :: starEach es X.env := by rfl) (hpl : (backTo pos (starEach es X.env)).any (·.1) = false := by rfl) :
    SE X G B W (.Call (.Name x p) (e :: es) [] pos) (sMake c R fa) := by
  refine ⟨fun pins s σ H Q I h => ?_⟩
  have h' := make_ok (E := WE W) (fun _ _ _ h => h) h
  refine PyProof.Rows.Call_ (ld_glob I hg hm ?_ hdb)
  refine PySem.W.callWith_K (h₀ := X.base) I.ok.mod.kin M.kp (thn (ha.run pos pins s σ H _ I h') fun us s1 ⟨vs, H1, I1, r, q⟩ => ⟨I1.kIn, ?_⟩) he hpl
  exact run_makeS M Fn hr hb (passAt tk σ) I1 r q
/-! ### o.f = e -/
def putN : List Str → Str → List Str
  | [], f => [f]
  | n :: ns, f => if n = f then n :: ns else n :: putN ns f
def putA {α : Type} : List Str → List α → Str → α → List α
  | [], _, _, x => [x]
  | n :: ns, v :: vs, f, x => if n = f then x :: vs else v :: putA ns vs f x
  | _ :: _, [], _, _ => []
theorem putF_zip {f : Str} {x : V} : ∀ {ns : List Str} {vs : List V}, ns.length = vs.length → putF f x (ns.zip vs) = (putN ns f).zip (putA ns vs f x) ∧ (putN ns f).length = (putA ns vs f x).length
  | [], [], h => ⟨rfl, rfl⟩
  | n :: ns, v :: vs, h => by
    obtain ⟨e1, e2⟩ := putF_zip (f := f) (x := x) (ns := ns) (vs := vs) (by simpa using h)
    unfold putN putA
    rw [List.zip_cons_cons]
    unfold putF
    by_cases z : n = f
    · rw [if_pos z, if_pos z, if_pos z]; exact ⟨rfl, by simpa using h⟩
    · rw [if_neg z, if_neg z, if_neg z, e1]; exact ⟨rfl, by simp [e2]⟩
theorem Reps.putA {f : Str} {d : D} {x : V} (rd : Rep G F H d x) : ∀ {ns : List Str} {ds : List D} {vs : List V}, ns.length = vs.length → Reps G F H ds vs → Reps G F H (MP.putA ns ds f d) (MP.putA ns vs f x)
  | [], ds, vs, h, r => by unfold MP.putA; exact Reps.cons rd Reps.nil
  | n :: ns, [], vs, h, r => by unfold Reps at r; subst r; simp at h
  | n :: ns, c :: ds, vs, h, r => by
    obtain ⟨v, ws, rfl, r1, rs⟩ := r.of_cons
    unfold MP.putA
    by_cases z : n = f
    · rw [if_pos z, if_pos z]; exact Reps.cons rd rs
    · rw [if_neg z, if_neg z]; exact Reps.cons r1 (Reps.putA rd (by simpa using h) rs)
def sPutF (cs : List Nat) (f : Str) (fv fo : Fm → Out Opn) : Fm → OutS := fun fr => (fv fr).toS fun p fr1 => match frz fr1 p with
  | some (e, fr2) => (fo fr2).toS fun q fr3 => match q with
    | .sl k => match slO fr3 k with
      | some o => match o with
        | .ins c ns ds => if c ∈ cs ∧ ns.length < 1000 then .nx (setO fr3 k (.ins c (putN ns f) (MP.putA ns ds f e))) else .bad
        | _ => .bad
      | none => .bad
    | _ => .bad
  | none => .bad
theorem ss_putF {o value : Expr} {f : Str} {fv fo : Fm → Out Opn} {tpos : Pos} {cs : List Nat} (hK : X.K = G.K) (hA : ∀ c ∈ cs, Cls G.K (G.cl c) ∧ NoAttr G.K (G.cl c) f) (hv : SE X G B W value fv) (ho : SE X G B W o fo)
    (hs : swapsWith value (some (.Attribute o f tpos)) pos.line X.env = pure false := by rfl) : SS X G B W (.Assign [.Attribute o f tpos] value pos) (sPutF cs f fv fo) := by
  refine PS.of (ps_fld ho hv hs) fun D σ H ⟨F, fr, I, h⟩ => ?_
  refine ⟨F, fr, I, h.head.imp fun p fr1 F1 H1 _ ⟨n1, h1⟩ v op nw => ?_⟩
  cases ef : frz fr1 p with
  | none => rw [ef] at h1; exact h1.elim
  | some q =>
    obtain ⟨e, fr2⟩ := q
    simp only [ef] at h1
    obtain ⟨F2, n2, r2, _⟩ := frz_ok n1 op nw ef
    refine ⟨F2, fr2, n2.I, (h1.later (.of n2)).head.imp fun q fr3 F3 H3 _ ⟨n3, h3⟩ x ox _ => ?_⟩
    cases q with
    | vl w => exact h3.elim
    | sl k' =>
      cases eo : slO fr3 k' with
      | none => simp [eo] at h3; exact h3.elim
      | some o =>
        simp only [eo] at h3
        cases o with
        | ins c ns ds =>
          simp only at h3
          by_cases hc : c ∈ cs ∧ ns.length < 1000
          · rw [if_pos hc] at h3
            obtain ⟨a, rfl, ro, nF, ow⟩ := n3.I.at eo ox
            obtain ⟨a1, a2⟩ := hA c hc.1
            have ro' := ro
            obtain ⟨dx, vs, q, hl, rs⟩ := ro'
            obtain ⟨e1, e2⟩ := putF_zip (f := f) (x := v) hl
            refine ⟨a, _, dx, _, rfl, q, by rw [hK]; exact a1, by rw [hK]; exact a2, by rw [List.length_zip]; have := hc.2; omega, ?_⟩
            have rv := Rep.step n3.st.toKp n2.I.ow_not e v r2
            have st : Step F3 H3 (fun b => b = a) F3 (upd H3 a (.ins (G.cl c) dx (putF f v (ns.zip vs)))) := step_wr q rfl
            refine h3 F3 _ σ (.of (n3.write eo ox st ⟨dx, _, ?_, e2, (Reps.putA rv hl rs).wr q rfl nF⟩ nF))
            rw [upd_same, e1]
          · rw [if_neg hc] at h3; exact h3.elim
        | _ => exact h3.elim
end
end MP
set_option Elab.async false
set_option linter.all false
set_option maxRecDepth 100000
set_option maxHeartbeats 400000
/-! MPG: list comprehensions of two clauses. -/
namespace MP
open PySem PySem.Spec L2
section
variable {G : Gx} {B : Bx} {σ σ0 σ1 σ2 σ' : St} {F F0 F1 F2 F' : Addr → Prop} {H H0 H1 H2 H' : Hp} {fr fr0 fr1 fr2 fr' : Fm} {W : WX} {S : Addr → Prop} {X : Cx} {pos : Pos}
theorem Kp.trans2 {F3 : Addr → Prop} {H3 : Hp} (a : Kp F H (fun b => ¬ F b) F2 H2) (b : Kp F2 H2 (fun b => ¬ F2 b) F3 H3) : Kp F H (fun b => ¬ F b) F3 H3 :=
  ⟨fun x o e n => b.keep x o (a.keep x o e n) fun z => z (a.mono x (Classical.byContradiction n)), fun x o e n => b.tups x o (a.tups x o e n) n, fun x h => b.mono x (a.mono x h)⟩
/-- as NxS, where nothing new is owned -/
structure NxT (G : Gx) (B : Bx) (F : Addr → Prop) (H : Hp) (fr : Fm) (σ : St) (F' : Addr → Prop) (H' : Hp) (fr' : Fm) (σ' : St) : Prop where
  I : SI G F' H' B fr' σ'
  st : Step F H (Ow fr σ) F' H'
  sub : ∀ a, Ow fr' σ' a → Ow fr σ a
theorem NxT.of (n : Nx G B σ F H fr F' H' fr') : NxT G B F H fr σ F' H' fr' σ := ⟨n.I, n.st, n.sub⟩
theorem NxT.nx (n : NxT G B F H fr σ F' H' fr' σ) : Nx G B σ F H fr F' H' fr' := ⟨n.I, n.st, n.sub⟩
theorem NxT.trans (a : NxT G B F H fr σ F1 H1 fr1 σ1) (b : NxT G B F1 H1 fr1 σ1 F2 H2 fr2 σ2) : NxT G B F H fr σ F2 H2 fr2 σ2 := ⟨b.I, a.st.trans b.st fun x h => .inl (a.sub x h), fun x h => a.sub x (b.sub x h)⟩
theorem lc_turnS {D0 : Addr} {tg : D → Fm → Option Fm} {tst : Fm → Out Bool} {el : Fm → Out Opn} {vs is : List Nat} {acc : List D} {d : D} {σw : St} {tt : TT} {te : TE} {g : TG} {x : V} {Nx' : Hp → Prop} {more : List D → Fm → Prop}
    (his : ∀ i ∈ is, i ∈ vs) (hg : ∀ v σ H Q, tG G B is tg v σ H Q → g v σ H Q) (htt : ∀ σ H Q, tT G B W0 tst σ H Q → tt σ H Q) (hte : ∀ σ H Q, tE G B W0 el σ H Q → te σ H Q)
    (hw : L2.wipe σw vs = σw) (n0 : NxT G B F0 H0 fr0 σ0 F H fr σw) (hD : H0 D0 = none) (rd : Rep G F H d x) (fl : Fill G F H fr σw D0 acc)
    (ok : ∃ fr1 b fr2, tg d fr = some fr1 ∧ tst fr1 = .ok b fr2 ∧ ((b = false ∧ noBor fr2 vs = true ∧ more acc (wipeF fr2 vs)) ∨ (b = true ∧ ∃ p fr3 e fr4, el fr2 = .ok p fr3 ∧ frz fr3 p = some (e, fr4) ∧ acc.length < sizeLine ∧ noBor fr4 vs = true ∧ more (acc ++ [e]) (wipeF fr4 vs))))
    (nx : ∀ F' H' fr' acc', NxT G B F0 H0 fr0 σ0 F' H' fr' σw → Fill G F' H' fr' σw D0 acc' → Kp F H (fun b => ¬ F b) F' H' → more acc' fr' → Nx' H') :
    g x σw H fun σ2 H2 => L2.wipe σ2 vs = L2.wipe σw vs ∧ tt σ2 H2 fun b H3 =>
      if b = true then te σ2 H3 fun y H4 => ∃ acc, H4 D0 = some (.lst acc) ∧ acc.length < sizeLine ∧ Nx' (upd H4 D0 (.lst (acc ++ [y]))) else Nx' H3 := by
  obtain ⟨fr1, b, fr2, eg, et, h⟩ := ok
  refine hg _ _ _ _ ⟨F, fr, d, n0.I, rd, fr1, eg, fun σ2 n1 => ⟨n1.so vs his, ?_⟩⟩
  have ew : L2.wipe σ2 vs = σw := (n1.so vs his).trans hw
  have back : ∀ {F' H' fr'}, SI G F' H' B fr' σ2 → Step F H (fun a => Ow fr1 σ2 a ∨ a = D0) F' H' → (∀ a, Ow fr' σ2 a → Ow fr1 σ2 a) → noBor fr' vs = true → NxT G B F0 H0 fr0 σ0 F' H' (wipeF fr' vs) σw := fun {F' H' fr'} I st sub hb => by
    have I' := I.wipe (vs := vs) hb
    rw [ew] at I'
    refine ⟨I', n0.st.trans st fun a z => ?_, fun a z => n0.sub a (n1.sub a (sub a ?_))⟩
    · rcases z with z | z
      · exact .inl (n0.sub a (n1.sub a z))
      · exact .inr (z ▸ hD)
    · rw [← ew] at z
      exact ow_wipe z
  have kpx : ∀ {F' H'}, Step F H (fun a => Ow fr1 σ2 a ∨ a = D0) F' H' → Kp F H (fun b => ¬ F b) F' H' := fun {F' H'} st =>
    ⟨fun b o e nn => st.keep b o e fun z => z.elim (n1.I.ow_not b (Classical.byContradiction nn)) fun q => fl.nf (q ▸ Classical.byContradiction nn), st.tups, st.mono⟩
  refine htt _ _ _ ⟨F, fr1, n1.I, ?_⟩
  rw [et]
  intro F3 H3 n3
  have fl1 : Fill G F H fr1 σ2 D0 acc := ⟨fl.at_, fl.nf, fun z => fl.no (n1.sub _ z)⟩
  have fl3 : Fill G F3 H3 fr2 σ2 D0 acc := fl1.step n3.st n1.I.ow_not fun a z => .inl (n3.sub a z)
  have wfill : ∀ {F' H' fr' acc'}, Fill G F' H' fr' σ2 D0 acc' → Fill G F' H' (wipeF fr' vs) σw D0 acc' := fun {F' H' fr' acc'} f => ⟨f.at_, f.nf, fun z => f.no (by rw [← ew] at z; exact ow_wipe z)⟩
  rcases h with ⟨rfl, hb, hm⟩ | ⟨rfl, p, fr3, e, fr4, ee, ef, hz, hb, hm⟩
  · have st := n3.st.wide (S' := fun a => Ow fr1 σ2 a ∨ a = D0) fun a z => .inl z
    exact (if_neg (by decide)).mpr (nx F3 H3 _ acc (back n3.I st n3.sub hb) (wfill fl3) (kpx st) hm)
  · refine (if_pos rfl).mpr (hte _ _ _ ⟨F3, fr2, n3.I, ?_⟩)
    rw [ee]
    intro F4 H4 n4 y oy ny
    obtain ⟨F5, n5, r5, up5, in5, sub5⟩ := frz_ok n4 oy ny ef
    have fl4 : Fill G F4 H4 fr3 σ2 D0 acc := fl3.step n4.st n3.I.ow_not fun a z => .inl (n4.sub a z)
    have fl5 : Fill G F5 H4 fr4 σ2 D0 acc := by
      obtain ⟨⟨ws, e1, r1⟩, nf, no⟩ := fl4
      refine ⟨⟨ws, e1, Reps.step (S := fun _ => False) (kp_up up5) (fun _ _ z => z) _ _ r1⟩, fun f => ?_, fun z => no (sub5 _ z)⟩
      rcases in5 D0 f with y | y | ⟨o, z1, z2⟩
      · exact nf y
      · exact no y
      · subst z1
        have := ny D0 z2
        obtain ⟨⟨ws, e3, _⟩, _, _⟩ := fl3
        rw [e3] at this
        cases this
    obtain ⟨⟨ws, e1, r1⟩, nf, no⟩ := fl5
    refine ⟨ws, e1, by rw [← r1.len]; exact hz, ?_⟩
    have st : Step F5 H4 (fun b => b = D0) F5 (upd H4 D0 (.lst (ws ++ [y]))) := step_wr e1 rfl
    have dj : ∀ b, F5 b → ¬ b = D0 := fun b f z => nf (z ▸ f)
    have I6 : SI G F5 (upd H4 D0 (.lst (ws ++ [y]))) B fr4 σ2 := n5.I.step st dj fun a z e => no (e ▸ z)
    have n35 := n3.trans n5
    have st6 : Step F H (fun a => Ow fr1 σ2 a ∨ a = D0) F5 (upd H4 D0 (.lst (ws ++ [y]))) := (n35.st.wide fun a z => .inl z).trans st fun a z => .inl (.inr z)
    refine nx F5 _ _ (acc ++ [e]) (back I6 st6 n35.sub hb) (wfill ⟨⟨_, upd_same, Reps.step st.toKp dj _ _ (Reps.append r1 (Reps.cons r5 Reps.nil))⟩, nf, no⟩) (kpx st6) hm
/-- two clauses -/
def lc2L (tg : D → Fm → Option Fm) (tst : Fm → Out Bool) (fi1 : Fm → Out (List D)) (tg1 : D → Fm → Option Fm) (tst1 : Fm → Out Bool) (el : Fm → Out Opn) (vs vs1 : List Nat) : List D → List D → Fm → Out (List D)
  | [], acc, fr => .ok acc fr
  | d :: ds, acc, fr => match tg d fr with
    | none => .bad
    | some fr1 => match tst fr1 with
      | .ok b fr2 => match b with
        | true => match fi1 fr2 with
          | .ok es fr3 => if noBor fr3 vs1 = true then match lcL tg1 tst1 el vs1 es acc (wipeF fr3 vs1) with
            | .ok acc' fr4 => if noBor fr4 vs = true then lc2L tg tst fi1 tg1 tst1 el vs vs1 ds acc' (wipeF fr4 vs) else .bad
            | _ => .bad
            else .bad
          | _ => .bad
        | false => if noBor fr2 vs = true then lc2L tg tst fi1 tg1 tst1 el vs vs1 ds acc (wipeF fr2 vs) else .bad
      | _ => .bad
def sLc2 (fi : Fm → Out (List D)) (tg : D → Fm → Option Fm) (tst : Fm → Out Bool) (fi1 : Fm → Out (List D)) (tg1 : D → Fm → Option Fm) (tst1 : Fm → Out Bool) (el : Fm → Out Opn) (vs vs1 : List Nat) : Fm → Out Opn := fun fr => (fi fr).bind fun ds fr1 =>
  if noBor fr1 vs = true then (lc2L tg tst fi1 tg1 tst1 el vs vs1 ds [] (wipeF fr1 vs)).bind fun acc fr2 => .ok (.vl (.own (.lst acc))) (restF vs fr1 0 fr2) else .bad
theorem lcL_noexc {tg : D → Fm → Option Fm} {tst : Fm → Out Bool} {el : Fm → Out Opn} {vs : List Nat} {x : Xc} {fr2 : Fm} : ∀ (ds acc : List D) (fr : Fm), lcL tg tst el vs ds acc fr ≠ .exc x fr2 := by
  intro ds
  induction ds with
  | nil => intro acc fr z; simp [lcL] at z
  | cons d ds ih =>
    intro acc fr z
    unfold lcL at z
    split at z
    · cases z
    · split at z
      · split at z
        · split at z
          · split at z
            · split at z
              · exact ih _ _ z
              · cases z
            · cases z
          · cases z
        · split at z
          · exact ih _ _ z
          · cases z
      · cases z
theorem lc2L_ok {tg : D → Fm → Option Fm} {tst : Fm → Out Bool} {fi1 : Fm → Out (List D)} {tg1 : D → Fm → Option Fm} {tst1 : Fm → Out Bool} {el : Fm → Out Opn} {vs vs1 : List Nat} {d : D} {ds acc : List D} {P : Out (List D) → Prop} (hbad : ¬ P .bad) (h : P (lc2L tg tst fi1 tg1 tst1 el vs vs1 (d :: ds) acc fr)) :
    ∃ fr1 b fr2, tg d fr = some fr1 ∧ tst fr1 = .ok b fr2 ∧ ((b = false ∧ noBor fr2 vs = true ∧ P (lc2L tg tst fi1 tg1 tst1 el vs vs1 ds acc (wipeF fr2 vs))) ∨
      (b = true ∧ ∃ es fr3, fi1 fr2 = .ok es fr3 ∧ noBor fr3 vs1 = true ∧ ∃ acc' fr4, lcL tg1 tst1 el vs1 es acc (wipeF fr3 vs1) = .ok acc' fr4 ∧ noBor fr4 vs = true ∧ P (lc2L tg tst fi1 tg1 tst1 el vs vs1 ds acc' (wipeF fr4 vs)))) := by
  unfold lc2L at h
  cases eg : tg d fr with
  | none => rw [eg] at h; exact absurd h hbad
  | some fr1 =>
    simp only [eg] at h
    cases et : tst fr1 with
    | bad => rw [et] at h; exact absurd h hbad
    | exc y fr2 => simp only [et] at h; exact absurd h hbad
    | ok b fr2 =>
      simp only [et] at h
      cases b with
      | false =>
        simp only at h
        cases hb : noBor fr2 vs with
        | false => simp only [hb] at h; exact absurd h hbad
        | true =>
          simp only [hb, if_true] at h
          exact ⟨fr1, false, fr2, rfl, et, .inl ⟨rfl, hb, h⟩⟩
      | true =>
        simp only at h
        cases ee : fi1 fr2 with
        | bad => simp only [ee] at h; exact absurd h hbad
        | exc y fr3 => simp only [ee] at h; exact absurd h hbad
        | ok es fr3 =>
          simp only [ee] at h
          cases hb1 : noBor fr3 vs1 with
          | false => simp only [hb1] at h; exact absurd h hbad
          | true =>
            simp only [hb1, if_true] at h
            cases el' : lcL tg1 tst1 el vs1 es acc (wipeF fr3 vs1) with
            | bad => simp only [el'] at h; exact absurd h hbad
            | exc y fr4 => simp only [el'] at h; exact absurd h hbad
            | ok acc' fr4 =>
              simp only [el'] at h
              cases hb : noBor fr4 vs with
              | false => simp only [hb] at h; exact absurd h hbad
              | true =>
                simp only [hb, if_true] at h
                exact ⟨fr1, true, fr2, rfl, et, .inr ⟨rfl, es, fr3, ee, hb1, acc', fr4, el', hb, h⟩⟩
theorem lc2L_noexc {tg : D → Fm → Option Fm} {tst : Fm → Out Bool} {fi1 : Fm → Out (List D)} {tg1 : D → Fm → Option Fm} {tst1 : Fm → Out Bool} {el : Fm → Out Opn} {vs vs1 : List Nat} {x : Xc} {fr2 : Fm} : ∀ (ds acc : List D) (fr : Fm), lc2L tg tst fi1 tg1 tst1 el vs vs1 ds acc fr ≠ .exc x fr2 := by
  intro ds
  induction ds with
  | nil => intro acc fr z; simp [lc2L] at z
  | cons d ds ih =>
    intro acc fr z
    have hb : ¬ (fun o : Out (List D) => o = .exc x fr2) .bad := fun z => nomatch z
    obtain ⟨fr1, b, fr2', _, _, q⟩ := lc2L_ok (P := fun o => o = .exc x fr2) hb z
    rcases q with ⟨_, _, q⟩ | ⟨_, es, fr3, _, _, acc', fr4, _, _, q⟩
    · exact ih _ _ q
    · exact ih _ _ q
theorem wipe_sub {vs vs1 : List Nat} (h : ∀ i ∈ vs1, i ∈ vs) : L2.wipe (L2.wipe σ vs1) vs = L2.wipe σ vs := by
  apply List.ext_getElem?
  intro j
  rw [wipe_get, wipe_get, wipe_get]
  by_cases m : j ∈ vs
  · simp only [m, if_true]
    by_cases m1 : j ∈ vs1
    · simp only [m1, if_true]; cases σ[j]? <;> rfl
    · simp only [m1, if_false]
  · have m1 : j ∉ vs1 := fun z => m (h j z)
    simp only [m, m1, if_false]
theorem lc2_ok {fi fi1 : Fm → Out (List D)} {tg tg1 : D → Fm → Option Fm} {tst tst1 : Fm → Out Bool} {el : Fm → Out Opn} {vs vs1 is is1 : List Nat} {wi wi1 : TI} {g g1 : TG} {tt tt1 : TT} {te : TE} {Q : VK} (his : ∀ i ∈ is, i ∈ vs) (his1 : ∀ i ∈ is1, i ∈ vs1) (hv : ∀ i ∈ vs1, i ∈ vs)
    (hi : ∀ σ H R, tI G B W fi σ H R → wi σ H R) (hg : ∀ v σ H Q, tG G B is tg v σ H Q → g v σ H Q) (htt : ∀ σ H Q, tT G B W0 tst σ H Q → tt σ H Q) (hi1 : ∀ σ H R, tI G B W0 fi1 σ H R → wi1 σ H R) (hg1 : ∀ v σ H Q, tG G B is1 tg1 v σ H Q → g1 v σ H Q) (htt1 : ∀ σ H Q, tT G B W0 tst1 σ H Q → tt1 σ H Q) (hte : ∀ σ H Q, tE G B W0 el σ H Q → te σ H Q)
    (h : tE G B W (sLc2 fi tg tst fi1 tg1 tst1 el vs vs1) σ H Q) : tLc2 wi g tt wi1 g1 tt1 te vs vs1 σ H Q := by
  obtain ⟨F, fr, I, h⟩ := h
  refine hi _ _ _ ⟨F, fr, I, (h.next (.refl I)).imp fun ds fr1 F1 H1 _ ⟨n1, _, h1⟩ J jo => ?_⟩
  cases hb : noBor fr1 vs with
  | false => simp only [hb] at h1; exact h1.elim
  | true =>
    simp only [hb, if_true] at h1
    intro D0 hD
    have Iw := n1.I.wipe (vs := vs) hb
    let P : Out (List D) → Prop := fun o => ∃ acc fr2, o = .ok acc fr2 ∧ Aft G B W σ F H fr (.ok (.vl (.own (.lst acc))) (restF vs fr1 0 fr2) : Out Opn) (EPost G σ H Q)
    have hP : P (lc2L tg tst fi1 tg1 tst1 el vs vs1 ds [] (wipeF fr1 vs)) := by
      cases e : lc2L tg tst fi1 tg1 tst1 el vs vs1 ds [] (wipeF fr1 vs) with
      | bad => rw [e] at h1; exact h1.elim
      | ok acc fr2 => rw [e] at h1; exact ⟨acc, fr2, rfl, h1⟩
      | exc x fr2 => exact absurd e (lc2L_noexc _ _ _)
    have hbad : ¬ P .bad := fun ⟨_, _, z, _⟩ => nomatch z
    have nD : Nx G B (L2.wipe σ vs) F1 H1 (wipeF fr1 vs) F1 (upd H1 D0 (.lst [])) (wipeF fr1 vs) := (Nx.refl Iw).quiet (step_new hD)
    have fD : Fill G F1 (upd H1 D0 (.lst [])) (wipeF fr1 vs) (L2.wipe σ vs) D0 [] := ⟨⟨[], upd_same, Reps.nil⟩, fun f => n1.I.fl D0 f hD, fun z => n1.I.ow_live (ow_wipe z) hD⟩
    refine ⟨fun i m H2 => ∃ rest acc F2 fr2, m = rest.length ∧ i + rest.length = ds.length ∧ ds.drop i = rest ∧ Nx G B (L2.wipe σ vs) F1 H1 (wipeF fr1 vs) F2 H2 fr2 ∧ Fill G F2 H2 fr2 (L2.wipe σ vs) D0 acc ∧ P (lc2L tg tst fi1 tg1 tst1 el vs vs1 rest acc fr2),
      ⟨ds.length, ds, [], F1, wipeF fr1 vs, rfl, by simp, rfl, nD, fD, hP⟩, ?_⟩
    rintro i m H2 ⟨rest, acc, F2, fr2, rfl, hl, hd, n2, f2, p2⟩
    obtain ⟨j1, j2⟩ := jo F2 H2 i (n2.kp Iw.ow_not)
    cases rest with
    | nil =>
      refine .inl ⟨j2 (by simpa using hl), ?_⟩
      obtain ⟨acc', fr3, e, k⟩ := p2
      unfold lc2L at e
      cases e
      have nU := Nx.unwipe n1.I hb n2
      have nAll := n1.trans nU
      obtain ⟨⟨ws, e1, r1⟩, nf, no⟩ := f2
      have hn : H D0 = none := n1.st.free hD
      refine k F2 H2 nAll (.ref D0) ⟨D0, rfl, ⟨ws, e1, r1⟩, nf, fun z => ?_⟩ (fun a e => by cases e; exact hn)
      exact n1.I.ow_live (nU.sub D0 z) hD
    | cons d rest =>
      have hd0 : ds[i]? = some d := by
        have := congrArg (fun l => l[0]?) hd
        simpa using this
      obtain ⟨go, yl⟩ := j1 d hd0
      -- the outer turn's end
      refine .inr ⟨go, fun H3 => ∃ acc F3 fr3, Nx G B (L2.wipe σ vs) F1 H1 (wipeF fr1 vs) F3 H3 fr3 ∧ Fill G F3 H3 fr3 (L2.wipe σ vs) D0 acc ∧ P (lc2L tg tst fi1 tg1 tst1 el vs vs1 rest acc fr3), fun H3 ⟨acc, F3, fr3, n3, f3, p3⟩ => ?_, fun x H3 hy => ?_⟩
      · refine ⟨rest.length, Nat.lt_succ_self _, rest, acc, F3, fr3, rfl, by simp at hl; omega, ?_, n3, f3, p3⟩
        have := congrArg List.tail hd
        rw [List.tail_drop] at this
        simpa using this
      · obtain ⟨F3, st, rd⟩ := yl x H3 hy
        have n3 := n2.quiet st
        have f3 : Fill G F3 H3 fr2 (L2.wipe σ vs) D0 acc := f2.step (st.wide fun _ z => z.elim) n2.I.ow_not fun a z => .inl z
        obtain ⟨fa, b, fb, eg, et, hh⟩ := lc2L_ok hbad p2
        refine hg _ _ _ _ ⟨F3, fr2, d, n3.I, rd, fa, eg, fun σ2 m1 => ⟨(m1.so vs his).trans wipe_wipe, ?_⟩⟩
        have ew : L2.wipe σ2 vs = L2.wipe σ vs := (m1.so vs his).trans wipe_wipe
        refine htt _ _ _ ⟨F3, fa, m1.I, ?_⟩
        rw [et]
        intro F4 H4 n4
        -- from the base to the state behind the target's store
        have bs : NxT G B F1 H1 (wipeF fr1 vs) (L2.wipe σ vs) F3 H3 fa σ2 := ⟨m1.I, n3.st, fun a z => n3.sub a (m1.sub a z)⟩
        have fla : Fill G F3 H3 fa σ2 D0 acc := ⟨f3.at_, f3.nf, fun z => f3.no (m1.sub _ z)⟩
        have fl4 : Fill G F4 H4 fb σ2 D0 acc := fla.step n4.st m1.I.ow_not fun a z => .inl (n4.sub a z)
        have b4 := bs.trans (.of n4)
        have wback : ∀ {σ' : St} {F' H' fr' acc'}, L2.wipe σ' vs = L2.wipe σ vs → NxT G B F1 H1 (wipeF fr1 vs) (L2.wipe σ vs) F' H' fr' σ' → Fill G F' H' fr' σ' D0 acc' → noBor fr' vs = true →
            Nx G B (L2.wipe σ vs) F1 H1 (wipeF fr1 vs) F' H' (wipeF fr' vs) ∧ Fill G F' H' (wipeF fr' vs) (L2.wipe σ vs) D0 acc' := fun {σ' F' H' fr' acc'} es n f hb' => by
          have I' := n.I.wipe (vs := vs) hb'
          rw [es] at I'
          refine ⟨⟨I', n.st, fun a z => n.sub a (ow_wipe (vs := vs) ?_)⟩, f.at_, f.nf, fun z => f.no (ow_wipe (vs := vs) ?_)⟩
          · rw [es]; exact z
          · rw [es]; exact z
        rcases hh with ⟨rfl, hbn, hm⟩ | ⟨rfl, es, fc, ei, hb1, acc', fd, el', hbd, hm⟩
        · obtain ⟨w1, w2⟩ := wback ew b4 fl4 hbn
          exact (if_neg (by decide)).mpr ⟨acc, F4, _, w1, w2, hm⟩
        · refine (if_pos rfl).mpr (hi1 _ _ _ ⟨F4, fb, n4.I, ?_⟩)
          rw [ei]
          intro F5 H5 n5 J1 jo1
          have fl5 : Fill G F5 H5 fc σ2 D0 acc := fl4.step n5.st n4.I.ow_not fun a z => .inl (n5.sub a z)
          have b5 := b4.trans (.of n5)
          have I5 := n5.I.wipe (vs := vs1) hb1
          have b5w : NxT G B F1 H1 (wipeF fr1 vs) (L2.wipe σ vs) F5 H5 (wipeF fc vs1) (L2.wipe σ2 vs1) := ⟨I5, b5.st, fun a z => b5.sub a (ow_wipe z)⟩
          have f5w : Fill G F5 H5 (wipeF fc vs1) (L2.wipe σ2 vs1) D0 acc := ⟨fl5.at_, fl5.nf, fun z => fl5.no (ow_wipe z)⟩
          let P1 : Out (List D) → Prop := fun o => o = .ok acc' fd
          have hbad1 : ¬ P1 .bad := fun z => nomatch z
          refine ⟨fun j k H6 => ∃ rest1 acc1 F6 fr6, k = rest1.length ∧ j + rest1.length = es.length ∧ es.drop j = rest1 ∧ NxT G B F1 H1 (wipeF fr1 vs) (L2.wipe σ vs) F6 H6 fr6 (L2.wipe σ2 vs1) ∧ Fill G F6 H6 fr6 (L2.wipe σ2 vs1) D0 acc1 ∧ Kp F5 H5 (fun b => ¬ F5 b) F6 H6 ∧ P1 (lcL tg1 tst1 el vs1 rest1 acc1 fr6),
            ⟨es.length, es, acc, F5, wipeF fc vs1, rfl, by simp, rfl, b5w, f5w, ⟨fun _ _ e _ => e, fun _ _ e _ => e, fun _ e => e⟩, el'⟩, ?_⟩
          rintro j k H6 ⟨rest1, acc1, F6, fr6, rfl, hl1, hd1, n6, f6, k6, p6⟩
          obtain ⟨q1, q2⟩ := jo1 F6 H6 j k6
          cases rest1 with
          | nil =>
            refine .inl ⟨q2 (by simpa using hl1), ?_⟩
            have e6 : lcL tg1 tst1 el vs1 [] acc1 fr6 = .ok acc' fd := p6
            unfold lcL at e6
            cases e6
            obtain ⟨w1, w2⟩ := wback ((wipe_sub hv).trans ew) n6 f6 hbd
            exact ⟨acc', F6, _, w1, w2, hm⟩
          | cons d1 rest1 =>
            have hd10 : es[j]? = some d1 := by
              have := congrArg (fun l => l[0]?) hd1
              simpa using this
            obtain ⟨go1, yl1⟩ := q1 d1 hd10
            refine .inr ⟨go1, fun H7 => ∃ acc1 F7 fr7, NxT G B F1 H1 (wipeF fr1 vs) (L2.wipe σ vs) F7 H7 fr7 (L2.wipe σ2 vs1) ∧ Fill G F7 H7 fr7 (L2.wipe σ2 vs1) D0 acc1 ∧ Kp F5 H5 (fun b => ¬ F5 b) F7 H7 ∧ P1 (lcL tg1 tst1 el vs1 rest1 acc1 fr7), fun H7 ⟨acc1, F7, fr7, n7, f7, k7, p7⟩ => ?_, fun x1 H7 hy1 => ?_⟩
            · refine ⟨rest1.length, Nat.lt_succ_self _, rest1, acc1, F7, fr7, rfl, by simp at hl1; omega, ?_, n7, f7, k7, p7⟩
              have := congrArg List.tail hd1
              rw [List.tail_drop] at this
              simpa using this
            · obtain ⟨F7, st7, rd7⟩ := yl1 x1 H7 hy1
              have n7 := n6.trans (.of ((Nx.refl n6.I).quiet st7))
              have f7 : Fill G F7 H7 fr6 (L2.wipe σ2 vs1) D0 acc1 := f6.step (st7.wide fun _ z => z.elim) n6.I.ow_not fun a z => .inl z
              have k7 : Kp F5 H5 (fun b => ¬ F5 b) F7 H7 := k6.trans2 ⟨fun b o e _ => st7.keep b o e fun z => z, st7.tups, st7.mono⟩
              have key := lc_turnS (Nx' := fun H8 => ∃ acc1 F8 fr8, NxT G B F1 H1 (wipeF fr1 vs) (L2.wipe σ vs) F8 H8 fr8 (L2.wipe σ2 vs1) ∧ Fill G F8 H8 fr8 (L2.wipe σ2 vs1) D0 acc1 ∧ Kp F5 H5 (fun b => ¬ F5 b) F8 H8 ∧ P1 (lcL tg1 tst1 el vs1 rest1 acc1 fr8))
                (more := fun acc fr => P1 (lcL tg1 tst1 el vs1 rest1 acc fr)) his1 hg1 htt1 hte wipe_wipe n7 hD rd7 f7 (lcL_ok hbad1 p6) fun F' H' fr' acc'' n' f' k' m' => ⟨acc'', F', fr', n', f', k7.trans2 k', m'⟩
              rw [wipe_wipe] at key
              exact key
theorem s_lc2 {elt tg iter tg1 iter1 : Expr} {ifs ifs1 : List Expr} {scope : Scope} {own : List (Str × Nat)} (vs1 : List Nat) {is is1 : List Nat} {fi fi1 : Fm → Out (List D)} {ft ft1 : D → Fm → Option Fm} {fs fs1 : Fm → Out Bool} {fe : Fm → Out Opn} (hc : X.calm = true) (hN : X.N.Nodup) (hi : SIt X G B W tg iter fi) (ok : BlkOk X.N X.env.scope scope own)
    (hg : ∀ (s : Shared) (H : Hp) (C : Addr) (cl : List (Str × Addr)) (fp : List Addr), SG (X.blk s H scope (compEnvC scope cl C X.env) fp) G B is tg ft)
    (ht : ∀ (s : Shared) (H : Hp) (C : Addr) (cl : List (Str × Addr)) (fp : List Addr), STs (X.blk s H scope (compEnvC scope cl C X.env) fp) G B W0 ifs fs)
    (hi1 : ∀ (s : Shared) (H : Hp) (C : Addr) (cl : List (Str × Addr)) (fp : List Addr), SIt (X.blk s H scope (compEnvC scope cl C X.env) fp) G B W0 tg1 iter1 fi1)
    (hg1 : ∀ (s : Shared) (H : Hp) (C : Addr) (cl : List (Str × Addr)) (fp : List Addr), SG (X.blk s H scope (compEnvC scope cl C X.env) fp) G B is1 tg1 ft1)
    (ht1 : ∀ (s : Shared) (H : Hp) (C : Addr) (cl : List (Str × Addr)) (fp : List Addr), STs (X.blk s H scope (compEnvC scope cl C X.env) fp) G B W0 ifs1 fs1)
    (he : ∀ (s : Shared) (H : Hp) (C : Addr) (cl : List (Str × Addr)) (fp : List Addr), SE (X.blk s H scope (compEnvC scope cl C X.env) fp) G B W0 elt fe)
    (his : ∀ i ∈ is, i ∈ own.map (·.2) := by decide) (his1 : ∀ i ∈ is1, i ∈ vs1 := by decide) (hv : ∀ i ∈ vs1, i ∈ own.map (·.2) := by decide) (hs : ∀ x, foldedSetIterable iter X.env x = pure x := by intro _; rfl) (hs1 : ∀ env x, foldedSetIterable iter1 env x = pure x := by intro _ _; rfl) :
    SE X G B W (.ListComp elt [⟨tg, iter, ifs, 0⟩, ⟨tg1, iter1, ifs1, 0⟩] scope pos) (sLc2 fi ft fs fi1 ft1 fs1 fe (own.map (·.2)) vs1) :=
  PE.of (pe_lc2 hc hN hi ok hv hg ht hi1 hg1 ht1 he hs hs1) fun σ H Q h => lc2_ok his his1 hv (fun _ _ _ z => z) (fun _ _ _ _ z => z) (fun _ _ _ z => z) (fun _ _ _ z => z) (fun _ _ _ _ z => z) (fun _ _ _ z => z) (fun _ _ _ z => z) h
end
end MP
set_option Elab.async false
set_option linter.all false
set_option maxRecDepth 100000
set_option maxHeartbeats 400000
/-! MPH: the words that the printed derivations use. -/
namespace MP
open PySem PySem.Spec L2
section
variable {G : Gx} {B : Bx} {W : WX} {X : Cx} {pos : Pos}
theorem s_gintE {x : Str} {i : Int} (hm : ∃ t, X.mg x = some (.int i t)) (hg : Gl X x) (hd : (x == ("__debug__" : Str)) = false := by decide) : SE X G B W (.Name x pos) (sC (.int i)) := by
  obtain ⟨t, hm⟩ := hm
  exact s_gint hg hm hd
theorem s_gstrE {x : Str} {i : Str} (hm : ∃ t, X.mg x = some (.str i t)) (hg : Gl X x) (hd : (x == ("__debug__" : Str)) = false := by decide) : SE X G B W (.Name x pos) (sC (.str i)) := by
  obtain ⟨t, hm⟩ := hm
  exact s_gstr hg hm hd
theorem s_gclsE {x : Str} {c : Nat} (hm : X.mg x = some (.ref (G.cl c))) (hg : Gl X x) (hd : (x == ("__debug__" : Str)) = false := by decide) : SE X G B W (.Name x pos) (sC (.cls c)) := s_gcls hg hm hd
/-- a def that may be called by its name -/
structure Cal (P : Program) (w : World) (G : Gx) (mg : Str → Option Value) (base : Heap) (x : Str) (k : Nat) (R : List Val → Rs) : Prop where
  ex : ∃ f fd ps, FnOk P w G.K mg base (L2.CX P w) k f fd ps (spF G R) ∧ mg x = some (.ref f) ∧ PySem.W.keepIn G.K (.ref f) = true ∧ Binds G.K fd ps []
/-- a class whose objects are made by its own __init__ -/
structure CalM (P : Program) (w : World) (G : Gx) (mg : Str → Option Value) (base : Heap) (x : Str) (c : Nat) (k : Nat) (R : List Val → Rs) : Prop where
  ex : ∃ f fd ps, FnOk P w G.K mg base (L2.CX P w) k f fd ps (spF G R) ∧ mg x = some (.ref (G.cl c)) ∧ Mk G.K (G.cl c) f ∧ Binds G.K fd ps []
theorem s_callC {k j : Nat} {x : Str} {p : Pos} {e : Expr} {es : List Expr} {R : List Val → Rs} {fa : Fm → Out (List Opn)} (C : Cal X.prog X.w G X.mg X.base x k R) (tk : Takes X W) (hr : Room j X.A) (hj : k ≤ j) (hK : X.K = G.K) (hg : Gl X x)
    (ha : SA X G B W (e :: es) fa) (hdb : (x == ("__debug__" : Str)) = false := by decide) (he : starEach (e :: es) X.env = (false, eval e X.env) :: starEach es X.env := by rfl) (hpl : (backTo pos (starEach es X.env)).any (·.1) = false := by rfl) :
    SE X G B W (.Call (.Name x p) (e :: es) [] pos) (sCall R fa) := by
  obtain ⟨f, fd, ps, h1, h2, h3, h4⟩ := C.ex
  rw [← hK] at h1 h3 h4
  exact s_call tk h1 (hr.mono hj) hg h2 h3 h4 ha hdb he hpl
theorem s_makeC {k j c : Nat} {x : Str} {p : Pos} {e : Expr} {es : List Expr} {R : List Val → Rs} {fa : Fm → Out (List Opn)} (C : CalM X.prog X.w G X.mg X.base x c k R) (tk : Takes X W) (hr : Room j X.A) (hj : k + 1 ≤ j) (hK : X.K = G.K) (hg : Gl X x)
    (ha : SA X G B W (e :: es) fa) (hdb : (x == ("__debug__" : Str)) = false := by decide) (he : starEach (e :: es) X.env = (false, eval e X.env) :: starEach es X.env := by rfl) (hpl : (backTo pos (starEach es X.env)).any (·.1) = false := by rfl) :
    SE X G B W (.Call (.Name x p) (e :: es) [] pos) (sMake c R fa) := by
  obtain ⟨f, fd, ps, h1, h2, h3, h4⟩ := C.ex
  rw [← hK] at h1 h3 h4
  exact s_make tk h3 h1 (hr.mono hj) hg h2 h4 ha hdb he hpl
/-- an own == -/
structure CalE (P : Program) (w : World) (G : Gx) (mg : Str → Option Value) (base : Heap) (cs : List Nat) (c : Nat) (k : Nat) (R : List Val → Rs) : Prop where
  ex : ∃ f fd ps, FnOk P w G.K mg base (L2.CX P w) k f fd ps (spF G R) ∧ Binds G.K fd ps [] ∧ PySem.W.findIn G.K (.ref (G.cl c)) "__eq__" = some (some (.ref f)) ∧ PySem.W.isFn G.K (.ref f) = true
  nf : ∀ n ∈ (["NoneType", "int", "bool", "str", "tuple", "list", "dict"] : List String), PySem.W.notFirst G.K (G.cl c) (.type n) = true
  nc : ∀ d ∈ cs, PySem.W.notFirst G.K (G.cl c) (.ref (G.cl d)) = true
  ne : PySem.W.findIn G.K (.ref (G.cl c)) "__ne__" = some (some (.builtin "object.__ne__"))
theorem l_eqC {cs : List Nat} {c k j : Nat} {R : List Val → Rs} (C : CalE X.prog X.w G X.mg X.base cs c k R) (ck : Clk G cs) (hr : Room j X.A) (hj : k + 1 ≤ j) (hK : X.K = G.K) : Lift2 X G (compareOp .Eq) (eqOV cs R c) := by
  obtain ⟨f, fd, ps, h1, h2, h3, h4⟩ := C.ex
  have nf := C.nf
  have nc := C.nc
  rw [← hK] at h1 h2 h3 h4 nf nc
  exact l_eqO hK ck ⟨h1, h2, h3, h4, nf, nc⟩ (hr.mono (by omega))
theorem l_neC {cs : List Nat} {c k j : Nat} {R : List Val → Rs} (C : CalE X.prog X.w G X.mg X.base cs c k R) (ck : Clk G cs) (hr : Room j X.A) (hj : k + 1 ≤ j) (hK : X.K = G.K) (hc : c ∈ cs := by decide) : Lift2 X G (compareOp .NotEq) (neOV cs R c) := by
  obtain ⟨f, fd, ps, h1, h2, h3, h4⟩ := C.ex
  have nf := C.nf
  have nc := C.nc
  have ne := C.ne
  rw [← hK] at h1 h2 h3 h4 nf nc ne
  exact l_neO hK ck ⟨h1, h2, h3, h4, nf, nc⟩ ne hc (hr.mono hj)
/-- an own __len__ -/
structure CalL (P : Program) (w : World) (G : Gx) (mg : Str → Option Value) (base : Heap) (c : Nat) (nm : Str) (k : Nat) (R : List Val → Rs) : Prop where
  ex : ∃ f fd ps, FnOk P w G.K mg base (L2.CX P w) k f fd ps (spF G R) ∧ Binds G.K fd ps [] ∧ PySem.W.findIn G.K (.ref (G.cl c)) nm = some (some (.ref f)) ∧ PySem.W.isFn G.K (.ref f) = true
theorem l_lenC {c k j : Nat} {R : List Val → Rs} (C : CalL X.prog X.w G X.mg X.base c "__len__" k R) (hr : Room j X.A) (hj : k + 1 ≤ j) (hK : X.K = G.K) : LiftC X G (.builtin "len") (gOne (lenOG R c)) := by
  obtain ⟨f, fd, ps, h1, h2, h3, h4⟩ := C.ex
  rw [← hK] at h1 h2 h3 h4
  exact l_lenO ⟨h1, h2, h3, h4⟩ (hr.mono hj)
/-- what is handed on is given up -/
def sFz (f : Fm → Out Opn) : Fm → Out Opn := fun fr => (f fr).bind fun p fr1 => match frz fr1 p with
  | some (d, fr2) => .ok (.vl (.fz d)) fr2
  | none => .bad
theorem s_fz {e : Expr} {f : Fm → Out Opn} (h : SE X G B W e f) : SE X G B W e (sFz f) := PE.of h fun σ H Q ⟨F, fr, I, h⟩ => ⟨F, fr, I, h.bind0.imp fun p fr1 F1 H1 _ ⟨n1, h1⟩ v op nw => by
  cases ef : frz fr1 p with
  | none => rw [ef] at h1; exact h1.elim
  | some q =>
    obtain ⟨d, fr2⟩ := q
    simp only [ef] at h1
    obtain ⟨F2, n2, r2, _⟩ := frz_ok n1 op nw ef
    exact h1 F2 H1 n2 v r2 trivial⟩
theorem tk0 : Takes X W0 := fun _ _ x => by
  obtain ⟨_, _, _, _, _, _, _, _, _, _, _, _, _, _, _, _, z⟩ := x
  exact z.elim
/-- what is not reached -/
def sBad : Fm → OutS := fun _ => .bad
theorem ss_bad {st : Stmt} : SS X G B W st sBad := ⟨fun pins s σ H D I ⟨F, fr, i, h⟩ => h.elim⟩
end
theorem bt_isinstance : bootBuiltins "isinstance" = some (.builtin "isinstance") := by decide +kernel
theorem bt_len : bootBuiltins "len" = some (.builtin "len") := by decide +kernel
theorem bt_all : bootBuiltins "all" = some (.builtin "all") := by decide +kernel
theorem bt_any : bootBuiltins "any" = some (.builtin "any") := by decide +kernel
theorem bt_abs : bootBuiltins "abs" = some (.builtin "abs") := by decide +kernel
theorem bt_min : bootBuiltins "min" = some (.builtin "min") := by decide +kernel
theorem bt_max : bootBuiltins "max" = some (.builtin "max") := by decide +kernel
theorem bt_sorted : bootBuiltins "sorted" = some (.builtin "sorted") := by decide +kernel
theorem bt_int : bootBuiltins "int" = some (.type "int") := by decide +kernel
theorem bt_str : bootBuiltins "str" = some (.type "str") := by decide +kernel
theorem bt_bool : bootBuiltins "bool" = some (.type "bool") := by decide +kernel
theorem bt_tuple : bootBuiltins "tuple" = some (.type "tuple") := by decide +kernel
theorem bt_list : bootBuiltins "list" = some (.type "list") := by decide +kernel
theorem bt_dict : bootBuiltins "dict" = some (.type "dict") := by decide +kernel
end MP
set_option Elab.async false
set_option linter.all false
set_option maxRecDepth 100000
set_option maxHeartbeats 400000
/-! MPI: from the module's facts to the law's call. -/
namespace MP
open PySem PySem.Spec L2
section
variable {K : PySem.W.Frag} {G : Gx}
/-- the facts of one own class, as the top has made it -/
structure ClF (K : PySem.W.Frag) (C : Addr) : Prop where
  pg : PySem.W.plainGet K C Str.empty = true
  hd : PySem.W.hasDictIn K C = true
  po : PySem.W.plainOver K C = true
  sa : PySem.W.findIn K (.ref C) "__setattr__" = some (some (.builtin "object.__setattr__"))
  ha : PySem.W.findIn K (.ref C) "__class__" = some (some (.builtin "object.__class__"))
  hn : PySem.W.specialIn K (.builtin "object.__class__") "__get__" = some (some (.builtin "getset_descriptor.__get__"))
  htk : PySem.W.takesIn K (.builtin "object.__class__") = some true
  hm : PySem.W.mroIn K C (.type "object") = some true
  ty : PySem.W.typeIn K (.ref C) = some (.type "type")
  m1 : PySem.W.mroIn K C (.type "int") = some false
  m2 : PySem.W.mroIn K C (.type "bool") = some false
  m3 : PySem.W.mroIn K C (.type "str") = some false
  m4 : PySem.W.mroIn K C (.type "tuple") = some false
  m5 : PySem.W.mroIn K C (.type "list") = some false
  m6 : PySem.W.mroIn K C (.type "dict") = some false
theorem ClF.cls {C : Addr} (c : ClF K C) : Cls K C := ⟨c.pg, c.hd, c.po, c.sa⟩
theorem kit_me (K : PySem.W.Frag) (C : Addr) : PySem.W.kitOne K (.ref C) (.ref C) = some true := if_pos (beq_self_eq_true _)
theorem ClF.insC {C : Addr} (c : ClF K C) : C8.InsC K C := ⟨c.cls, c.ha, c.hn, c.htk, c.hm, kit_me K C⟩
theorem ClF.some {C : Addr} (c : ClF K C) : (PySem.W.clsIn K C).isSome = true := by
  have := c.hd
  unfold PySem.W.hasDictIn at this
  cases e : PySem.W.clsIn K C with
  | none => rw [e] at this; cases this
  | some x => rfl
theorem ClF.blt {C : Addr} (c : ClF K C) {n : String} (h : n ∈ (["int", "bool", "str", "tuple", "list", "dict"] : List String)) : PySem.W.kitOne K (.ref C) (.type n) = Option.some false := by
  have key : ∀ m : String, PySem.W.kitMeta m = true → PySem.W.mroIn K C (.type m) = Option.some false → PySem.W.kitOne K (.ref C) (.type m) = Option.some false := fun m h1 h2 => by
    unfold PySem.W.kitOne PySem.W.kitCls
    rw [if_neg (by simp)]
    simp only [h1, if_true]
    exact h2
  simp only [List.mem_cons, List.not_mem_nil, or_false] at h
  rcases h with rfl | rfl | rfl | rfl | rfl | rfl
  · exact key _ (by rfl) c.m1
  · exact key _ (by rfl) c.m2
  · exact key _ (by rfl) c.m3
  · exact key _ (by rfl) c.m4
  · exact key _ (by rfl) c.m5
  · exact key _ (by rfl) c.m6
theorem clk_one {C : Addr} (c : ClF K C) : Clk ⟨K, fun _ => C⟩ [0] where
  ins := fun d h => c.insC
  cls := fun d h => by
    show ((PySem.W.clsIn K C).isSome && PySem.W.typeIn K (.ref C) == Option.some (.type "type")) = true
    rw [c.some, c.ty]
    exact beq_self_eq_true _
  two := fun d h e h2 n => by
    simp only [List.mem_cons, List.not_mem_nil, or_false] at h h2
    exact absurd (h.trans h2.symm) n
  blt := fun d h n hn => c.blt hn
theorem nf_b (K : PySem.W.Frag) (C : Addr) {n : String} (h : n ∈ (["NoneType", "int", "bool", "str", "tuple", "list", "dict"] : List String)) : PySem.W.notFirst K C (.type n) = true := by
  simp only [List.mem_cons, List.not_mem_nil, or_false] at h
  rcases h with rfl | rfl | rfl | rfl | rfl | rfl | rfl <;> rfl
theorem nf_s (K : PySem.W.Frag) (C : Addr) : PySem.W.notFirst K C (.ref C) = true := by
  unfold PySem.W.notFirst
  rw [beq_self_eq_true]
  rfl
theorem fn_bad {P : Program} {w : World} {mg : Str → Option Value} {base : Heap} {k : Nat} {f : Addr} {fd : FuncData} {ps : List Str} : FnOk P w G.K mg base (L2.CX P w) k f fd ps (spF G fun _ => .bad) :=
  ⟨fun vs H Q E ⟨F, os, a, h⟩ => h.elim, fun A outer s H args us vs Q E hr he hb hv ⟨F, os, a, h⟩ => h.elim⟩
/-- the law's promise -/
def spLaw (K : PySem.W.Frag) : Sp := fun vs H Q _ => ∃ (a : Addr) (ns : List Int), vs = [.ref a] ∧ ((∃ o, H a = some (.frz o (.lst (ns.map V.int)))) ∨ ∀ H', SqL K H' a (ns.map V.int)) ∧ ns.length ≤ 63 ∧ ∀ H', Q (.bl true) H'
theorem law_sp {P : Program} {w : World} {mg : Str → Option Value} {base : Heap} {k : Nat} {f : Addr} {fd : FuncData} {ps : List Str} {R : List Val → Rs} (Fn : FnOk P w G.K mg base (L2.CX P w) k f fd ps (spF G R))
    (h : ∀ ns : List Int, ns.length ≤ 63 → ∃ os, R [.fz (.scr ns)] = .ret (.fz (.bl true)) os) : FnOk P w G.K mg base (L2.CX P w) k f fd ps (spLaw G.K) := Fn.imp fun vs H Q E ⟨a, ns, e, hs, hl, q⟩ => by
  subst e
  obtain ⟨os, hR⟩ := h ns hl
  refine ⟨fun _ => False, [.fz (.scr ns)], ⟨rfl, fun i o v e1 e2 => ?_, fun i j b c d e1 => ?_, fun _ z => z.elim⟩, ?_⟩
  · cases i with
    | zero =>
      simp at e1 e2
      subst e1 e2
      show Rep _ _ _ _ _
      unfold Rep
      exact ⟨a, rfl, hs⟩
    | succ i => simp at e1
  · cases i with
    | zero => simp at e1
    | succ i => simp at e1
  · rw [hR]
    intro hk F' H' u ao st vo vn
    cases rs_bl (F := F') (H := H') (G := G) vo
    exact q H'
theorem walk {l : PySem.W.OpenLaw} {k : Nat} {q : Program} {loose : List Str} {XP : (Str → Option Value) → Heap → Prop} {YP : World → Heap → Prop} {d : DefRec} {K : Params → PySem.W.Frag} (hn : l.most = some 63) (hdf : d.params.defaults = []) (hr : Room k callerA)
    (hY : ∀ (w : World) (h : Heap), YP w h → (K w.params).In h)
    (F : ∀ (w : World) (mg : Str → Option Value) (fa : Addr) (h : Heap), (K w.params).In h → h.Ns mainGlobals mg → mg d.name = some (.ref fa) →
      ∃ fd : FuncData, (∀ (s : Shared) (u : Value), BindsTo s fd ⟨[u], []⟩ [("script", u)]) ∧ ∀ base : Heap, (K w.params).In base → base.Ns mainGlobals mg → FnOk l.prog w (K w.params) mg base (L2.CX l.prog w) k fa fd ["script"] (spLaw (K w.params))) :
    PySem.W.WalkO q loose XP YP l.row.toRowW d [] (fun f vs => PySem.call f vs) :=
  L2.walk_of (n := 63) (k := k) (x := "script") (CX := fun w => L2.CX l.prog w) (sp := fun w => spLaw (K w.params)) hn (by decide) hdf hr hY F (fun w H a ns hl hO hS => ⟨a, ns, rfl, by
    rcases hS with (h | ⟨o, h⟩) | h
    · rcases hO a with z | ⟨o, xs, z⟩
      · rw [z] at h; cases h
      · rw [z] at h; cases h
    · exact .inl ⟨o, h⟩
    · exact .inr fun H' => .inr h, hl, fun _ => rfl⟩) fun w H s e s' ⟨_, _, _, _, _, _, _, _, _, _, _, _, z⟩ => z
end
end MP
set_option Elab.async false
set_option linter.all false
set_option maxRecDepth 100000
set_option maxHeartbeats 400000
/-! MPS: how the functions on frames are worked out. -/
namespace MP
open PySem PySem.Spec L2
section
variable {α β : Type} {fr gr : Fm} {a : α} {x : Xc}
@[simp] theorem e_bind_ok {k : α → Fm → Out β} : (Out.ok a fr).bind k = k a fr := id rfl
@[simp] theorem e_bind_bad {k : α → Fm → Out β} : (Out.bad : Out α).bind k = .bad := id rfl
@[simp] theorem e_bind_exc {k : α → Fm → Out β} : (Out.exc x fr).bind k = .exc x fr := id rfl
@[simp] theorem e_toS_ok {k : α → Fm → OutS} : (Out.ok a fr).toS k = k a fr := id rfl
@[simp] theorem e_toS_bad {k : α → Fm → OutS} : (Out.bad : Out α).toS k = .bad := id rfl
@[simp] theorem e_toS_exc {k : α → Fm → OutS} : (Out.exc x fr).toS k = .exc x fr := id rfl
/-- what goes on behind a computation: simp leaves it alone -/
class KB (α β : Type) where
  k : α → Fm → Out β
class KS (α : Type) where
  k : α → Fm → OutS
def bnd {α β : Type} (o : Out α) [i : KB α β] : Out β := o.bind i.k
def bndS {α : Type} (o : Out α) [i : KS α] : OutS := o.toS i.k
@[simp] theorem e_bnd_ok {k : α → Fm → Out β} : @bnd α β (.ok a fr) ⟨k⟩ = k a fr := id rfl
@[simp] theorem e_bnd_bad {k : α → Fm → Out β} : @bnd α β .bad ⟨k⟩ = .bad := id rfl
@[simp] theorem e_bnd_exc {k : α → Fm → Out β} : @bnd α β (.exc x fr) ⟨k⟩ = .exc x fr := id rfl
@[simp] theorem e_bndS_ok {k : α → Fm → OutS} : @bndS α (.ok a fr) ⟨k⟩ = k a fr := id rfl
@[simp] theorem e_bndS_bad {k : α → Fm → OutS} : @bndS α .bad ⟨k⟩ = .bad := id rfl
@[simp] theorem e_bndS_exc {k : α → Fm → OutS} : @bndS α (.exc x fr) ⟨k⟩ = .exc x fr := id rfl
variable {f g : Fm → OutS} {v : Val} {fa fb fc : Fm → Out Opn} {ta tb : Fm → Out Bool} {fs : Fm → Out (List Opn)} {i n : Nat}
@[simp] theorem e_seq_nx : (OutS.nx fr).seq g = g fr := id rfl
@[simp] theorem e_seq_rt : (OutS.rt v fr).seq g = .rt v fr := id rfl
@[simp] theorem e_seq_bk : (OutS.bk fr).seq g = .bk fr := id rfl
@[simp] theorem e_seq_ct : (OutS.ct fr).seq g = .ct fr := id rfl
@[simp] theorem e_seq_bad : OutS.bad.seq g = .bad := id rfl
@[simp] theorem e_seq_exc : (OutS.exc x fr).seq g = .exc x fr := id rfl
@[simp] theorem e_sSeq : sSeq f g fr = (f fr).seq g := id rfl
@[simp] theorem e_sSkip : sSkip fr = .nx fr := id rfl
@[simp] theorem e_sBreak : sBreak fr = .bk fr := id rfl
@[simp] theorem e_sCont : sCont fr = .ct fr := id rfl
@[simp] theorem e_sBad : sBad fr = .bad := id rfl
@[simp] theorem e_sExpr : sExpr fa fr = @bndS _ (fa fr) (.mk fun _ fr1 => .nx fr1) := id rfl
@[simp] theorem e_sRet : sRet fa fr = @bndS _ (fa fr) (.mk fun p fr1 => match toV fr1 p with
  | some (v, fr2) => .rt v fr2
  | none => .bad) := id rfl
@[simp] theorem e_sIfS : sIfS ta f g fr = @bndS _ (ta fr) (.mk fun b fr1 => match b with
  | true => f fr1
  | false => g fr1) := id rfl
@[simp] theorem e_sSet : sSet i fa fr = @bndS _ (fa fr) (.mk fun p fr1 => match toW fr1 p with
  | some (v, fr2) => match setS fr2 i v.sl with
    | some fr3 => .nx fr3
    | none => .bad
  | none => .bad) := id rfl
@[simp] theorem e_sAsg {g : D → Fm → Option Fm} : sAsg g fa fr = @bndS _ (fa fr) (.mk fun p fr1 => match frz fr1 p with
  | some (d, fr2) => match g d fr2 with
    | some fr3 => .nx fr3
    | none => .bad
  | none => .bad) := id rfl
@[simp] theorem e_sPar {is : List Nat} : sPar is fs fr = @bndS _ (fs fr) (.mk fun ps fr1 => match toWs fr1 ps with
  | some (vs, fr2) => match puts fr2 is vs with
    | some fr3 => .nx fr3
    | none => .bad
  | none => .bad) := id rfl
@[simp] theorem e_sPut {g : O → D → D → Option O} : sPut g fa fb fc fr = @bndS _ (fa fr) (.mk fun p fr1 => match frz fr1 p with
  | some (e, fr2) => @bndS _ (fb fr2) (.mk fun q fr3 => match q with
    | .sl k => @bndS _ (fc fr3) (.mk fun s fr4 => match cont fr4 s, slO fr4 k with
      | some d, some o => match g o d e with
        | some o' => .nx (setO fr4 k o')
        | none => .bad
      | _, _ => .bad)
    | _ => .bad)
  | none => .bad) := id rfl
@[simp] theorem e_sPutF {cs : List Nat} {m : Str} : sPutF cs m fa fb fr = @bndS _ (fa fr) (.mk fun p fr1 => match frz fr1 p with
  | some (e, fr2) => @bndS _ (fb fr2) (.mk fun q fr3 => match q with
    | .sl k => match slO fr3 k with
      | some o => match o with
        | .ins c ns ds => if c ∈ cs ∧ ns.length < 1000 then .nx (setO fr3 k (.ins c (putN ns m) (MP.putA ns ds m e))) else .bad
        | _ => .bad
      | none => .bad
    | _ => .bad)
  | none => .bad) := id rfl
@[simp] theorem e_sFor {fi : Fm → Out (List D)} {tg : D → Fm → Option Fm} : sFor fi tg f fr = @bndS _ (fi fr) (.mk fun ds fr1 => forL tg f ds fr1) := id rfl
/-! names, values -/
@[simp] theorem e_sC {d : D} : sC d fr = .ok (.vl (.fz d)) fr := id rfl
@[simp] theorem e_sVar : sVar i fr = match fr[i]? with
  | some .non => .bad
  | some (.exn _ _) => .bad
  | some _ => .ok (.sl i) fr
  | none => .bad := id rfl
@[simp] theorem e_cont_sl : cont fr (.sl i) = match fr[i]? with
  | some (.fz d) => some d
  | some (.own o) => some o.view
  | some (.bor o) => some o.view
  | _ => none := id rfl
@[simp] theorem e_cont_vl : cont fr (.vl v) = some v.view := id rfl
@[simp] theorem e_view_fz {d : D} : (Val.fz d).view = d := id rfl
@[simp] theorem e_view_own {o : O} : (Val.own o).view = o.view := id rfl
@[simp] theorem e_oview_l {xs : List D} : (O.lst xs).view = .lst xs := id rfl
@[simp] theorem e_oview_d {ks : List Key} {xs : List D} : (O.dic ks xs).view = .dic ks xs := id rfl
@[simp] theorem e_oview_i {c : Nat} {ks : List Str} {xs : List D} : (O.ins c ks xs).view = .ins c ks xs := id rfl
@[simp] theorem e_sFz : sFz fa fr = @bnd _ _ (fa fr) (.mk fun p fr1 => match frz fr1 p with
  | some (d, fr2) => .ok (.vl (.fz d)) fr2
  | none => .bad) := id rfl
@[simp] theorem e_sBin {g : D → D → Option Val} : sBin g fa fb fr = @bnd _ _ (fa fr) (.mk fun p fr1 => @bnd _ _ (fb fr1) (.mk fun q fr2 =>
  match cont fr2 p, cont fr2 q with
  | some d, some e => match g d e with
    | some u => .ok (.vl u) fr2
    | none => .bad
  | _, _ => .bad)) := id rfl
@[simp] theorem e_sUn {g : D → Option Val} : sUn g fa fr = @bnd _ _ (fa fr) (.mk fun p fr1 =>
  match cont fr1 p with
  | some d => match g d with
    | some u => .ok (.vl u) fr1
    | none => .bad
  | _ => .bad) := id rfl
@[simp] theorem e_sTst : sTst fa fr = @bnd _ _ (fa fr) (.mk fun p fr1 => match cont fr1 p with
  | some (.bl b) => .ok b fr1
  | _ => .bad) := id rfl
@[simp] theorem e_sTru : sTru fa fr = @bnd _ _ (fa fr) (.mk fun p fr1 => match (cont fr1 p).bind truD with
  | some b => .ok b fr1
  | _ => .bad) := id rfl
@[simp] theorem e_sChain {g g' : D → D → Option Val} : sChain g g' fa fb fc fr = @bnd _ _ (fa fr) (.mk fun p fr1 => @bnd _ _ (fb fr1) (.mk fun q fr2 =>
  match cont fr2 p, cont fr2 q with
  | some d, some e => match g d e with
    | some (.fz (.bl true)) => @bnd _ _ (fc fr2) (.mk fun s fr3 => match cont fr3 q, cont fr3 s with
      | some e', some c => match g' e' c with
        | some u => .ok (.vl u) fr3
        | none => .bad
      | _, _ => .bad)
    | some (.fz (.bl false)) => .ok (.vl (.fz (.bl false))) fr2
    | _ => .bad
  | _, _ => .bad)) := id rfl
@[simp] theorem e_sAnd : sAnd ta tb fr = @bnd _ _ (ta fr) (.mk fun b fr1 => match b with
  | true => tb fr1
  | false => .ok false fr1) := id rfl
@[simp] theorem e_sOr : sOr ta tb fr = @bnd _ _ (ta fr) (.mk fun b fr1 => match b with
  | true => .ok true fr1
  | false => tb fr1) := id rfl
@[simp] theorem e_sNot : sNot ta fr = @bnd _ _ (ta fr) (.mk fun b fr1 => .ok (!b) fr1) := id rfl
@[simp] theorem e_sAndV : sAndV fa fb fr = @bnd _ _ (sTst fa fr) (.mk fun b fr1 => match b with
  | true => fb fr1
  | false => .ok (.vl (.fz (.bl false))) fr1) := id rfl
@[simp] theorem e_sOrV : sOrV fa fb fr = @bnd _ _ (sTst fa fr) (.mk fun b fr1 => match b with
  | true => .ok (.vl (.fz (.bl true))) fr1
  | false => fb fr1) := id rfl
@[simp] theorem e_sNotV : sNotV fa fr = @bnd _ _ (sTst fa fr) (.mk fun b fr1 => .ok (.vl (.fz (.bl (!b)))) fr1) := id rfl
@[simp] theorem e_sIf : sIf ta fa fb fr = @bnd _ _ (ta fr) (.mk fun b fr1 => match b with
  | true => fa fr1
  | false => fb fr1) := id rfl
@[simp] theorem e_sNil : sNil fr = .ok [] fr := id rfl
@[simp] theorem e_sCons : sCons fa fs fr = @bnd _ _ (fa fr) (.mk fun p fr1 => @bnd _ _ (fs fr1) (.mk fun ps fr2 => .ok (p :: ps) fr2)) := id rfl
@[simp] theorem e_conts_nil : conts fr [] = some [] := id rfl
@[simp] theorem e_conts_cons {p : Opn} {ps : List Opn} : conts fr (p :: ps) = match cont fr p, conts fr ps with
    | some d, some ds => some (d :: ds)
    | _, _ => none := id rfl
@[simp] theorem e_sTup : sTup fs fr = @bnd _ _ (fs fr) (.mk fun ps fr1 => match frzs fr1 ps with
  | some (ds, fr2) => if ds.length ≤ sizeLine then .ok (.vl (.fz (.tup ds))) fr2 else .bad
  | none => .bad) := id rfl
@[simp] theorem e_sLst : sLst fs fr = @bnd _ _ (fs fr) (.mk fun ps fr1 => match frzs fr1 ps with
  | some (ds, fr2) => if ds.length ≤ sizeLine then .ok (.vl (.own (.lst ds))) fr2 else .bad
  | none => .bad) := id rfl
@[simp] theorem e_sB {g : List D → Option Val} : sB g fs fr = @bnd _ _ (fs fr) (.mk fun ps fr1 => match conts fr1 ps with
  | some ds => match g ds with
    | some u => .ok (.vl u) fr1
    | none => .bad
  | none => .bad) := id rfl
@[simp] theorem e_sP0 : sP0 fr = .ok none fr := id rfl
@[simp] theorem e_sP1 : sP1 fa fr = @bnd _ _ (fa fr) (.mk fun p fr1 => match cont fr1 p with
  | some (.int i) => .ok (some i) fr1
  | _ => .bad) := id rfl
@[simp] theorem e_sSl {g : D → Option Int → Option Int → Option Val} {fl fh : Fm → Out (Option Int)} : sSl g fa fl fh fr = @bnd _ _ (fa fr) (.mk fun p fr1 => @bnd _ _ (fl fr1) (.mk fun lo fr2 => @bnd _ _ (fh fr2) (.mk fun hi fr3 =>
  match cont fr3 p with
  | some d => match g d lo hi with
    | some u => .ok (.vl u) fr3
    | none => .bad
  | none => .bad))) := id rfl
@[simp] theorem e_sFld {cs : List Nat} {m : Str} : MP.sFld cs m fa fr = @bnd _ _ (fa fr) (.mk fun p fr1 => match cont fr1 p with
  | some (.ins c ns ds) => if c ∈ cs then match lookD ns ds m with
    | some d => .ok (.vl (.fz d)) fr1
    | none => .bad
    else .bad
  | _ => .bad) := id rfl
@[simp] theorem e_sM {T : String} {g : D → List D → Option Val} : sM T g fa fs fr = @bnd _ _ (fa fr) (.mk fun p fr1 => match (cont fr1 p).map (tyD T) with
  | some true => @bnd _ _ (fs fr1) (.mk fun ps fr2 => match cont fr2 p, conts fr2 ps with
    | some d, some ds => match g d ds with
      | some u => .ok (.vl u) fr2
      | none => .bad
    | _, _ => .bad)
  | _ => .bad) := id rfl
@[simp] theorem e_sW {T : String} {g : O → List D → Option (Val × O)} : sW T g fa fs fr = @bnd _ _ (fa fr) (.mk fun p fr1 => match p with
  | .sl i => match (slO fr1 i).map fun o => tyD T o.view with
    | some true => @bnd _ _ (fs fr1) (.mk fun ps fr2 => match frzs fr2 ps with
      | some (ds, fr3) => match slO fr3 i with
        | some o => match g o ds with
          | some (u, o') => .ok (.vl u) (setO fr3 i o')
          | none => .bad
        | none => .bad
      | none => .bad)
    | _ => .bad
  | _ => .bad) := id rfl
@[simp] theorem e_sCall {R : List Val → Rs} : sCall R fs fr = @bnd _ _ (fs fr) (.mk fun ps fr1 => match lends fr1 ps with
  | some os => match once fr1 ps with
    | true => match R os with
      | .ret v os' => match kinds os os' with
        | true => .ok (.vl v) (backs ps os' 0 fr1)
        | false => .bad
      | .exc x os' => match kinds os os' with
        | true => .exc x (backs ps os' 0 fr1)
        | false => .bad
      | .bad => .bad
    | false => .bad
  | none => .bad) := id rfl
@[simp] theorem e_sMake {c : Nat} {R : List Val → Rs} : sMake c R fs fr = @bnd _ _ (fs fr) (.mk fun ps fr1 => match lends fr1 ps with
  | some os => match once fr1 ps with
    | true => match R (.own (.ins c [] []) :: os) with
      | .ret v os2 => match isN v, mkO c os2 with
        | true, some (o, os') => match kinds os os' with
          | true => .ok (.vl (.own o)) (backs ps os' 0 fr1)
          | false => .bad
        | _, _ => .bad
      | .exc x os2 => match os2 with
        | _ :: os' => match kinds os os' with
          | true => .exc x (backs ps os' 0 fr1)
          | false => .bad
        | [] => .bad
      | .bad => .bad
    | false => .bad
  | none => .bad) := id rfl
/-! slots -/
@[simp] theorem e_toV_sl : toV fr (.sl i) = match fr[i]? with
    | some (.fz d) => some (.fz d, fr)
    | some (.own o) => some (.own o, fr.set i .non)
    | _ => none := id rfl
@[simp] theorem e_toV_vl : toV fr (.vl v) = some (v, fr) := id rfl
@[simp] theorem e_frz_sl : frz fr (.sl i) = match fr[i]? with
    | some (.fz d) => some (d, fr)
    | some (.own o) => some (o.view, fr.set i (.fz o.view))
    | _ => none := id rfl
@[simp] theorem e_frz_vl : frz fr (.vl v) = some (v.view, fr) := id rfl
@[simp] theorem e_frzs_nil : frzs fr [] = some ([], fr) := id rfl
@[simp] theorem e_frzs_cons {p : Opn} {ps : List Opn} : frzs fr (p :: ps) = match frz fr p with
    | some (d, fr1) => match frzs fr1 ps with
      | some (ds, fr2) => some (d :: ds, fr2)
      | none => none
    | none => none := id rfl
@[simp] theorem e_toW_sl : toW fr (.sl i) = (frz fr (.sl i)).map fun q => (.fz q.1, q.2) := id rfl
@[simp] theorem e_toW_vl : toW fr (.vl v) = some (v, fr) := id rfl
@[simp] theorem e_toWs_nil : toWs fr [] = some ([], fr) := id rfl
@[simp] theorem e_toWs_cons {p : Opn} {ps : List Opn} : toWs fr (p :: ps) = match toW fr p with
    | some (v, fr1) => match toWs fr1 ps with
      | some (vs, fr2) => some (v :: vs, fr2)
      | none => none
    | none => none := id rfl
@[simp] theorem e_puts_cons {is : List Nat} {vs : List Val} : puts fr (i :: is) (v :: vs) = (setS fr i v.sl).bind fun fr1 => puts fr1 is vs := id rfl
@[simp] theorem e_puts_nil : puts fr [] [] = some fr := id rfl
@[simp] theorem e_sl_fz {d : D} : (Val.fz d).sl = .fz d := id rfl
@[simp] theorem e_sl_own {o : O} : (Val.own o).sl = .own o := id rfl
@[simp] theorem e_setS {s : Sl} : setS fr i s = match fr[i]? with
  | some (.bor _) => none
  | some _ => some (fr.set i s)
  | none => none := id rfl
@[simp] theorem e_slO : slO fr i = match fr[i]? with
  | some (.own o) => some o
  | some (.bor o) => some o
  | _ => none := id rfl
@[simp] theorem e_setO {o : O} : setO fr i o = match fr[i]? with
  | some (.own _) => fr.set i (.own o)
  | some (.bor _) => fr.set i (.bor o)
  | _ => fr := id rfl
@[simp] theorem e_lend_sl : lend fr (.sl i) = match fr[i]? with
    | some (.fz d) => some (.fz d)
    | some (.own o) => some (.own o)
    | some (.bor o) => some (.own o)
    | _ => none := id rfl
@[simp] theorem e_lend_vl : lend fr (.vl v) = some (.fz v.view) := id rfl
@[simp] theorem e_lends_nil : lends fr [] = some [] := id rfl
@[simp] theorem e_lends_cons {p : Opn} {ps : List Opn} : lends fr (p :: ps) = match lend fr p, lends fr ps with
    | some o, some os => some (o :: os)
    | _, _ => none := id rfl
@[simp] theorem e_once_nil : once fr [] = true := id rfl
@[simp] theorem e_once_sl {ps : List Opn} : once fr (.sl i :: ps) = ((match slO fr i with
    | some _ => !ps.any (isSl i)
    | none => true) && once fr ps) := id rfl
@[simp] theorem e_once_vl {ps : List Opn} : once fr (.vl v :: ps) = once fr ps := id rfl
@[simp] theorem e_isSl_sl {j : Nat} : isSl i (.sl j) = (i == j) := id rfl
@[simp] theorem e_isSl_vl : isSl i (.vl v) = false := id rfl
@[simp] theorem e_kinds_nil : kinds [] [] = true := id rfl
@[simp] theorem e_kinds_cons {o p : Val} {os ps : List Val} : kinds (o :: os) (p :: ps) = (kind1 o p && kinds os ps) := id rfl
@[simp] theorem e_kind_own {o p : O} : kind1 (.own o) (.own p) = true := id rfl
@[simp] theorem e_kind_fz {o p : D} : kind1 (.fz o) (.fz p) = true := id rfl
@[simp] theorem e_kind_self {v : Val} : kind1 v v = true := by cases v <;> rfl
@[simp] theorem e_backs_nil {ps : List Opn} {os : List Val} {j : Nat} : backs ps os j [] = [] := id rfl
@[simp] theorem e_backs_cons {ps : List Opn} {os : List Val} {j : Nat} {s : Sl} : backs ps os j (s :: fr) = back1 ps os j s :: backs ps os (j + 1) fr := id rfl
@[simp] theorem e_back_fz {ps : List Opn} {os : List Val} {j : Nat} {d : D} : back1 ps os j (.fz d) = .fz d := id rfl
@[simp] theorem e_back_non {ps : List Opn} {os : List Val} {j : Nat} : back1 ps os j .non = .non := id rfl
@[simp] theorem e_back_own {ps : List Opn} {os : List Val} {j : Nat} {o : O} : back1 ps os j (.own o) = match lookB j ps os with
    | some o' => .own o'
    | none => .own o := id rfl
@[simp] theorem e_back_bor {ps : List Opn} {os : List Val} {j : Nat} {o : O} : back1 ps os j (.bor o) = match lookB j ps os with
    | some o' => .bor o'
    | none => .bor o := id rfl
@[simp] theorem e_lookB_own {j : Nat} {ps : List Opn} {o : O} {os : List Val} : lookB j (.sl i :: ps) (.own o :: os) = if i = j then some o else lookB j ps os := id rfl
@[simp] theorem e_lookB_fz {j : Nat} {p : Opn} {ps : List Opn} {d : D} {os : List Val} : lookB j (p :: ps) (.fz d :: os) = lookB j ps os := by cases p <;> rfl
@[simp] theorem e_lookB_vl {j : Nat} {ps : List Opn} {o : Val} {os : List Val} : lookB j (.vl v :: ps) (o :: os) = lookB j ps os := id rfl
@[simp] theorem e_lookB_nil {j : Nat} {os : List Val} : lookB j [] os = none := by cases os <;> rfl
@[simp] theorem e_initF {os : List Val} : initF n os = os.map slOf ++ List.replicate (n - os.length) .non := id rfl
@[simp] theorem e_slOf_fz {d : D} : slOf (.fz d) = .fz d := id rfl
@[simp] theorem e_slOf_own {o : O} : slOf (.own o) = .bor o := id rfl
@[simp] theorem e_finals_nil : finals [] fr = [] := by cases fr <;> rfl
@[simp] theorem e_finals_own {o : O} {os : List Val} {s : Sl} : finals (.own o :: os) (s :: fr) = (match s with
    | .bor p => .own p
    | _ => .own o) :: finals os fr := id rfl
@[simp] theorem e_finals_fz {d : D} {os : List Val} {s : Sl} : finals (.fz d :: os) (s :: fr) = .fz d :: finals os fr := id rfl
@[simp] theorem e_ofBody_rt {os : List Val} : ofBody os (.rt v fr) = .ret v (finals os fr) := id rfl
@[simp] theorem e_ofBody_nx {os : List Val} : ofBody os (.nx fr) = .ret (.fz .non) (finals os fr) := id rfl
@[simp] theorem e_ofBody_exc {os : List Val} : ofBody os (.exc x fr) = .exc x (finals os fr) := id rfl
/-! comprehensions, targets, walks -/
@[simp] theorem e_gN {d : D} : gN i d fr = setS fr i (.fz d) := id rfl
@[simp] theorem e_gT {gs : List D → Fm → Option Fm} {d : D} : gT n gs d fr = match d with
  | .tup ds => if ds.length = n then gs ds fr else none
  | _ => none := id rfl
@[simp] theorem e_gsC {g : D → Fm → Option Fm} {gs : List D → Fm → Option Fm} {d : D} {ds : List D} : gsC g gs (d :: ds) fr = (g d fr).bind fun fr1 => gs ds fr1 := id rfl
@[simp] theorem e_gsN : gsN [] fr = some fr := id rfl
@[simp] theorem e_iAnyF : iAnyF fa fr = @bnd _ _ (fa fr) (.mk fun p fr1 => match frz fr1 p with
  | some (d, fr2) => match itemsOf d with
    | some ds => .ok ds fr2
    | none => .bad
  | none => .bad) := id rfl
@[simp] theorem e_iR1 : iR1 fs fr = @bnd _ _ (fs fr) (.mk fun ps fr1 => match (conts fr1 ps).bind int1 with
  | some j => if small62 j then .ok (rangeD 0 j.toNat) fr1 else .bad
  | none => .bad) := id rfl
@[simp] theorem e_iR2 : iR2 fs fr = @bnd _ _ (fs fr) (.mk fun ps fr1 => match (conts fr1 ps).bind int2 with
  | some (i, j) => if small62 i && small62 j then .ok (rangeD i (j - i).toNat) fr1 else .bad
  | none => .bad) := id rfl
@[simp] theorem e_int1 {j : Int} : int1 [.int j] = some j := id rfl
@[simp] theorem e_int2 {j k : Int} : int2 [.int j, .int k] = some (j, k) := id rfl
@[simp] theorem e_iEnF : iEnF fs fr = @bnd _ _ (fs fr) (.mk fun ps fr1 => match frzs fr1 ps with
  | some (ds, fr2) => match ds with
    | [d] => match d with
      | .lst xs => .ok (numbered 0 xs) fr2
      | .tup xs => .ok (numbered 0 xs) fr2
      | _ => .bad
    | _ => .bad
  | none => .bad) := id rfl
@[simp] theorem e_iZp : iZp fs fr = @bnd _ _ (fs fr) (.mk fun ps fr1 => match frzs fr1 ps with
  | some (ds, fr2) => match zipOf ds with
    | some xs => .ok xs fr2
    | none => .bad
  | none => .bad) := id rfl
@[simp] theorem e_items_l {xs : List D} : itemsOf (.lst xs) = some xs := id rfl
@[simp] theorem e_items_t {xs : List D} : itemsOf (.tup xs) = some xs := id rfl
@[simp] theorem e_items_s {z : Str} : itemsOf (.str z) = some (signs z) := id rfl
@[simp] theorem e_sLc {fi : Fm → Out (List D)} {tg : D → Fm → Option Fm} {vs : List Nat} : sLc fi tg ta fa vs fr = @bnd _ _ (fi fr) (.mk fun ds fr1 =>
  if noBor fr1 vs = true then @bnd _ _ (lcL tg ta fa vs ds [] (wipeF fr1 vs)) (.mk fun acc fr2 => .ok (.vl (.own (.lst acc))) (restF vs fr1 0 fr2)) else .bad) := id rfl
@[simp] theorem e_sLc2 {fi fi1 : Fm → Out (List D)} {tg tg1 : D → Fm → Option Fm} {vs vs1 : List Nat} : sLc2 fi tg ta fi1 tg1 tb fa vs vs1 fr = @bnd _ _ (fi fr) (.mk fun ds fr1 =>
  if noBor fr1 vs = true then @bnd _ _ (lc2L tg ta fi1 tg1 tb fa vs vs1 ds [] (wipeF fr1 vs)) (.mk fun acc fr2 => .ok (.vl (.own (.lst acc))) (restF vs fr1 0 fr2)) else .bad) := id rfl
@[simp] theorem e_sYes : sYes fr = .ok true fr := id rfl
@[simp] theorem e_noBor_nil : noBor fr [] = true := id rfl
@[simp] theorem e_noBor_cons {vs : List Nat} : noBor fr (i :: vs) = ((match fr[i]? with
    | some (.bor _) => false
    | _ => true) && noBor fr vs) := id rfl
@[simp] theorem e_wipe_nil : wipeF fr [] = fr := id rfl
@[simp] theorem e_wipe_cons {vs : List Nat} : wipeF fr (i :: vs) = (wipeF fr vs).set i .non := id rfl
@[simp] theorem e_rest_nil {vs : List Nat} {j : Nat} : restF vs fr j [] = [] := id rfl
@[simp] theorem e_rest_cons {vs : List Nat} {j : Nat} {s : Sl} : restF vs fr j (s :: gr) = rest1 vs fr j s :: restF vs fr (j + 1) gr := id rfl
@[simp] theorem e_rest1 {vs : List Nat} {j : Nat} {s : Sl} : rest1 vs fr j s = if j ∈ vs then (match fr[j]? with
  | some t => t
  | none => .non) else s := id rfl
/-! the operations -/
variable {d e : D} {j k : Int} {z y : Str} {xs ys : List D}
@[simp] theorem e_gI0 {g : Int → Int → D} : gI0 g (.int j) (.int k) = some (.fz (g j k)) := id rfl
@[simp] theorem e_gI {C : Int → Int → Bool} {g : Int → Int → D} : gI C g (.int j) (.int k) = if C j k then some (.fz (g j k)) else none := id rfl
@[simp] theorem e_addI : addD (.int j) (.int k) = some (.fz (.int (j + k))) := id rfl
@[simp] theorem e_addS : addD (.str z) (.str y) = if z.length + y.length ≤ sizeLine then some (.fz (.str (z ++ y))) else none := by
  by_cases h : z.length + y.length ≤ sizeLine <;> simp [addD, orG, gI0, gAddS, gAddL, gAddT, h]
@[simp] theorem e_addL : addD (.lst xs) (.lst ys) = if xs.length + ys.length ≤ sizeLine then some (.own (.lst (xs ++ ys))) else none := by
  by_cases h : xs.length + ys.length ≤ sizeLine <;> simp [addD, orG, gI0, gAddS, gAddL, gAddT, h]
@[simp] theorem e_addT : addD (.tup xs) (.tup ys) = if xs.length + ys.length ≤ sizeLine then some (.fz (.tup (xs ++ ys))) else none := id rfl
@[simp] theorem e_mulI : mulD (.int j) (.int k) = if mulC j k then some (.fz (.int (j * k))) else none := by
  by_cases h : mulC j k = true <;> simp [mulD, orG, gI, gMulL, gMulT, h]
@[simp] theorem e_mulL : mulD (.lst xs) (.int k) = if w63 k = true ∧ xs.length * k.toNat ≤ sizeLine then some (.own (.lst (repN k xs))) else none := by
  by_cases h : w63 k = true ∧ xs.length * k.toNat ≤ sizeLine <;> simp [mulD, orG, gI, gMulL, gMulT, h]
@[simp] theorem e_len_l : gOne lenD [.lst xs] = some (.fz (.int xs.length)) := id rfl
@[simp] theorem e_len_t : gOne lenD [.tup xs] = some (.fz (.int xs.length)) := id rfl
@[simp] theorem e_len_s : gOne lenD [.str z] = if z.length ≤ sizeLine then some (.fz (.int z.length)) else none := id rfl
@[simp] theorem e_gOne {g : D → Option Val} : gOne g [d] = g d := id rfl
@[simp] theorem e_gTwo {g : D → D → Option Val} : gTwo g [d, e] = g d e := id rfl
@[simp] theorem e_lenl : lenD (.lst xs) = some (.fz (.int xs.length)) := id rfl
@[simp] theorem e_lent : lenD (.tup xs) = some (.fz (.int xs.length)) := id rfl
@[simp] theorem e_lens : lenD (.str z) = if z.length ≤ sizeLine then some (.fz (.int z.length)) else none := id rfl
@[simp] theorem e_int_i : intD (.int j) = some (.fz (.int j)) := id rfl
@[simp] theorem e_abs_i : absD (.int j) = some (.fz (.int (if j < 0 then -j else j))) := id rfl
@[simp] theorem e_tup_l : tupD (.lst xs) = some (.fz (.tup xs)) := id rfl
@[simp] theorem e_tup_t : tupD (.tup xs) = some (.fz (.tup xs)) := id rfl
@[simp] theorem e_lst_l : lstD (.lst xs) = some (.own (.lst xs)) := id rfl
@[simp] theorem e_lst_t : lstD (.tup xs) = some (.own (.lst xs)) := id rfl
@[simp] theorem e_str_i : strD (.int j) = if j.natAbs.log2 < 1920 then some (.fz (.str (toString j))) else none := id rfl
@[simp] theorem e_str_s : strD (.str z) = some (.fz (.str z)) := id rfl
@[simp] theorem e_fmt_i : fmtD (.int j) = if j.natAbs.log2 < 1920 then some (.fz (.str (toString j))) else none := id rfl
@[simp] theorem e_fmt_s : fmtD (.str z) = if z.length ≤ sizeLine then some (.fz (.str z)) else none := id rfl
@[simp] theorem e_neg : negD (.int j) = some (.fz (.int (-j))) := id rfl
@[simp] theorem e_ix_l : ixG (.lst xs) (.int j) = (atI xs j).map .fz := by
  unfold ixG gIxQ seqOf gIxC
  simp only
  cases atI xs j <;> rfl
@[simp] theorem e_ix_t : ixG (.tup xs) (.int j) = (atI xs j).map .fz := by
  unfold ixG gIxQ seqOf gIxC
  simp only
  cases atI xs j <;> rfl
@[simp] theorem e_ix_s : ixG (.str z) (.int j) = if z.length ≤ sizeLine then (atI z.cps.toList j).map fun c => .fz (.str ⟨#[c]⟩) else none := id rfl
@[simp] theorem e_sl_l {lo hi : Option Int} : slG (.lst xs) lo hi = some (.own (.lst (cutD xs lo hi))) := id rfl
@[simp] theorem e_sl_t {lo hi : Option Int} : slG (.tup xs) lo hi = some (.fz (.tup (cutD xs lo hi))) := id rfl
@[simp] theorem e_sl_r {ns : List Int} {lo hi : Option Int} : slG (.scr ns) lo hi = some (.own (.lst (cutD (ns.map D.int) lo hi))) := id rfl
@[simp] theorem e_sl_s {lo hi : Option Int} : slG (.str z) lo hi = if z.length ≤ sizeLine then some (.fz (.str (Txt.slice z lo hi))) else none := id rfl
@[simp] theorem e_app : appG (.lst xs) [d] = if xs.length < sizeLine then some (.fz .non, .lst (xs ++ [d])) else none := id rfl
@[simp] theorem e_ext : extG (.lst xs) [.lst ys] = if xs.length + ys.length ≤ sizeLine then some (.fz .non, .lst (xs ++ ys)) else none := id rfl
@[simp] theorem e_pop : popG (.lst xs) [] = (xs[xs.length - 1]?).map fun d => (.fz d, .lst xs.dropLast) := id rfl
@[simp] theorem e_setLG : setLG (.lst xs) (.int j) e = (ixN xs.length j).map fun n => .lst (xs.set n e) := id rfl
@[simp] theorem e_tyD_l : tyD "list" (.lst xs) = true := id rfl
@[simp] theorem e_tyD_s : tyD "str" (.str z) = true := id rfl
@[simp] theorem e_tru_b {b : Bool} : truD (.bl b) = some b := id rfl
@[simp] theorem e_tru_n : truD .non = some false := id rfl
@[simp] theorem e_isNon_n : isNon .non = true := id rfl
@[simp] theorem e_gIs {neg : Bool} : gIs neg d .non = some (.fz (.bl (if neg then !isNon d else isNon d))) := id rfl
@[simp] theorem e_eq_i : eqG (.int j) (.int k) = some (.fz (.bl (decide (j = k)))) := id rfl
@[simp] theorem e_eq_s : eqG (.str z) (.str y) = some (.fz (.bl (decide (z = y)))) := id rfl
@[simp] theorem e_eq_b {a b : Bool} : eqG (.bl a) (.bl b) = some (.fz (.bl (decide (a = b)))) := by cases a <;> cases b <;> rfl
@[simp] theorem e_ne_i : neG (.int j) (.int k) = some (.fz (.bl (!decide (j = k)))) := id rfl
@[simp] theorem e_ne_s : neG (.str z) (.str y) = some (.fz (.bl (!decide (z = y)))) := id rfl
@[simp] theorem e_ne_b {a b : Bool} : neG (.bl a) (.bl b) = some (.fz (.bl (!decide (a = b)))) := by cases a <;> cases b <;> rfl
/-- the place of a written index -/
theorem ixN_nat {m : Nat} (h : m < n) : ixN n ((m : Nat) : Int) = some m := by
  unfold ixN
  rw [if_pos (by omega), if_pos (by omega)]
  simp
@[simp] theorem atI_nat' {α : Type} {xs : List α} {m : Nat} : atI xs ((m : Nat) : Int) = xs[m]? := by
  unfold atI
  by_cases h : m < xs.length
  · rw [ixN_nat h]; rfl
  · unfold ixN
    rw [if_pos (by omega), if_neg (by omega)]
    simp at h
    simp [h]
@[simp] theorem atI_0 {α : Type} {xs : List α} : atI xs 0 = xs[0]? := atI_nat' (m := 0)
@[simp] theorem atI_1 {α : Type} {xs : List α} : atI xs 1 = xs[1]? := atI_nat' (m := 1)
@[simp] theorem atI_2 {α : Type} {xs : List α} : atI xs 2 = xs[2]? := atI_nat' (m := 2)
@[simp] theorem atI_3 {α : Type} {xs : List α} : atI xs 3 = xs[3]? := atI_nat' (m := 3)
@[simp] theorem atI_4 {α : Type} {xs : List α} : atI xs 4 = xs[4]? := atI_nat' (m := 4)
end
end MP
set_option Elab.async false
set_option linter.all false
set_option maxRecDepth 100000
set_option maxHeartbeats 400000
/-! MPT: loops and comprehensions on frames by what holds before each turn. -/
namespace MP
open PySem PySem.Spec L2
theorem forL_P {tg : D → Fm → Option Fm} {body : Fm → OutS} (P : List D → Fm → Prop) (h : ∀ d rest fr, P (d :: rest) fr → ∃ fr1 fr2, tg d fr = some fr1 ∧ body fr1 = .nx fr2 ∧ P rest fr2) :
    ∀ (ds : List D) (fr : Fm), P ds fr → ∃ fr', P [] fr' ∧ forL tg body ds fr = .nx fr'
  | [], fr, p => ⟨fr, p, rfl⟩
  | d :: ds, fr, p => by
    obtain ⟨fr1, fr2, h1, h2, h3⟩ := h d ds fr p
    obtain ⟨fr', h4, h5⟩ := forL_P P h ds fr2 h3
    exact ⟨fr', h4, by unfold forL; simp only [h1, h2]; exact h5⟩
theorem lcL_P {tg : D → Fm → Option Fm} {el : Fm → Out Opn} {vs : List Nat} (P : List D → List D → Fm → Prop)
    (h : ∀ d rest acc fr, P (d :: rest) acc fr → acc.length < sizeLine ∧ ∃ fr1 p fr3 e fr4, tg d fr = some fr1 ∧ el fr1 = .ok p fr3 ∧ frz fr3 p = some (e, fr4) ∧ noBor fr4 vs = true ∧ P rest (acc ++ [e]) (wipeF fr4 vs)) :
    ∀ (ds acc : List D) (fr : Fm), P ds acc fr → ∃ acc' fr', P [] acc' fr' ∧ lcL tg sYes el vs ds acc fr = .ok acc' fr'
  | [], acc, fr, p => ⟨acc, fr, p, rfl⟩
  | d :: ds, acc, fr, p => by
    obtain ⟨hz, fr1, q, fr3, e, fr4, h1, h2, h3, h4, h5⟩ := h d ds acc fr p
    obtain ⟨acc', fr', h6, h7⟩ := lcL_P P h ds (acc ++ [e]) (wipeF fr4 vs) h5
    refine ⟨acc', fr', h6, ?_⟩
    unfold lcL
    have e1 : sYes fr1 = .ok true fr1 := rfl
    have e2 : acc.length < sizeLine ∧ noBor fr4 vs = true := ⟨hz, h4⟩
    simp only [h1, e1, h2, h3, e2, and_self, if_true]
    exact h7
/-- a comprehension that maps, the frame as it was -/
theorem lcL_map {tg : D → Fm → Option Fm} {el : Fm → Out Opn} {vs : List Nat} {fr : Fm} (g : D → D) {ds : List D} (h : ∀ d ∈ ds, ∃ fr1 p fr3 fr4, tg d fr = some fr1 ∧ el fr1 = .ok p fr3 ∧ frz fr3 p = some (g d, fr4) ∧ noBor fr4 vs = true ∧ wipeF fr4 vs = fr) :
    ∀ acc : List D, acc.length + ds.length ≤ sizeLine → lcL tg sYes el vs ds acc fr = .ok (acc ++ ds.map g) fr := by
  induction ds with
  | nil => intro acc _; simp [lcL]
  | cons d ds ih =>
    intro acc hz
    obtain ⟨fr1, p, fr3, fr4, h1, h2, h3, h4, h5⟩ := h d (List.mem_cons_self ..)
    have := ih (fun d hd => h d (List.mem_cons_of_mem _ hd)) (acc ++ [g d]) (by simp at hz ⊢; omega)
    unfold lcL
    have e1 : sYes fr1 = .ok true fr1 := rfl
    have e2 : acc.length < sizeLine ∧ noBor fr4 vs = true := ⟨by simp at hz; omega, h4⟩
    simp only [h1, e1, h2, h3, e2, and_self, if_true, h5]
    rw [this]
    simp
theorem whL_P {c : Fm → Out Bool} {body : Fm → OutS} (P : Nat → Fm → Prop) (h : ∀ n fr, P n fr → (∃ fr1, c fr = .ok false fr1 ∧ P 0 fr1) ∨ ∃ fr1 fr2 m, c fr = .ok true fr1 ∧ body fr1 = .nx fr2 ∧ m < n ∧ P m fr2) :
    ∀ (N n : Nat) (fr : Fm), n < N → P n fr → ∃ fr', P 0 fr' ∧ whL c body N fr = .nx fr'
  | 0, n, fr, hn, p => by omega
  | N + 1, n, fr, hn, p => by
    rcases h n fr p with ⟨fr1, h1, h2⟩ | ⟨fr1, fr2, m, h1, h2, h3, h4⟩
    · exact ⟨fr1, h2, by unfold whL; rw [h1]; rfl⟩
    · obtain ⟨fr', h5, h6⟩ := whL_P P h N m fr2 (by omega) h4
      exact ⟨fr', h5, by unfold whL; rw [h1]; simp only [e_toS_ok, h2]; exact h6⟩
theorem ints_ex {r : Int} (h : 0 ≤ r) : ∃ n : Nat, r = (n : Int) := ⟨r.toNat, by omega⟩
@[simp] theorem z_line : sizeLine = 16777216 := by decide +kernel
end MP
set_option Elab.async false
set_option linter.all false
set_option maxRecDepth 100000
set_option maxHeartbeats 2000000
namespace MP
open PySem PySem.Spec L2
def top (i : Nat) : Stmt := PySem.Challenge.pw_partkeys_k04_whole_log_texts.main.body.getD i (.Pass ⟨0, 0, 0, 0⟩)
/-- the module's facts -/
structure Tx (G : Gx) (mg : Str → Option Value) : Prop where
  n_abs : mg "abs" = none
  n_all : mg "all" = none
  n_bool : mg "bool" = none
  n_dict : mg "dict" = none
  n_enumerate : mg "enumerate" = none
  n_int : mg "int" = none
  n_isinstance : mg "isinstance" = none
  n_len : mg "len" = none
  n_list : mg "list" = none
  n_range : mg "range" = none
  n_str : mg "str" = none
  n_tuple : mg "tuple" = none
  n_zip : mg "zip" = none
  c_DAY : ∃ t, mg "DAY" = some (.str "day" t)
  c_LEAST_PARTS : ∃ t, mg "LEAST_PARTS" = some (.int 2 t)
  c_LETTERS : ∃ t, mg "LETTERS" = some (.str "abcdefghijklmnopqrstuvwxyz" t)
  c_LOCK : ∃ t, mg "LOCK" = some (.str "lock" t)
  c_MOST_DAYS : ∃ t, mg "MOST_DAYS" = some (.int 200 t)
  c_MOST_DIGITS : ∃ t, mg "MOST_DIGITS" = some (.int 9 t)
  c_MOST_EVENTS : ∃ t, mg "MOST_EVENTS" = some (.int 12 t)
  c_MOST_NAME : ∃ t, mg "MOST_NAME" = some (.int 8 t)
  c_MOST_OFFICERS : ∃ t, mg "MOST_OFFICERS" = some (.int 60 t)
  c_MOST_PARTS : ∃ t, mg "MOST_PARTS" = some (.int 12 t)
  c_PAIR : ∃ t, mg "PAIR" = some (.str "pair" t)
  c_SEEN : ∃ t, mg "SEEN" = some (.str "seen" t)
  k_Log : mg "Log" = some (.ref (G.cl 0))
  a_days : ∀ c ∈ ([0] : List Nat), Cls G.K (G.cl c) ∧ NoAttr G.K (G.cl c) "days"
  a_parts : ∀ c ∈ ([0] : List Nat), Cls G.K (G.cl c) ∧ NoAttr G.K (G.cl c) "parts"
abbrev s_is_integer : Stmt := (top 7)
theorem sc_is_integer : FnScope ["thing"] ["thing"] (defScope s_is_integer) := ⟨rfl, rfl, rfl, by decide +kernel, rfl, by decide +kernel, by decide +kernel⟩
def b_is_integer : Fm → OutS := (sRet (sAndV (sB (gTwo (isiG [0])) (sCons (sVar 0) (sCons (sC (.ty "int")) sNil))) (sNotV (sB (gTwo (isiG [0])) (sCons (sVar 0) (sCons (sC (.ty "bool")) sNil))))))
theorem d_is_integer {P : Program} {w : World} {G : Gx} {mg : Str → Option Value} {base : Heap} (T : Tx G mg) (ck : Clk G [0])
    {f : Addr} (cdv : Value) (A : Around) (outer : List Env) (s : Shared) (H : Hp) (B : Bx) (E : XK) (hr : Room 0 (A.deeper (PyProof.Rows.envOfC "is_integer" (defScope s_is_integer) s.heap.objs.size f cdv))) :
    SSs (cxOf (L2.CX P w) P w G.K mg base ["thing"] "is_integer" (defScope s_is_integer) f cdv A outer s H E) G B (fun cls d _ H => E cls d H) (defBody s_is_integer) (b_is_integer) := by
  have tk : Takes (cxOf (L2.CX P w) P w G.K mg base ["thing"] "is_integer" (defScope s_is_integer) f cdv A outer s H E) (fun cls d _ H => E cls d H) := takes_of rfl rfl rfl rfl
  have po := passes_of (X := cxOf (L2.CX P w) P w G.K mg base ["thing"] "is_integer" (defScope s_is_integer) f cdv A outer s H E) rfl
  exact (ss_one (ss_ret (s_andV (s_callB (l_isi rfl ck) rfl T.n_isinstance bt_isinstance (sa_cons (s_var 0) (sa_cons (s_type rfl T.n_int bt_int) sa_nil))) (s_oneV (s_notV (s_callB (l_isi rfl ck) rfl T.n_isinstance bt_isinstance (sa_cons (s_var 0) (sa_cons (s_type rfl T.n_bool bt_bool) sa_nil))))))))
abbrev s_is_name : Stmt := (top 9)
theorem sc_is_name : FnScope ["thing", "sign"] ["thing"] (defScope s_is_name) := ⟨rfl, rfl, rfl, by decide +kernel, rfl, by decide +kernel, by decide +kernel⟩
def b_is_name : Fm → OutS := (sSeq (sIfS (sOr (sNot (sTru (sB (gTwo (isiG [0])) (sCons (sVar 0) (sCons (sC (.ty "str")) sNil))))) (sNot (sTst (sChain (gI0 fun i j => .bl (decide (i ≤ j))) (gI0 fun i j => .bl (decide (i ≤ j))) (sC (.int 1)) (sB (gOne lenD) (sCons (sVar 0) sNil)) (sC (.int 8)))))) (sRet (sC (.bl false))) sSkip) (sRet (sB (gOne allD) (sCons (sLc (iAnyF (sVar 0)) (gN 1) sYes (sBin (inG false) (sVar 1) (sC (.str "abcdefghijklmnopqrstuvwxyz"))) [1]) sNil))))
theorem d_is_name {P : Program} {w : World} {G : Gx} {mg : Str → Option Value} {base : Heap} (T : Tx G mg) (ck : Clk G [0])
    {f : Addr} (cdv : Value) (A : Around) (outer : List Env) (s : Shared) (H : Hp) (B : Bx) (E : XK) (hr : Room 0 (A.deeper (PyProof.Rows.envOfC "is_name" (defScope s_is_name) s.heap.objs.size f cdv))) :
    SSs (cxOf (L2.CX P w) P w G.K mg base ["thing", "sign"] "is_name" (defScope s_is_name) f cdv A outer s H E) G B (fun cls d _ H => E cls d H) (defBody s_is_name) (b_is_name) := by
  have tk : Takes (cxOf (L2.CX P w) P w G.K mg base ["thing", "sign"] "is_name" (defScope s_is_name) f cdv A outer s H E) (fun cls d _ H => E cls d H) := takes_of rfl rfl rfl rfl
  have po := passes_of (X := cxOf (L2.CX P w) P w G.K mg base ["thing", "sign"] "is_name" (defScope s_is_name) f cdv A outer s H E) rfl
  exact (ss_cons (ss_if (PW.pt (s_or (s_not (s_tru rfl (s_callB (l_isi rfl ck) rfl T.n_isinstance bt_isinstance (sa_cons (s_var 0) (sa_cons (s_type rfl T.n_str bt_str) sa_nil))))) (s_or1 (s_not (s_chainT l_le l_le s_int (s_callB (l_len rfl) rfl T.n_len bt_len (sa_cons (s_var 0) sa_nil)) (s_gintE T.c_MOST_NAME rfl)))))) (ss_one (ss_ret s_bl)) ss_nil)
    (ss_one (ss_ret (s_callB (l_all rfl rfl) rfl T.n_all bt_all (sa_cons (s_lc (own := [("sign", 1)]) rfl sc_is_name.nd (si_any rfl (s_var 0)) (blkOk_by (N := ["thing", "sign"]) (sc := defScope s_is_name) (by decide +kernel)) (fun _ _ _ _ _ => (sg_name 1 sc_is_name.nd rfl (by first | exact Or.inl rfl | exact Or.inr rfl))) (fun _ _ _ _ _ => sts_nil) (fun _ _ _ _ _ => (s_cmp (l_in rfl) (s_var 1) (s_gstrE T.c_LETTERS rfl)))) sa_nil)))))
abbrev s_names_in : Stmt := (top 11)
theorem sc_names_in : FnScope ["event"] ["event"] (defScope s_names_in) := ⟨rfl, rfl, rfl, by decide +kernel, rfl, by decide +kernel, by decide +kernel⟩
def b_names_in : Fm → OutS := (sRet (sIf (sTst (sBin eqG (sBin ixG (sVar 0) (sC (.int 0))) (sC (.str "seen")))) (sTup (sCons (sBin ixG (sVar 0) (sC (.int 1))) sNil)) (sTup (sCons (sBin ixG (sVar 0) (sC (.int 1))) (sCons (sBin ixG (sVar 0) (sC (.int 2))) sNil)))))
theorem d_names_in {P : Program} {w : World} {G : Gx} {mg : Str → Option Value} {base : Heap} (T : Tx G mg)
    {f : Addr} (cdv : Value) (A : Around) (outer : List Env) (s : Shared) (H : Hp) (B : Bx) (E : XK) (hr : Room 0 (A.deeper (PyProof.Rows.envOfC "names_in" (defScope s_names_in) s.heap.objs.size f cdv))) :
    SSs (cxOf (L2.CX P w) P w G.K mg base ["event"] "names_in" (defScope s_names_in) f cdv A outer s H E) G B (fun cls d _ H => E cls d H) (defBody s_names_in) (b_names_in) := by
  have tk : Takes (cxOf (L2.CX P w) P w G.K mg base ["event"] "names_in" (defScope s_names_in) f cdv A outer s H E) (fun cls d _ H => E cls d H) := takes_of rfl rfl rfl rfl
  have po := passes_of (X := cxOf (L2.CX P w) P w G.K mg base ["event"] "names_in" (defScope s_names_in) f cdv A outer s H E) rfl
  exact (ss_one (ss_ret (s_ifE (s_cmpT (l_eqD rfl hr.units) (s_ix (l_ix rfl) (s_var 0) s_int) (s_gstrE T.c_SEEN rfl)) (s_tup (sa_cons (s_ix (l_ix rfl) (s_var 0) s_int) sa_nil)) (s_tup (sa_cons (s_ix (l_ix rfl) (s_var 0) s_int) (sa_cons (s_ix (l_ix rfl) (s_var 0) s_int) sa_nil))))))
abbrev s_Log_eq : Stmt := (inClass (top 30) 1)
theorem sc_Log_eq : FnScope ["self", "other"] ["self", "other"] (defScope s_Log_eq) := ⟨rfl, rfl, rfl, by decide +kernel, rfl, by decide +kernel, by decide +kernel⟩
def b_Log_eq : Fm → OutS := (sSeq (sIfS (sNot (sTru (sB (gTwo (isiG [0])) (sCons (sVar 1) (sCons (sC (.cls 0)) sNil))))) (sRet (sC (.bl false))) sSkip) (sRet (sAndV (sBin eqG (sFld [0] "parts" (sVar 0)) (sFld [0] "parts" (sVar 1))) (sBin eqG (sFld [0] "days" (sVar 0)) (sFld [0] "days" (sVar 1))))))
theorem d_Log_eq {P : Program} {w : World} {G : Gx} {mg : Str → Option Value} {base : Heap} (T : Tx G mg) (ck : Clk G [0])
    {f : Addr} (cdv : Value) (A : Around) (outer : List Env) (s : Shared) (H : Hp) (B : Bx) (E : XK) (hr : Room 0 (A.deeper (PyProof.Rows.envOfC "Log.__eq__" (defScope s_Log_eq) s.heap.objs.size f cdv))) :
    SSs (cxOf (L2.CX P w) P w G.K mg base ["self", "other"] "Log.__eq__" (defScope s_Log_eq) f cdv A outer s H E) G B (fun cls d _ H => E cls d H) (defBody s_Log_eq) (b_Log_eq) := by
  have tk : Takes (cxOf (L2.CX P w) P w G.K mg base ["self", "other"] "Log.__eq__" (defScope s_Log_eq) f cdv A outer s H E) (fun cls d _ H => E cls d H) := takes_of rfl rfl rfl rfl
  have po := passes_of (X := cxOf (L2.CX P w) P w G.K mg base ["self", "other"] "Log.__eq__" (defScope s_Log_eq) f cdv A outer s H E) rfl
  exact (ss_cons (ss_if (s_not (s_tru rfl (s_callB (l_isi rfl ck) rfl T.n_isinstance bt_isinstance (sa_cons (s_var 1) (sa_cons (s_gclsE (c := 0) T.k_Log rfl) sa_nil))))) (ss_one (ss_ret s_bl)) ss_nil)
    (ss_one (ss_ret (s_andV (s_cmp (l_eqD rfl hr.units) (s_fld rfl T.a_parts (s_var 0)) (s_fld rfl T.a_parts (s_var 1))) (s_oneV (s_cmp (l_eqD rfl hr.units) (s_fld rfl T.a_days (s_var 0)) (s_fld rfl T.a_days (s_var 1))))))))
abbrev s_Log_len : Stmt := (inClass (top 30) 2)
theorem sc_Log_len : FnScope ["self"] ["self"] (defScope s_Log_len) := ⟨rfl, rfl, rfl, by decide +kernel, rfl, by decide +kernel, by decide +kernel⟩
def b_Log_len : Fm → OutS := (sRet (sB (gOne lenD) (sCons (sFld [0] "days" (sVar 0)) sNil)))
theorem d_Log_len {P : Program} {w : World} {G : Gx} {mg : Str → Option Value} {base : Heap} (T : Tx G mg)
    {f : Addr} (cdv : Value) (A : Around) (outer : List Env) (s : Shared) (H : Hp) (B : Bx) (E : XK) (hr : Room 0 (A.deeper (PyProof.Rows.envOfC "Log.__len__" (defScope s_Log_len) s.heap.objs.size f cdv))) :
    SSs (cxOf (L2.CX P w) P w G.K mg base ["self"] "Log.__len__" (defScope s_Log_len) f cdv A outer s H E) G B (fun cls d _ H => E cls d H) (defBody s_Log_len) (b_Log_len) := by
  have tk : Takes (cxOf (L2.CX P w) P w G.K mg base ["self"] "Log.__len__" (defScope s_Log_len) f cdv A outer s H E) (fun cls d _ H => E cls d H) := takes_of rfl rfl rfl rfl
  have po := passes_of (X := cxOf (L2.CX P w) P w G.K mg base ["self"] "Log.__len__" (defScope s_Log_len) f cdv A outer s H E) rfl
  exact (ss_one (ss_ret (s_callB (l_len rfl) rfl T.n_len bt_len (sa_cons (s_fld rfl T.a_days (s_var 0)) sa_nil))))
abbrev s_check_log : Stmt := (top 31)
theorem sc_check_log : FnScope ["log"] ["log"] (defScope s_check_log) := ⟨rfl, rfl, rfl, by decide +kernel, rfl, by decide +kernel, by decide +kernel⟩
def b_check_log : Fm → OutS := (sIfS (sNot (sTru (sB (gTwo (isiG [0])) (sCons (sVar 0) (sCons (sC (.cls 0)) sNil))))) sBad sSkip)
theorem d_check_log {P : Program} {w : World} {G : Gx} {mg : Str → Option Value} {base : Heap} (T : Tx G mg) (ck : Clk G [0])
    {f : Addr} (cdv : Value) (A : Around) (outer : List Env) (s : Shared) (H : Hp) (B : Bx) (E : XK) (hr : Room 0 (A.deeper (PyProof.Rows.envOfC "check_log" (defScope s_check_log) s.heap.objs.size f cdv))) :
    SSs (cxOf (L2.CX P w) P w G.K mg base ["log"] "check_log" (defScope s_check_log) f cdv A outer s H E) G B (fun cls d _ H => E cls d H) (defBody s_check_log) (b_check_log) := by
  have tk : Takes (cxOf (L2.CX P w) P w G.K mg base ["log"] "check_log" (defScope s_check_log) f cdv A outer s H E) (fun cls d _ H => E cls d H) := takes_of rfl rfl rfl rfl
  have po := passes_of (X := cxOf (L2.CX P w) P w G.K mg base ["log"] "check_log" (defScope s_check_log) f cdv A outer s H E) rfl
  exact (ss_one (ss_if (s_not (s_tru rfl (s_callB (l_isi rfl ck) rfl T.n_isinstance bt_isinstance (sa_cons (s_var 0) (sa_cons (s_gclsE (c := 0) T.k_Log rfl) sa_nil))))) (ss_one ss_bad) ss_nil))
abbrev s_integer_of : Stmt := (top 37)
theorem sc_integer_of : FnScope ["word", "sign"] ["word"] (defScope s_integer_of) := ⟨rfl, rfl, rfl, by decide +kernel, rfl, by decide +kernel, by decide +kernel⟩
def b_integer_of : Fm → OutS := (sSeq (sIfS (sOr (sNot (sTst (sChain (gI0 fun i j => .bl (decide (i ≤ j))) (gI0 fun i j => .bl (decide (i ≤ j))) (sC (.int 1)) (sB (gOne lenD) (sCons (sVar 0) sNil)) (sC (.int 9))))) (sNot (sTru (sB (gOne allD) (sCons (sLc (iAnyF (sVar 0)) (gN 1) sYes (sBin (inG false) (sVar 1) (sC (.str "0123456789"))) [1]) sNil))))) (sRet (sC .non)) sSkip) (sRet (sIf (sAnd (sTst (sBin eqG (sBin ixG (sVar 0) (sC (.int 0))) (sC (.str "0")))) (sTst (sBin (gI0 fun i j => .bl (decide (j < i))) (sB (gOne lenD) (sCons (sVar 0) sNil)) (sC (.int 1))))) (sC .non) (sB (gOne intD) (sCons (sVar 0) sNil)))))
theorem d_integer_of {P : Program} {w : World} {G : Gx} {mg : Str → Option Value} {base : Heap} (T : Tx G mg)
    {f : Addr} (cdv : Value) (A : Around) (outer : List Env) (s : Shared) (H : Hp) (B : Bx) (E : XK) (hr : Room 0 (A.deeper (PyProof.Rows.envOfC "integer_of" (defScope s_integer_of) s.heap.objs.size f cdv))) :
    SSs (cxOf (L2.CX P w) P w G.K mg base ["word", "sign"] "integer_of" (defScope s_integer_of) f cdv A outer s H E) G B (fun cls d _ H => E cls d H) (defBody s_integer_of) (b_integer_of) := by
  have tk : Takes (cxOf (L2.CX P w) P w G.K mg base ["word", "sign"] "integer_of" (defScope s_integer_of) f cdv A outer s H E) (fun cls d _ H => E cls d H) := takes_of rfl rfl rfl rfl
  have po := passes_of (X := cxOf (L2.CX P w) P w G.K mg base ["word", "sign"] "integer_of" (defScope s_integer_of) f cdv A outer s H E) rfl
  exact (ss_cons (ss_if (PW.pt (s_or (s_not (s_chainT l_le l_le s_int (s_callB (l_len rfl) rfl T.n_len bt_len (sa_cons (s_var 0) sa_nil)) (s_gintE T.c_MOST_DIGITS rfl))) (s_or1 (s_not (s_tru rfl (s_callB (l_all rfl rfl) rfl T.n_all bt_all (sa_cons (s_lc (own := [("sign", 1)]) rfl sc_integer_of.nd (si_any rfl (s_var 0)) (blkOk_by (N := ["word", "sign"]) (sc := defScope s_integer_of) (by decide +kernel)) (fun _ _ _ _ _ => (sg_name 1 sc_integer_of.nd rfl (by first | exact Or.inl rfl | exact Or.inr rfl))) (fun _ _ _ _ _ => sts_nil) (fun _ _ _ _ _ => (s_cmp (l_in rfl) (s_var 1) s_str))) sa_nil))))))) (ss_one (ss_ret s_non)) ss_nil)
    (ss_one (ss_ret (s_ifE (PW.pt (s_and (s_cmpT (l_eqD rfl hr.units) (s_ix (l_ix rfl) (s_var 0) s_int) s_str) (s_and1 (s_cmpT l_gt (s_callB (l_len rfl) rfl T.n_len bt_len (sa_cons (s_var 0) sa_nil)) s_int)))) s_non (s_callTy l_int rfl T.n_int bt_int (sa_cons (s_var 0) sa_nil))))))
abbrev s_law_hand : Stmt := (top 43)
theorem sc_law_hand : FnScope ["script", "cells", "cell"] ["script"] (defScope s_law_hand) := ⟨rfl, rfl, rfl, by decide +kernel, rfl, by decide +kernel, by decide +kernel⟩
def b_law_hand : Fm → OutS := (sSeq (sSet 1 (sLc (iAnyF (sSl slG (sVar 0) sP0 (sP1 (sC (.int 63))))) (gN 2) sYes (sB (gOne absD) (sCons (sB (gOne intD) (sCons (sVar 2) sNil)) sNil)) [2])) (sRet (sLst (sCons (sVar 1) (sCons (sC (.int 0)) (sCons (sC (.int 0)) (sCons (sBin addD (sC (.int 61)) (sBin mulD (sC (.int 7)) (sB (gOne lenD) (sCons (sVar 1) sNil)))) (sCons (sC (.int 0)) sNil))))))))
theorem d_law_hand {P : Program} {w : World} {G : Gx} {mg : Str → Option Value} {base : Heap} (T : Tx G mg)
    {f : Addr} (cdv : Value) (A : Around) (outer : List Env) (s : Shared) (H : Hp) (B : Bx) (E : XK) (hr : Room 0 (A.deeper (PyProof.Rows.envOfC "_law_hand" (defScope s_law_hand) s.heap.objs.size f cdv))) :
    SSs (cxOf (L2.CX P w) P w G.K mg base ["script", "cells", "cell"] "_law_hand" (defScope s_law_hand) f cdv A outer s H E) G B (fun cls d _ H => E cls d H) (defBody s_law_hand) (b_law_hand) := by
  have tk : Takes (cxOf (L2.CX P w) P w G.K mg base ["script", "cells", "cell"] "_law_hand" (defScope s_law_hand) f cdv A outer s H E) (fun cls d _ H => E cls d H) := takes_of rfl rfl rfl rfl
  have po := passes_of (X := cxOf (L2.CX P w) P w G.K mg base ["script", "cells", "cell"] "_law_hand" (defScope s_law_hand) f cdv A outer s H E) rfl
  exact (ss_cons (ss_setLc 1 (own := [("cell", 2)]) rfl sc_law_hand.nd rfl rfl rfl (si_any rfl (s_sl (l_sl rfl) (s_var 0) sp_none (sp_some s_int))) (blkOk_by (N := ["script", "cells", "cell"]) (sc := defScope s_law_hand) (by decide +kernel)) (fun _ _ _ _ _ => (sg_name 2 sc_law_hand.nd rfl (by first | exact Or.inl rfl | exact Or.inr rfl))) (fun _ _ _ _ _ => sts_nil) (fun _ _ _ _ _ => (s_callB l_abs rfl T.n_abs bt_abs (sa_cons (s_callTy l_int rfl T.n_int bt_int (sa_cons (s_var 2) sa_nil)) sa_nil))))
    (ss_one (ss_ret (s_lst (sa_cons (s_var 1) (sa_cons s_int (sa_cons s_int (sa_cons (s_bin l_add s_int (s_bin l_mul s_int (s_callB (l_len rfl) rfl T.n_len bt_len (sa_cons (s_var 1) sa_nil)))) (sa_cons s_int sa_nil)))))))))
abbrev s_law_draw : Stmt := (top 44)
theorem sc_law_draw : FnScope ["hand", "many", "cell", "digit", "number"] ["hand", "many"] (defScope s_law_draw) := ⟨rfl, rfl, rfl, by decide +kernel, rfl, by decide +kernel, by decide +kernel⟩
def b_law_draw : Fm → OutS := (sSeq (sIfS (sAnd (sTst (sBin eqG (sBin ixG (sVar 0) (sC (.int 2))) (sC (.int 0)))) (sTst (sBin (gI0 fun i j => .bl (decide (i < j))) (sBin ixG (sVar 0) (sC (.int 1))) (sB (gOne lenD) (sCons (sBin ixG (sVar 0) (sC (.int 0))) sNil))))) (sSeq (sSet 2 (sBin ixG (sBin ixG (sVar 0) (sC (.int 0))) (sBin ixG (sVar 0) (sC (.int 1))))) (sSeq (sPut setLG (sBin addD (sBin ixG (sVar 0) (sC (.int 1))) (sC (.int 1))) (sVar 0) (sC (.int 1))) (sSeq (sPut setLG (sBin (gI (fun _ j => decide (0 < j)) fun i j => .int (i % j)) (sB (gOne intD) (sCons (sBin addD (sBin addD (sBin mulD (sBin ixG (sVar 0) (sC (.int 3))) (sC (.int 69621))) (sBin mulD (sVar 2) (sC (.int 40692)))) (sC (.int 23))) sNil)) (sC (.int 2147483629))) (sVar 0) (sC (.int 3))) (sIfS (sTst (sBin (gI0 fun i j => .bl (decide (j ≤ i))) (sVar 2) (sBin (gI powC fun i j => .int (i ^ j.toNat)) (sC (.int 10)) (sC (.int 18))))) (sPut setLG (sVar 2) (sVar 0) (sC (.int 2))) sSkip)))) sSkip) (sSeq (sIfS (sTst (sBin (gI0 fun i j => .bl (decide (j < i))) (sBin ixG (sVar 0) (sC (.int 2))) (sC (.int 0)))) (sSeq (sSet 3 (sBin (gI (fun _ j => decide (0 < j)) fun i j => .int (i % j)) (sB (gOne intD) (sCons (sBin ixG (sVar 0) (sC (.int 2))) sNil)) (sVar 1))) (sSeq (sPut setLG (sBin (gI divC fun i j => .int (i / j)) (sBin ixG (sVar 0) (sC (.int 2))) (sVar 1)) (sVar 0) (sC (.int 2))) (sRet (sVar 3)))) sSkip) (sSeq (sPut setLG (sBin addD (sBin ixG (sVar 0) (sC (.int 4))) (sC (.int 1))) (sVar 0) (sC (.int 4))) (sSeq (sSet 4 (sBin (gI (fun _ j => decide (0 < j)) fun i j => .int (i % j)) (sB (gOne intD) (sCons (sBin mulD (sB (gOne intD) (sCons (sBin addD (sBin ixG (sVar 0) (sC (.int 3))) (sBin mulD (sC (.int 7919)) (sBin ixG (sVar 0) (sC (.int 4))))) sNil)) (sC (.int 48271))) sNil)) (sC (.int 2147483647)))) (sSeq (sSet 4 (sBin (gI (fun _ j => decide (0 < j)) fun i j => .int (i % j)) (sB (gOne intD) (sCons (sBin mulD (sVar 4) (sBin addD (sBin (gI divC fun i j => .int (i / j)) (sVar 4) (sC (.int 1009))) (sC (.int 69621)))) sNil)) (sC (.int 2147483647)))) (sSeq (sSet 4 (sBin (gI (fun _ j => decide (0 < j)) fun i j => .int (i % j)) (sB (gOne intD) (sCons (sBin mulD (sVar 4) (sBin addD (sBin (gI divC fun i j => .int (i / j)) (sVar 4) (sC (.int 2003))) (sC (.int 40014)))) sNil)) (sC (.int 2147483563)))) (sRet (sBin (gI (fun _ j => decide (0 < j)) fun i j => .int (i % j)) (sB (gOne intD) (sCons (sBin (gI divC fun i j => .int (i / j)) (sVar 4) (sC (.int 16))) sNil)) (sVar 1)))))))))
theorem d_law_draw {P : Program} {w : World} {G : Gx} {mg : Str → Option Value} {base : Heap} (T : Tx G mg)
    {f : Addr} (cdv : Value) (A : Around) (outer : List Env) (s : Shared) (H : Hp) (B : Bx) (E : XK) (hr : Room 0 (A.deeper (PyProof.Rows.envOfC "_law_draw" (defScope s_law_draw) s.heap.objs.size f cdv))) :
    SSs (cxOf (L2.CX P w) P w G.K mg base ["hand", "many", "cell", "digit", "number"] "_law_draw" (defScope s_law_draw) f cdv A outer s H E) G B (fun cls d _ H => E cls d H) (defBody s_law_draw) (b_law_draw) := by
  have tk : Takes (cxOf (L2.CX P w) P w G.K mg base ["hand", "many", "cell", "digit", "number"] "_law_draw" (defScope s_law_draw) f cdv A outer s H E) (fun cls d _ H => E cls d H) := takes_of rfl rfl rfl rfl
  have po := passes_of (X := cxOf (L2.CX P w) P w G.K mg base ["hand", "many", "cell", "digit", "number"] "_law_draw" (defScope s_law_draw) f cdv A outer s H E) rfl
  exact (ss_cons (ss_if (PW.pt (s_and (s_cmpT (l_eqD rfl hr.units) (s_ix (l_ix rfl) (s_var 0) s_int) s_int) (s_and1 (s_cmpT l_lt (s_ix (l_ix rfl) (s_var 0) s_int) (s_callB (l_len rfl) rfl T.n_len bt_len (sa_cons (s_ix (l_ix rfl) (s_var 0) s_int) sa_nil)))))) (ss_cons (ss_set 2 sc_law_draw.nd rfl (by first | exact Or.inl rfl | exact Or.inr rfl) (s_ix (l_ix rfl) (s_ix (l_ix rfl) (s_var 0) s_int) (s_ix (l_ix rfl) (s_var 0) s_int)))
    (ss_cons (ss_put l_setL (s_bin l_add (s_ix (l_ix rfl) (s_var 0) s_int) s_int) (pg_sub (s_var 0) s_int set_list))
    (ss_cons (ss_put l_setL (s_bin l_modI (s_callTy l_int rfl T.n_int bt_int (sa_cons (s_bin l_add (s_bin l_add (s_bin l_mul (s_ix (l_ix rfl) (s_var 0) s_int) s_int) (s_bin l_mul (s_var 2) s_int)) s_int) sa_nil)) s_int) (pg_sub (s_var 0) s_int set_list))
    (ss_one (ss_if (s_cmpT l_ge (s_var 2) (s_bin l_powI s_int s_int)) (ss_one (ss_put l_setL (s_var 2) (pg_sub (s_var 0) s_int set_list))) ss_nil))))) ss_nil)
    (ss_cons (ss_if (s_cmpT l_gt (s_ix (l_ix rfl) (s_var 0) s_int) s_int) (ss_cons (ss_set 3 sc_law_draw.nd rfl (by first | exact Or.inl rfl | exact Or.inr rfl) (s_bin l_modI (s_callTy l_int rfl T.n_int bt_int (sa_cons (s_ix (l_ix rfl) (s_var 0) s_int) sa_nil)) (s_var 1)))
    (ss_cons (ss_put l_setL (s_bin l_divI (s_ix (l_ix rfl) (s_var 0) s_int) (s_var 1)) (pg_sub (s_var 0) s_int set_list))
    (ss_one (ss_ret (s_var 3))))) ss_nil)
    (ss_cons (ss_put l_setL (s_bin l_add (s_ix (l_ix rfl) (s_var 0) s_int) s_int) (pg_sub (s_var 0) s_int set_list))
    (ss_cons (ss_set 4 sc_law_draw.nd rfl (by first | exact Or.inl rfl | exact Or.inr rfl) (s_bin l_modI (s_callTy l_int rfl T.n_int bt_int (sa_cons (s_bin l_mul (s_callTy l_int rfl T.n_int bt_int (sa_cons (s_bin l_add (s_ix (l_ix rfl) (s_var 0) s_int) (s_bin l_mul s_int (s_ix (l_ix rfl) (s_var 0) s_int))) sa_nil)) s_int) sa_nil)) s_int))
    (ss_cons (ss_set 4 sc_law_draw.nd rfl (by first | exact Or.inl rfl | exact Or.inr rfl) (s_bin l_modI (s_callTy l_int rfl T.n_int bt_int (sa_cons (s_bin l_mul (s_var 4) (s_bin l_add (s_bin l_divI (s_var 4) s_int) s_int)) sa_nil)) s_int))
    (ss_cons (ss_set 4 sc_law_draw.nd rfl (by first | exact Or.inl rfl | exact Or.inr rfl) (s_bin l_modI (s_callTy l_int rfl T.n_int bt_int (sa_cons (s_bin l_mul (s_var 4) (s_bin l_add (s_bin l_divI (s_var 4) s_int) s_int)) sa_nil)) s_int))
    (ss_one (ss_ret (s_bin l_modI (s_callTy l_int rfl T.n_int bt_int (sa_cons (s_bin l_divI (s_var 4) s_int) sa_nil)) (s_var 1))))))))))
abbrev s_law_text : Stmt := (top 53)
theorem sc_law_text : FnScope ["parts", "days", "lines", "day", "words", "event", "one", "line"] ["parts", "days"] (defScope s_law_text) := ⟨rfl, rfl, rfl, by decide +kernel, rfl, by decide +kernel, by decide +kernel⟩
def b_law_text : Fm → OutS := (sSeq (sSet 2 (sLst (sCons (sBin addD (sC (.str "lock ")) (sB (gOne strD) (sCons (sVar 0) sNil))) sNil))) (sSeq (sFor (iAnyF (sVar 1)) (gN 3) (sSeq (sSet 4 (sLst (sCons (sC (.str "day")) sNil))) (sSeq (sFor (iAnyF (sVar 3)) (gN 5) (sExpr (sW "list" extG (sVar 4) (sCons (sLc (iAnyF (sVar 5)) (gN 6) sYes (sB (gOne strD) (sCons (sVar 6) sNil)) [6]) sNil)))) (sExpr (sW "list" appG (sVar 2) (sCons (sM "str" joinG (sC (.str " ")) (sCons (sVar 4) sNil)) sNil)))))) (sRet (sM "str" joinG (sC (.str "")) (sCons (sLc (iAnyF (sVar 2)) (gN 7) sYes (sBin addD (sVar 7) (sC (.str "\n"))) [7]) sNil)))))
theorem d_law_text {P : Program} {w : World} {G : Gx} {mg : Str → Option Value} {base : Heap} (T : Tx G mg)
    {f : Addr} (cdv : Value) (A : Around) (outer : List Env) (s : Shared) (H : Hp) (B : Bx) (E : XK) (hr : Room 0 (A.deeper (PyProof.Rows.envOfC "_law_text" (defScope s_law_text) s.heap.objs.size f cdv))) :
    SSs (cxOf (L2.CX P w) P w G.K mg base ["parts", "days", "lines", "day", "words", "event", "one", "line"] "_law_text" (defScope s_law_text) f cdv A outer s H E) G B (fun cls d _ H => E cls d H) (defBody s_law_text) (b_law_text) := by
  have tk : Takes (cxOf (L2.CX P w) P w G.K mg base ["parts", "days", "lines", "day", "words", "event", "one", "line"] "_law_text" (defScope s_law_text) f cdv A outer s H E) (fun cls d _ H => E cls d H) := takes_of rfl rfl rfl rfl
  have po := passes_of (X := cxOf (L2.CX P w) P w G.K mg base ["parts", "days", "lines", "day", "words", "event", "one", "line"] "_law_text" (defScope s_law_text) f cdv A outer s H E) rfl
  exact (ss_cons (ss_set 2 sc_law_text.nd rfl (by first | exact Or.inl rfl | exact Or.inr rfl) (s_lst (sa_cons (s_bin l_add s_str (s_callTy l_str rfl T.n_str bt_str (sa_cons (s_var 0) sa_nil))) sa_nil)))
    (ss_cons (ss_for po rfl (si_any rfl (s_var 1)) (sg_name 3 sc_law_text.nd rfl (by first | exact Or.inl rfl | exact Or.inr rfl)) (ss_cons (ss_set 4 sc_law_text.nd rfl (by first | exact Or.inl rfl | exact Or.inr rfl) (s_lst (sa_cons s_str sa_nil)))
    (ss_cons (ss_for po rfl (si_any rfl (s_var 3)) (sg_name 5 sc_law_text.nd rfl (by first | exact Or.inl rfl | exact Or.inr rfl)) (ss_one (ss_expr (s_w rfl PySem.F.plainAttrs_list PySem.F.slot_list_extend PySem.F.type_list_extend l_extend (s_var 4) (sa_cons (s_lc (own := [("one", 6)]) rfl sc_law_text.nd (si_any rfl (s_var 5)) (blkOk_by (N := ["parts", "days", "lines", "day", "words", "event", "one", "line"]) (sc := defScope s_law_text) (by decide +kernel)) (fun _ _ _ _ _ => (sg_name 6 sc_law_text.nd rfl (by first | exact Or.inl rfl | exact Or.inr rfl))) (fun _ _ _ _ _ => sts_nil) (fun _ _ _ _ _ => (s_callTy l_str rfl T.n_str bt_str (sa_cons (s_var 6) sa_nil)))) sa_nil)))))
    (ss_one (ss_expr (s_w rfl PySem.F.plainAttrs_list PySem.F.slot_list_append PySem.F.type_list_append l_append (s_var 2) (sa_cons (s_m rfl PySem.F.plainAttrs_str PySem.F.slot_str_join PySem.F.type_str_join (l_join rfl) s_str (sa_cons (s_var 4) sa_nil)) sa_nil)))))))
    (ss_one (ss_ret (s_m rfl PySem.F.plainAttrs_str PySem.F.slot_str_join PySem.F.type_str_join (l_join rfl) s_str (sa_cons (s_lc (own := [("line", 7)]) rfl sc_law_text.nd (si_any rfl (s_var 2)) (blkOk_by (N := ["parts", "days", "lines", "day", "words", "event", "one", "line"]) (sc := defScope s_law_text) (by decide +kernel)) (fun _ _ _ _ _ => (sg_name 7 sc_law_text.nd rfl (by first | exact Or.inl rfl | exact Or.inr rfl))) (fun _ _ _ _ _ => sts_nil) (fun _ _ _ _ _ => (s_bin l_add (s_var 7) s_str))) sa_nil))))))
abbrev s_is_within : Stmt := (top 8)
theorem sc_is_within : FnScope ["thing", "low", "high"] ["thing", "low", "high"] (defScope s_is_within) := ⟨rfl, rfl, rfl, by decide +kernel, rfl, by decide +kernel, by decide +kernel⟩
def b_is_within (R_is_integer : List Val → Rs) : Fm → OutS := (sRet (sAndV (sCall R_is_integer (sCons (sVar 0) sNil)) (sChain (gI0 fun i j => .bl (decide (i ≤ j))) (gI0 fun i j => .bl (decide (i ≤ j))) (sVar 1) (sVar 0) (sVar 2))))
theorem d_is_within {P : Program} {w : World} {G : Gx} {mg : Str → Option Value} {base : Heap} (T : Tx G mg) {R_is_integer : List Val → Rs} (c_is_integer : Cal P w G mg base "is_integer" 1 R_is_integer)
    {f : Addr} (cdv : Value) (A : Around) (outer : List Env) (s : Shared) (H : Hp) (B : Bx) (E : XK) (hr : Room 1 (A.deeper (PyProof.Rows.envOfC "is_within" (defScope s_is_within) s.heap.objs.size f cdv))) :
    SSs (cxOf (L2.CX P w) P w G.K mg base ["thing", "low", "high"] "is_within" (defScope s_is_within) f cdv A outer s H E) G B (fun cls d _ H => E cls d H) (defBody s_is_within) (b_is_within R_is_integer) := by
  have tk : Takes (cxOf (L2.CX P w) P w G.K mg base ["thing", "low", "high"] "is_within" (defScope s_is_within) f cdv A outer s H E) (fun cls d _ H => E cls d H) := takes_of rfl rfl rfl rfl
  have po := passes_of (X := cxOf (L2.CX P w) P w G.K mg base ["thing", "low", "high"] "is_within" (defScope s_is_within) f cdv A outer s H E) rfl
  exact (ss_one (ss_ret (s_andV (s_callC c_is_integer tk hr (by decide) rfl rfl (sa_cons (s_var 0) sa_nil)) (s_oneV (s_chain l_le l_le (s_var 1) (s_var 0) (s_var 2))))))
abbrev s_take_names : Stmt := (top 28)
theorem sc_take_names : FnScope ["names", "event", "name"] ["names", "event"] (defScope s_take_names) := ⟨rfl, rfl, rfl, by decide +kernel, rfl, by decide +kernel, by decide +kernel⟩
def b_take_names (R_names_in : List Val → Rs) : Fm → OutS := (sSeq (sFor (iAnyF (sCall R_names_in (sCons (sVar 1) sNil))) (gN 2) (sIfS (sTst (sBin (inG true) (sVar 2) (sVar 0))) (sExpr (sW "list" appG (sVar 0) (sCons (sVar 2) sNil))) sSkip)) (sRet (sBin (gI0 fun i j => .bl (decide (i ≤ j))) (sB (gOne lenD) (sCons (sVar 0) sNil)) (sC (.int 60)))))
theorem d_take_names {P : Program} {w : World} {G : Gx} {mg : Str → Option Value} {base : Heap} (T : Tx G mg) {R_names_in : List Val → Rs} (c_names_in : Cal P w G mg base "names_in" 1 R_names_in)
    {f : Addr} (cdv : Value) (A : Around) (outer : List Env) (s : Shared) (H : Hp) (B : Bx) (E : XK) (hr : Room 1 (A.deeper (PyProof.Rows.envOfC "take_names" (defScope s_take_names) s.heap.objs.size f cdv))) :
    SSs (cxOf (L2.CX P w) P w G.K mg base ["names", "event", "name"] "take_names" (defScope s_take_names) f cdv A outer s H E) G B (fun cls d _ H => E cls d H) (defBody s_take_names) (b_take_names R_names_in) := by
  have tk : Takes (cxOf (L2.CX P w) P w G.K mg base ["names", "event", "name"] "take_names" (defScope s_take_names) f cdv A outer s H E) (fun cls d _ H => E cls d H) := takes_of rfl rfl rfl rfl
  have po := passes_of (X := cxOf (L2.CX P w) P w G.K mg base ["names", "event", "name"] "take_names" (defScope s_take_names) f cdv A outer s H E) rfl
  exact (ss_cons (ss_for po rfl (si_any rfl (s_callC c_names_in tk hr (by decide) rfl rfl (sa_cons (s_var 1) sa_nil))) (sg_name 2 sc_take_names.nd rfl (by first | exact Or.inl rfl | exact Or.inr rfl)) (ss_one (ss_if (s_cmpT (l_notIn rfl) (s_var 2) (s_var 0)) (ss_one (ss_expr (s_w rfl PySem.F.plainAttrs_list PySem.F.slot_list_append PySem.F.type_list_append l_append (s_var 0) (sa_cons (s_var 2) sa_nil)))) ss_nil)))
    (ss_one (ss_ret (s_cmp l_le (s_callB (l_len rfl) rfl T.n_len bt_len (sa_cons (s_var 0) sa_nil)) (s_gintE T.c_MOST_OFFICERS rfl)))))
abbrev s_check_same_parts : Stmt := (top 33)
theorem sc_check_same_parts : FnScope ["one", "other"] ["one", "other"] (defScope s_check_same_parts) := ⟨rfl, rfl, rfl, by decide +kernel, rfl, by decide +kernel, by decide +kernel⟩
def b_check_same_parts (R_check_log : List Val → Rs) : Fm → OutS := (sSeq (sExpr (sCall R_check_log (sCons (sVar 0) sNil))) (sSeq (sExpr (sCall R_check_log (sCons (sVar 1) sNil))) (sIfS (sTst (sBin neG (sFld [0] "parts" (sVar 0)) (sFld [0] "parts" (sVar 1)))) sBad sSkip)))
theorem d_check_same_parts {P : Program} {w : World} {G : Gx} {mg : Str → Option Value} {base : Heap} (T : Tx G mg) {R_check_log : List Val → Rs} (c_check_log : Cal P w G mg base "check_log" 1 R_check_log)
    {f : Addr} (cdv : Value) (A : Around) (outer : List Env) (s : Shared) (H : Hp) (B : Bx) (E : XK) (hr : Room 1 (A.deeper (PyProof.Rows.envOfC "check_same_parts" (defScope s_check_same_parts) s.heap.objs.size f cdv))) :
    SSs (cxOf (L2.CX P w) P w G.K mg base ["one", "other"] "check_same_parts" (defScope s_check_same_parts) f cdv A outer s H E) G B (fun cls d _ H => E cls d H) (defBody s_check_same_parts) (b_check_same_parts R_check_log) := by
  have tk : Takes (cxOf (L2.CX P w) P w G.K mg base ["one", "other"] "check_same_parts" (defScope s_check_same_parts) f cdv A outer s H E) (fun cls d _ H => E cls d H) := takes_of rfl rfl rfl rfl
  have po := passes_of (X := cxOf (L2.CX P w) P w G.K mg base ["one", "other"] "check_same_parts" (defScope s_check_same_parts) f cdv A outer s H E) rfl
  exact (ss_cons (ss_expr (s_callC c_check_log tk hr (by decide) rfl rfl (sa_cons (s_var 0) sa_nil)))
    (ss_cons (ss_expr (s_callC c_check_log tk hr (by decide) rfl rfl (sa_cons (s_var 1) sa_nil)))
    (ss_one (ss_if (s_cmpT (l_neD rfl hr.units) (s_fld rfl T.a_parts (s_var 0)) (s_fld rfl T.a_parts (s_var 1))) (ss_one ss_bad) ss_nil))))
abbrev s_log_text : Stmt := (top 36)
theorem sc_log_text : FnScope ["log", "lines", "day", "event", "word", "line"] ["log"] (defScope s_log_text) := ⟨rfl, rfl, rfl, by decide +kernel, rfl, by decide +kernel, by decide +kernel⟩
def b_log_text (R_check_log : List Val → Rs) : Fm → OutS := (sSeq (sExpr (sCall R_check_log (sCons (sVar 0) sNil))) (sSeq (sSet 1 (sLst (sCons (jL Str.empty [(sUn fmtD (sC (.str "lock"))), (sC (.str " ")), (sUn fmtD (sFld [0] "parts" (sVar 0)))]) sNil))) (sSeq (sFor (iAnyF (sFld [0] "days" (sVar 0))) (gN 2) (sExpr (sW "list" appG (sVar 1) (sCons (sM "str" joinG (sC (.str " ")) (sCons (sBin addD (sLst (sCons (sC (.str "day")) sNil)) (sLc2 (iAnyF (sVar 2)) (gN 3) sYes (iAnyF (sVar 3)) (gN 4) sYes (sB (gOne strD) (sCons (sVar 4) sNil)) [3, 4] [4])) sNil)) sNil)))) (sRet (sM "str" joinG (sC (.str "")) (sCons (sLc (iAnyF (sVar 1)) (gN 5) sYes (sBin addD (sVar 5) (sC (.str "\n"))) [5]) sNil))))))
theorem d_log_text {P : Program} {w : World} {G : Gx} {mg : Str → Option Value} {base : Heap} (T : Tx G mg) {R_check_log : List Val → Rs} (c_check_log : Cal P w G mg base "check_log" 1 R_check_log)
    {f : Addr} (cdv : Value) (A : Around) (outer : List Env) (s : Shared) (H : Hp) (B : Bx) (E : XK) (hr : Room 1 (A.deeper (PyProof.Rows.envOfC "log_text" (defScope s_log_text) s.heap.objs.size f cdv))) :
    SSs (cxOf (L2.CX P w) P w G.K mg base ["log", "lines", "day", "event", "word", "line"] "log_text" (defScope s_log_text) f cdv A outer s H E) G B (fun cls d _ H => E cls d H) (defBody s_log_text) (b_log_text R_check_log) := by
  have tk : Takes (cxOf (L2.CX P w) P w G.K mg base ["log", "lines", "day", "event", "word", "line"] "log_text" (defScope s_log_text) f cdv A outer s H E) (fun cls d _ H => E cls d H) := takes_of rfl rfl rfl rfl
  have po := passes_of (X := cxOf (L2.CX P w) P w G.K mg base ["log", "lines", "day", "event", "word", "line"] "log_text" (defScope s_log_text) f cdv A outer s H E) rfl
  exact (ss_cons (ss_expr (s_callC c_check_log tk hr (by decide) rfl rfl (sa_cons (s_var 0) sa_nil)))
    (ss_cons (ss_set 1 sc_log_text.nd rfl (by first | exact Or.inl rfl | exact Or.inr rfl) (s_lst (sa_cons (s_joined (SJ.cons (s_fmt (s_gstrE T.c_LOCK rfl)) (SJ.cons s_str (SJ.cons (s_fmt (s_fld rfl T.a_parts (s_var 0))) SJ.nil)))) sa_nil)))
    (ss_cons (ss_for po rfl (si_any rfl (s_fld rfl T.a_days (s_var 0))) (sg_name 2 sc_log_text.nd rfl (by first | exact Or.inl rfl | exact Or.inr rfl)) (ss_one (ss_expr (s_w rfl PySem.F.plainAttrs_list PySem.F.slot_list_append PySem.F.type_list_append l_append (s_var 1) (sa_cons (s_m rfl PySem.F.plainAttrs_str PySem.F.slot_str_join PySem.F.type_str_join (l_join rfl) s_str (sa_cons (s_bin l_add (s_lst (sa_cons (s_gstrE T.c_DAY rfl) sa_nil)) (s_lc2 [4] (own := [("event", 3), ("word", 4)]) rfl sc_log_text.nd (si_any rfl (s_var 2)) (blkOk_by (N := ["log", "lines", "day", "event", "word", "line"]) (sc := defScope s_log_text) (by decide +kernel)) (fun _ _ _ _ _ => (sg_name 3 sc_log_text.nd rfl (by first | exact Or.inl rfl | exact Or.inr rfl))) (fun _ _ _ _ _ => sts_nil) (fun _ _ _ _ _ => (si_any rfl (s_var 3))) (fun _ _ _ _ _ => (sg_name 4 sc_log_text.nd rfl (by first | exact Or.inl rfl | exact Or.inr rfl))) (fun _ _ _ _ _ => sts_nil) (fun _ _ _ _ _ => (s_callTy l_str rfl T.n_str bt_str (sa_cons (s_var 4) sa_nil))))) sa_nil)) sa_nil)))))
    (ss_one (ss_ret (s_m rfl PySem.F.plainAttrs_str PySem.F.slot_str_join PySem.F.type_str_join (l_join rfl) s_str (sa_cons (s_lc (own := [("line", 5)]) rfl sc_log_text.nd (si_any rfl (s_var 1)) (blkOk_by (N := ["log", "lines", "day", "event", "word", "line"]) (sc := defScope s_log_text) (by decide +kernel)) (fun _ _ _ _ _ => (sg_name 5 sc_log_text.nd rfl (by first | exact Or.inl rfl | exact Or.inr rfl))) (fun _ _ _ _ _ => sts_nil) (fun _ _ _ _ _ => (s_bin l_add (s_var 5) s_str))) sa_nil)))))))
abbrev s_read_event : Stmt := (top 38)
theorem sc_read_event : FnScope ["words", "number"] ["words"] (defScope s_read_event) := ⟨rfl, rfl, rfl, by decide +kernel, rfl, by decide +kernel, by decide +kernel⟩
def b_read_event (R_is_name R_integer_of : List Val → Rs) : Fm → OutS := (sSeq (sIfS (sAnd (sTst (sBin eqG (sBin ixG (sVar 0) (sC (.int 0))) (sC (.str "pair")))) (sAnd (sTst (sBin (gI0 fun i j => .bl (decide (j ≤ i))) (sB (gOne lenD) (sCons (sVar 0) sNil)) (sC (.int 4)))) (sAnd (sTru (sCall R_is_name (sCons (sBin ixG (sVar 0) (sC (.int 1))) sNil))) (sTru (sCall R_is_name (sCons (sBin ixG (sVar 0) (sC (.int 2))) sNil)))))) (sSeq (sSet 1 (sCall R_integer_of (sCons (sBin ixG (sVar 0) (sC (.int 3))) sNil))) (sRet (sIf (sTst (sBin (gIs false) (sVar 1) (sC .non))) (sC .non) (sTup (sCons (sTup (sCons (sC (.str "pair")) (sCons (sBin ixG (sVar 0) (sC (.int 1))) (sCons (sBin ixG (sVar 0) (sC (.int 2))) (sCons (sVar 1) sNil))))) (sCons (sC (.int 4)) sNil)))))) sSkip) (sSeq (sIfS (sAnd (sTst (sBin eqG (sBin ixG (sVar 0) (sC (.int 0))) (sC (.str "seen")))) (sAnd (sTst (sBin (gI0 fun i j => .bl (decide (j ≤ i))) (sB (gOne lenD) (sCons (sVar 0) sNil)) (sC (.int 3)))) (sTru (sCall R_is_name (sCons (sBin ixG (sVar 0) (sC (.int 1))) sNil))))) (sSeq (sSet 1 (sCall R_integer_of (sCons (sBin ixG (sVar 0) (sC (.int 2))) sNil))) (sRet (sIf (sTst (sBin (gIs false) (sVar 1) (sC .non))) (sC .non) (sTup (sCons (sTup (sCons (sC (.str "seen")) (sCons (sBin ixG (sVar 0) (sC (.int 1))) (sCons (sVar 1) sNil)))) (sCons (sC (.int 3)) sNil)))))) sSkip) (sRet (sC .non))))
theorem d_read_event {P : Program} {w : World} {G : Gx} {mg : Str → Option Value} {base : Heap} (T : Tx G mg) {R_is_name R_integer_of : List Val → Rs} (c_is_name : Cal P w G mg base "is_name" 1 R_is_name) (c_integer_of : Cal P w G mg base "integer_of" 1 R_integer_of)
    {f : Addr} (cdv : Value) (A : Around) (outer : List Env) (s : Shared) (H : Hp) (B : Bx) (E : XK) (hr : Room 1 (A.deeper (PyProof.Rows.envOfC "read_event" (defScope s_read_event) s.heap.objs.size f cdv))) :
    SSs (cxOf (L2.CX P w) P w G.K mg base ["words", "number"] "read_event" (defScope s_read_event) f cdv A outer s H E) G B (fun cls d _ H => E cls d H) (defBody s_read_event) (b_read_event R_is_name R_integer_of) := by
  have tk : Takes (cxOf (L2.CX P w) P w G.K mg base ["words", "number"] "read_event" (defScope s_read_event) f cdv A outer s H E) (fun cls d _ H => E cls d H) := takes_of rfl rfl rfl rfl
  have po := passes_of (X := cxOf (L2.CX P w) P w G.K mg base ["words", "number"] "read_event" (defScope s_read_event) f cdv A outer s H E) rfl
  exact (ss_cons (ss_if (PW.pt (s_and (s_cmpT (l_eqD rfl hr.units) (s_ix (l_ix rfl) (s_var 0) s_int) (s_gstrE T.c_PAIR rfl)) (s_and (s_cmpT l_ge (s_callB (l_len rfl) rfl T.n_len bt_len (sa_cons (s_var 0) sa_nil)) s_int) (s_and (s_tru rfl (s_callC c_is_name tk hr (by decide) rfl rfl (sa_cons (s_ix (l_ix rfl) (s_var 0) s_int) sa_nil))) (s_and1 (s_tru rfl (s_callC c_is_name tk hr (by decide) rfl rfl (sa_cons (s_ix (l_ix rfl) (s_var 0) s_int) sa_nil)))))))) (ss_cons (ss_set 1 sc_read_event.nd rfl (by first | exact Or.inl rfl | exact Or.inr rfl) (s_callC c_integer_of tk hr (by decide) rfl rfl (sa_cons (s_ix (l_ix rfl) (s_var 0) s_int) sa_nil)))
    (ss_one (ss_ret (s_ifE (s_cmpT l_isN (s_var 1) s_non) s_non (s_tup (sa_cons (s_tup (sa_cons (s_gstrE T.c_PAIR rfl) (sa_cons (s_ix (l_ix rfl) (s_var 0) s_int) (sa_cons (s_ix (l_ix rfl) (s_var 0) s_int) (sa_cons (s_var 1) sa_nil))))) (sa_cons s_int sa_nil))))))) ss_nil)
    (ss_cons (ss_if (PW.pt (s_and (s_cmpT (l_eqD rfl hr.units) (s_ix (l_ix rfl) (s_var 0) s_int) (s_gstrE T.c_SEEN rfl)) (s_and (s_cmpT l_ge (s_callB (l_len rfl) rfl T.n_len bt_len (sa_cons (s_var 0) sa_nil)) s_int) (s_and1 (s_tru rfl (s_callC c_is_name tk hr (by decide) rfl rfl (sa_cons (s_ix (l_ix rfl) (s_var 0) s_int) sa_nil))))))) (ss_cons (ss_set 1 sc_read_event.nd rfl (by first | exact Or.inl rfl | exact Or.inr rfl) (s_callC c_integer_of tk hr (by decide) rfl rfl (sa_cons (s_ix (l_ix rfl) (s_var 0) s_int) sa_nil)))
    (ss_one (ss_ret (s_ifE (s_cmpT l_isN (s_var 1) s_non) s_non (s_tup (sa_cons (s_tup (sa_cons (s_gstrE T.c_SEEN rfl) (sa_cons (s_ix (l_ix rfl) (s_var 0) s_int) (sa_cons (s_var 1) sa_nil)))) (sa_cons s_int sa_nil))))))) ss_nil)
    (ss_one (ss_ret s_non))))
abbrev s_read_lock : Stmt := (top 40)
theorem sc_read_lock : FnScope ["line", "words"] ["line"] (defScope s_read_lock) := ⟨rfl, rfl, rfl, by decide +kernel, rfl, by decide +kernel, by decide +kernel⟩
def b_read_lock (R_integer_of : List Val → Rs) : Fm → OutS := (sSeq (sSet 1 (sM "str" splitG (sVar 0) (sCons (sC (.str " ")) sNil))) (sRet (sIf (sAnd (sTst (sBin eqG (sB (gOne lenD) (sCons (sVar 1) sNil)) (sC (.int 2)))) (sTst (sBin eqG (sBin ixG (sVar 1) (sC (.int 0))) (sC (.str "lock"))))) (sCall R_integer_of (sCons (sBin ixG (sVar 1) (sC (.int 1))) sNil)) (sC .non))))
theorem d_read_lock {P : Program} {w : World} {G : Gx} {mg : Str → Option Value} {base : Heap} (T : Tx G mg) {R_integer_of : List Val → Rs} (c_integer_of : Cal P w G mg base "integer_of" 1 R_integer_of)
    {f : Addr} (cdv : Value) (A : Around) (outer : List Env) (s : Shared) (H : Hp) (B : Bx) (E : XK) (hr : Room 1 (A.deeper (PyProof.Rows.envOfC "read_lock" (defScope s_read_lock) s.heap.objs.size f cdv))) :
    SSs (cxOf (L2.CX P w) P w G.K mg base ["line", "words"] "read_lock" (defScope s_read_lock) f cdv A outer s H E) G B (fun cls d _ H => E cls d H) (defBody s_read_lock) (b_read_lock R_integer_of) := by
  have tk : Takes (cxOf (L2.CX P w) P w G.K mg base ["line", "words"] "read_lock" (defScope s_read_lock) f cdv A outer s H E) (fun cls d _ H => E cls d H) := takes_of rfl rfl rfl rfl
  have po := passes_of (X := cxOf (L2.CX P w) P w G.K mg base ["line", "words"] "read_lock" (defScope s_read_lock) f cdv A outer s H E) rfl
  exact (ss_cons (ss_set 1 sc_read_lock.nd rfl (by first | exact Or.inl rfl | exact Or.inr rfl) (s_m rfl PySem.F.plainAttrs_str PySem.F.slot_str_split PySem.F.type_str_split l_split (s_var 0) (sa_cons s_str sa_nil)))
    (ss_one (ss_ret (s_ifE (PW.pt (s_and (s_cmpT (l_eqD rfl hr.units) (s_callB (l_len rfl) rfl T.n_len bt_len (sa_cons (s_var 1) sa_nil)) s_int) (s_and1 (s_cmpT (l_eqD rfl hr.units) (s_ix (l_ix rfl) (s_var 1) s_int) (s_gstrE T.c_LOCK rfl))))) (s_callC c_integer_of tk hr (by decide) rfl rfl (sa_cons (s_ix (l_ix rfl) (s_var 1) s_int) sa_nil)) s_non))))
abbrev s_law_any : Stmt := (top 45)
theorem sc_law_any : FnScope ["hand", "some"] ["hand", "some"] (defScope s_law_any) := ⟨rfl, rfl, rfl, by decide +kernel, rfl, by decide +kernel, by decide +kernel⟩
def b_law_any (R_law_draw : List Val → Rs) : Fm → OutS := (sRet (sBin ixG (sVar 1) (sCall R_law_draw (sCons (sVar 0) (sCons (sB (gOne lenD) (sCons (sVar 1) sNil)) sNil)))))
theorem d_law_any {P : Program} {w : World} {G : Gx} {mg : Str → Option Value} {base : Heap} (T : Tx G mg) {R_law_draw : List Val → Rs} (c_law_draw : Cal P w G mg base "_law_draw" 1 R_law_draw)
    {f : Addr} (cdv : Value) (A : Around) (outer : List Env) (s : Shared) (H : Hp) (B : Bx) (E : XK) (hr : Room 1 (A.deeper (PyProof.Rows.envOfC "_law_any" (defScope s_law_any) s.heap.objs.size f cdv))) :
    SSs (cxOf (L2.CX P w) P w G.K mg base ["hand", "some"] "_law_any" (defScope s_law_any) f cdv A outer s H E) G B (fun cls d _ H => E cls d H) (defBody s_law_any) (b_law_any R_law_draw) := by
  have tk : Takes (cxOf (L2.CX P w) P w G.K mg base ["hand", "some"] "_law_any" (defScope s_law_any) f cdv A outer s H E) (fun cls d _ H => E cls d H) := takes_of rfl rfl rfl rfl
  have po := passes_of (X := cxOf (L2.CX P w) P w G.K mg base ["hand", "some"] "_law_any" (defScope s_law_any) f cdv A outer s H E) rfl
  exact (ss_one (ss_ret (s_ix (l_ix rfl) (s_var 1) (s_callC c_law_draw tk hr (by decide) rfl rfl (sa_cons (s_var 0) (sa_cons (s_callB (l_len rfl) rfl T.n_len bt_len (sa_cons (s_var 1) sa_nil)) sa_nil))))))
abbrev s_law_dealing_of : Stmt := (top 51)
theorem sc_law_dealing_of : FnScope ["hand", "parts", "words", "word"] ["hand", "parts", "words"] (defScope s_law_dealing_of) := ⟨rfl, rfl, rfl, by decide +kernel, rfl, by decide +kernel, by decide +kernel⟩
def b_law_dealing_of (R_law_draw : List Val → Rs) : Fm → OutS := (sRet (sB (gOne dictD) (sCons (sLc (iAnyF (sVar 2)) (gN 3) sYes (sTup (sCons (sVar 3) (sCons (sCall R_law_draw (sCons (sVar 0) (sCons (sVar 1) sNil))) sNil))) [3]) sNil)))
theorem d_law_dealing_of {P : Program} {w : World} {G : Gx} {mg : Str → Option Value} {base : Heap} (T : Tx G mg) {R_law_draw : List Val → Rs} (c_law_draw : Cal P w G mg base "_law_draw" 1 R_law_draw)
    {f : Addr} (cdv : Value) (A : Around) (outer : List Env) (s : Shared) (H : Hp) (B : Bx) (E : XK) (hr : Room 1 (A.deeper (PyProof.Rows.envOfC "_law_dealing_of" (defScope s_law_dealing_of) s.heap.objs.size f cdv))) :
    SSs (cxOf (L2.CX P w) P w G.K mg base ["hand", "parts", "words", "word"] "_law_dealing_of" (defScope s_law_dealing_of) f cdv A outer s H E) G B (fun cls d _ H => E cls d H) (defBody s_law_dealing_of) (b_law_dealing_of R_law_draw) := by
  have tk : Takes (cxOf (L2.CX P w) P w G.K mg base ["hand", "parts", "words", "word"] "_law_dealing_of" (defScope s_law_dealing_of) f cdv A outer s H E) (fun cls d _ H => E cls d H) := takes_of rfl rfl rfl rfl
  have po := passes_of (X := cxOf (L2.CX P w) P w G.K mg base ["hand", "parts", "words", "word"] "_law_dealing_of" (defScope s_law_dealing_of) f cdv A outer s H E) rfl
  exact (ss_one (ss_ret (s_callTy (l_dict rfl rfl) rfl T.n_dict bt_dict (sa_cons (s_lc (own := [("word", 3)]) rfl sc_law_dealing_of.nd (si_any rfl (s_var 2)) (blkOk_by (N := ["hand", "parts", "words", "word"]) (sc := defScope s_law_dealing_of) (by decide +kernel)) (fun _ _ _ _ _ => (sg_name 3 sc_law_dealing_of.nd rfl (by first | exact Or.inl rfl | exact Or.inr rfl))) (fun _ _ _ _ _ => sts_nil) (fun _ _ _ _ _ => (s_tup (sa_cons (s_var 3) (sa_cons (s_callC c_law_draw tk0 hr (by decide) rfl rfl (sa_cons (s_var 0) (sa_cons (s_var 1) sa_nil))) sa_nil))))) sa_nil))))
abbrev s_is_event : Stmt := (top 10)
theorem sc_is_event : FnScope ["parts", "thing"] ["parts", "thing"] (defScope s_is_event) := ⟨rfl, rfl, rfl, by decide +kernel, rfl, by decide +kernel, by decide +kernel⟩
def b_is_event (R_is_name R_is_within : List Val → Rs) : Fm → OutS := (sSeq (sIfS (sOr (sNot (sTru (sB (gTwo (isiG [0])) (sCons (sVar 1) (sCons (sC (.ty "tuple")) sNil))))) (sOr (sTst (sBin (gI0 fun i j => .bl (decide (i < j))) (sB (gOne lenD) (sCons (sVar 1) sNil)) (sC (.int 3)))) (sOr (sNot (sTru (sB (gTwo (isiG [0])) (sCons (sBin ixG (sVar 1) (sC (.int 0))) (sCons (sC (.ty "str")) sNil))))) (sNot (sTru (sCall R_is_name (sCons (sBin ixG (sVar 1) (sC (.int 1))) sNil))))))) (sRet (sC (.bl false))) sSkip) (sSeq (sIfS (sTst (sBin eqG (sBin ixG (sVar 1) (sC (.int 0))) (sC (.str "seen")))) (sRet (sAndV (sBin eqG (sB (gOne lenD) (sCons (sVar 1) sNil)) (sC (.int 3))) (sCall R_is_within (sCons (sBin ixG (sVar 1) (sC (.int 2))) (sCons (sC (.int 0)) (sCons (sBin (gI0 fun i j => .int (i - j)) (sVar 0) (sC (.int 1))) sNil)))))) sSkip) (sSeq (sIfS (sOr (sTst (sBin neG (sBin ixG (sVar 1) (sC (.int 0))) (sC (.str "pair")))) (sOr (sTst (sBin neG (sB (gOne lenD) (sCons (sVar 1) sNil)) (sC (.int 4)))) (sOr (sNot (sTru (sCall R_is_name (sCons (sBin ixG (sVar 1) (sC (.int 2))) sNil)))) (sTst (sBin eqG (sBin ixG (sVar 1) (sC (.int 1))) (sBin ixG (sVar 1) (sC (.int 2)))))))) (sRet (sC (.bl false))) sSkip) (sRet (sCall R_is_within (sCons (sBin ixG (sVar 1) (sC (.int 3))) (sCons (sC (.int 0)) (sCons (sBin (gI0 fun i j => .int (i - j)) (sVar 0) (sC (.int 1))) sNil))))))))
theorem d_is_event {P : Program} {w : World} {G : Gx} {mg : Str → Option Value} {base : Heap} (T : Tx G mg) {R_is_name R_is_within : List Val → Rs} (ck : Clk G [0]) (c_is_name : Cal P w G mg base "is_name" 1 R_is_name) (c_is_within : Cal P w G mg base "is_within" 2 R_is_within)
    {f : Addr} (cdv : Value) (A : Around) (outer : List Env) (s : Shared) (H : Hp) (B : Bx) (E : XK) (hr : Room 2 (A.deeper (PyProof.Rows.envOfC "is_event" (defScope s_is_event) s.heap.objs.size f cdv))) :
    SSs (cxOf (L2.CX P w) P w G.K mg base ["parts", "thing"] "is_event" (defScope s_is_event) f cdv A outer s H E) G B (fun cls d _ H => E cls d H) (defBody s_is_event) (b_is_event R_is_name R_is_within) := by
  have tk : Takes (cxOf (L2.CX P w) P w G.K mg base ["parts", "thing"] "is_event" (defScope s_is_event) f cdv A outer s H E) (fun cls d _ H => E cls d H) := takes_of rfl rfl rfl rfl
  have po := passes_of (X := cxOf (L2.CX P w) P w G.K mg base ["parts", "thing"] "is_event" (defScope s_is_event) f cdv A outer s H E) rfl
  exact (ss_cons (ss_if (PW.pt (s_or (s_not (s_tru rfl (s_callB (l_isi rfl ck) rfl T.n_isinstance bt_isinstance (sa_cons (s_var 1) (sa_cons (s_type rfl T.n_tuple bt_tuple) sa_nil))))) (s_or (s_cmpT l_lt (s_callB (l_len rfl) rfl T.n_len bt_len (sa_cons (s_var 1) sa_nil)) s_int) (s_or (s_not (s_tru rfl (s_callB (l_isi rfl ck) rfl T.n_isinstance bt_isinstance (sa_cons (s_ix (l_ix rfl) (s_var 1) s_int) (sa_cons (s_type rfl T.n_str bt_str) sa_nil))))) (s_or1 (s_not (s_tru rfl (s_callC c_is_name tk hr (by decide) rfl rfl (sa_cons (s_ix (l_ix rfl) (s_var 1) s_int) sa_nil))))))))) (ss_one (ss_ret s_bl)) ss_nil)
    (ss_cons (ss_if (s_cmpT (l_eqD rfl hr.units) (s_ix (l_ix rfl) (s_var 1) s_int) (s_gstrE T.c_SEEN rfl)) (ss_one (ss_ret (s_andV (s_cmp (l_eqD rfl hr.units) (s_callB (l_len rfl) rfl T.n_len bt_len (sa_cons (s_var 1) sa_nil)) s_int) (s_oneV (s_callC c_is_within tk hr (by decide) rfl rfl (sa_cons (s_ix (l_ix rfl) (s_var 1) s_int) (sa_cons s_int (sa_cons (s_bin l_subI (s_var 0) s_int) sa_nil)))))))) ss_nil)
    (ss_cons (ss_if (PW.pt (s_or (s_cmpT (l_neD rfl hr.units) (s_ix (l_ix rfl) (s_var 1) s_int) (s_gstrE T.c_PAIR rfl)) (s_or (s_cmpT (l_neD rfl hr.units) (s_callB (l_len rfl) rfl T.n_len bt_len (sa_cons (s_var 1) sa_nil)) s_int) (s_or (s_not (s_tru rfl (s_callC c_is_name tk hr (by decide) rfl rfl (sa_cons (s_ix (l_ix rfl) (s_var 1) s_int) sa_nil)))) (s_or1 (s_cmpT (l_eqD rfl hr.units) (s_ix (l_ix rfl) (s_var 1) s_int) (s_ix (l_ix rfl) (s_var 1) s_int))))))) (ss_one (ss_ret s_bl)) ss_nil)
    (ss_one (ss_ret (s_callC c_is_within tk hr (by decide) rfl rfl (sa_cons (s_ix (l_ix rfl) (s_var 1) s_int) (sa_cons s_int (sa_cons (s_bin l_subI (s_var 0) s_int) sa_nil)))))))))
abbrev s_check_stretch : Stmt := (top 32)
theorem sc_check_stretch : FnScope ["log", "first", "end"] ["log", "first", "end"] (defScope s_check_stretch) := ⟨rfl, rfl, rfl, by decide +kernel, rfl, by decide +kernel, by decide +kernel⟩
def b_check_stretch (R_check_log R_is_within : List Val → Rs) : Fm → OutS := (sSeq (sExpr (sCall R_check_log (sCons (sVar 0) sNil))) (sIfS (sOr (sNot (sTru (sCall R_is_within (sCons (sVar 1) (sCons (sC (.int 0)) (sCons (sBin (gI0 fun i j => .int (i - j)) (sB (gOne lenD) (sCons (sFld [0] "days" (sVar 0)) sNil)) (sC (.int 1))) sNil)))))) (sNot (sTru (sCall R_is_within (sCons (sVar 2) (sCons (sBin addD (sVar 1) (sC (.int 1))) (sCons (sB (gOne lenD) (sCons (sFld [0] "days" (sVar 0)) sNil)) sNil))))))) sBad sSkip))
theorem d_check_stretch {P : Program} {w : World} {G : Gx} {mg : Str → Option Value} {base : Heap} (T : Tx G mg) {R_check_log R_is_within : List Val → Rs} (c_check_log : Cal P w G mg base "check_log" 1 R_check_log) (c_is_within : Cal P w G mg base "is_within" 2 R_is_within)
    {f : Addr} (cdv : Value) (A : Around) (outer : List Env) (s : Shared) (H : Hp) (B : Bx) (E : XK) (hr : Room 2 (A.deeper (PyProof.Rows.envOfC "check_stretch" (defScope s_check_stretch) s.heap.objs.size f cdv))) :
    SSs (cxOf (L2.CX P w) P w G.K mg base ["log", "first", "end"] "check_stretch" (defScope s_check_stretch) f cdv A outer s H E) G B (fun cls d _ H => E cls d H) (defBody s_check_stretch) (b_check_stretch R_check_log R_is_within) := by
  have tk : Takes (cxOf (L2.CX P w) P w G.K mg base ["log", "first", "end"] "check_stretch" (defScope s_check_stretch) f cdv A outer s H E) (fun cls d _ H => E cls d H) := takes_of rfl rfl rfl rfl
  have po := passes_of (X := cxOf (L2.CX P w) P w G.K mg base ["log", "first", "end"] "check_stretch" (defScope s_check_stretch) f cdv A outer s H E) rfl
  exact (ss_cons (ss_expr (s_callC c_check_log tk hr (by decide) rfl rfl (sa_cons (s_var 0) sa_nil)))
    (ss_one (ss_if (PW.pt (s_or (s_not (s_tru rfl (s_callC c_is_within tk hr (by decide) rfl rfl (sa_cons (s_var 1) (sa_cons s_int (sa_cons (s_bin l_subI (s_callB (l_len rfl) rfl T.n_len bt_len (sa_cons (s_fld rfl T.a_days (s_var 0)) sa_nil)) s_int) sa_nil)))))) (s_or1 (s_not (s_tru rfl (s_callC c_is_within tk hr (by decide) rfl rfl (sa_cons (s_var 2) (sa_cons (s_bin l_add (s_var 1) s_int) (sa_cons (s_callB (l_len rfl) rfl T.n_len bt_len (sa_cons (s_fld rfl T.a_days (s_var 0)) sa_nil)) sa_nil))))))))) (ss_one ss_bad) ss_nil)))
abbrev s_read_day : Stmt := (top 39)
theorem sc_read_day : FnScope ["line", "words", "rest", "found", "told"] ["line"] (defScope s_read_day) := ⟨rfl, rfl, rfl, by decide +kernel, rfl, by decide +kernel, by decide +kernel⟩
def b_read_day (R_read_event : List Val → Rs) (n1 : Nat) : Fm → OutS := (sSeq (sSet 1 (sM "str" splitG (sVar 0) (sCons (sC (.str " ")) sNil))) (sSeq (sIfS (sTst (sBin neG (sBin ixG (sVar 1) (sC (.int 0))) (sC (.str "day")))) (sRet (sC .non)) sSkip) (sSeq (sSet 2 (sSl slG (sVar 1) (sP1 (sC (.int 1))) sP0)) (sSeq (sSet 3 (sLst sNil)) (sSeq (whL (sTst (sBin (gI0 fun i j => .bl (decide (j < i))) (sB (gOne lenD) (sCons (sVar 2) sNil)) (sC (.int 0)))) (sSeq (sSet 4 (sCall R_read_event (sCons (sVar 2) sNil))) (sSeq (sIfS (sTst (sBin (gIs false) (sVar 4) (sC .non))) (sRet (sC .non)) sSkip) (sSeq (sExpr (sW "list" appG (sVar 3) (sCons (sBin ixG (sVar 4) (sC (.int 0))) sNil))) (sSet 2 (sSl slG (sVar 2) (sP1 (sBin ixG (sVar 4) (sC (.int 1)))) sP0))))) n1) (sRet (sB (gOne tupD) (sCons (sVar 3) sNil))))))))
theorem d_read_day {P : Program} {w : World} {G : Gx} {mg : Str → Option Value} {base : Heap} (T : Tx G mg) {R_read_event : List Val → Rs} (n1 : Nat) (c_read_event : Cal P w G mg base "read_event" 2 R_read_event)
    {f : Addr} (cdv : Value) (A : Around) (outer : List Env) (s : Shared) (H : Hp) (B : Bx) (E : XK) (hr : Room 2 (A.deeper (PyProof.Rows.envOfC "read_day" (defScope s_read_day) s.heap.objs.size f cdv))) :
    SSs (cxOf (L2.CX P w) P w G.K mg base ["line", "words", "rest", "found", "told"] "read_day" (defScope s_read_day) f cdv A outer s H E) G B (fun cls d _ H => E cls d H) (defBody s_read_day) (b_read_day R_read_event n1) := by
  have tk : Takes (cxOf (L2.CX P w) P w G.K mg base ["line", "words", "rest", "found", "told"] "read_day" (defScope s_read_day) f cdv A outer s H E) (fun cls d _ H => E cls d H) := takes_of rfl rfl rfl rfl
  have po := passes_of (X := cxOf (L2.CX P w) P w G.K mg base ["line", "words", "rest", "found", "told"] "read_day" (defScope s_read_day) f cdv A outer s H E) rfl
  exact (ss_cons (ss_set 1 sc_read_day.nd rfl (by first | exact Or.inl rfl | exact Or.inr rfl) (s_m rfl PySem.F.plainAttrs_str PySem.F.slot_str_split PySem.F.type_str_split l_split (s_var 0) (sa_cons s_str sa_nil)))
    (ss_cons (ss_if (s_cmpT (l_neD rfl hr.units) (s_ix (l_ix rfl) (s_var 1) s_int) (s_gstrE T.c_DAY rfl)) (ss_one (ss_ret s_non)) ss_nil)
    (ss_cons (ss_set 2 sc_read_day.nd rfl (by first | exact Or.inl rfl | exact Or.inr rfl) (s_sl (l_sl rfl) (s_var 1) (sp_some s_int) sp_none))
    (ss_cons (ss_set 3 sc_read_day.nd rfl (by first | exact Or.inl rfl | exact Or.inr rfl) (s_lst sa_nil))
    (ss_cons (ss_while n1 po (s_cmpT l_gt (s_callB (l_len rfl) rfl T.n_len bt_len (sa_cons (s_var 2) sa_nil)) s_int) (ss_cons (ss_set 4 sc_read_day.nd rfl (by first | exact Or.inl rfl | exact Or.inr rfl) (s_callC c_read_event tk hr (by decide) rfl rfl (sa_cons (s_var 2) sa_nil)))
    (ss_cons (ss_if (s_cmpT l_isN (s_var 4) s_non) (ss_one (ss_ret s_non)) ss_nil)
    (ss_cons (ss_expr (s_w rfl PySem.F.plainAttrs_list PySem.F.slot_list_append PySem.F.type_list_append l_append (s_var 3) (sa_cons (s_ix (l_ix rfl) (s_var 4) s_int) sa_nil)))
    (ss_one (ss_set 2 sc_read_day.nd rfl (by first | exact Or.inl rfl | exact Or.inr rfl) (s_sl (l_sl rfl) (s_var 2) (sp_some (s_ix (l_ix rfl) (s_var 4) s_int)) sp_none)))))))
    (ss_one (ss_ret (s_callTy (l_tuple rfl) rfl T.n_tuple bt_tuple (sa_cons (s_var 3) sa_nil)))))))))
abbrev s_law_name : Stmt := (top 46)
theorem sc_law_name : FnScope ["hand", "taken", "letters", "word", "letter", "turn"] ["hand", "taken"] (defScope s_law_name) := ⟨rfl, rfl, rfl, by decide +kernel, rfl, by decide +kernel, by decide +kernel⟩
def b_law_name (R_law_any : List Val → Rs) : Fm → OutS := (sSeq (sSet 2 (sC (.str "abcdefghijklmnopqrstuvwxyz"))) (sSeq (sSet 3 (sM "str" joinG (sC (.str "")) (sCons (sLc (iR1 (sCons (sCall R_law_any (sCons (sVar 0) (sCons (sLst (sCons (sC (.int 1)) (sCons (sC (.int 1)) (sCons (sC (.int 2)) (sCons (sC (.int 3)) (sCons (sC (.int 5)) (sCons (sC (.int 8)) sNil))))))) sNil))) sNil)) (gN 5) sYes (sCall R_law_any (sCons (sVar 0) (sCons (sVar 2) sNil))) [5]) sNil))) (sSeq (sFor (iAnyF (sVar 2)) (gN 4) (sIfS (sTst (sBin (inG false) (sVar 3) (sVar 1))) (sSet 3 (sBin addD (sVar 4) (sSl slG (sVar 3) sP0 (sP1 (sC (.int 7)))))) sSkip)) (sRet (sVar 3)))))
theorem d_law_name {P : Program} {w : World} {G : Gx} {mg : Str → Option Value} {base : Heap} (T : Tx G mg) {R_law_any : List Val → Rs} (c_law_any : Cal P w G mg base "_law_any" 2 R_law_any)
    {f : Addr} (cdv : Value) (A : Around) (outer : List Env) (s : Shared) (H : Hp) (B : Bx) (E : XK) (hr : Room 2 (A.deeper (PyProof.Rows.envOfC "_law_name" (defScope s_law_name) s.heap.objs.size f cdv))) :
    SSs (cxOf (L2.CX P w) P w G.K mg base ["hand", "taken", "letters", "word", "letter", "turn"] "_law_name" (defScope s_law_name) f cdv A outer s H E) G B (fun cls d _ H => E cls d H) (defBody s_law_name) (b_law_name R_law_any) := by
  have tk : Takes (cxOf (L2.CX P w) P w G.K mg base ["hand", "taken", "letters", "word", "letter", "turn"] "_law_name" (defScope s_law_name) f cdv A outer s H E) (fun cls d _ H => E cls d H) := takes_of rfl rfl rfl rfl
  have po := passes_of (X := cxOf (L2.CX P w) P w G.K mg base ["hand", "taken", "letters", "word", "letter", "turn"] "_law_name" (defScope s_law_name) f cdv A outer s H E) rfl
  exact (ss_cons (ss_set 2 sc_law_name.nd rfl (by first | exact Or.inl rfl | exact Or.inr rfl) s_str)
    (ss_cons (ss_set 3 sc_law_name.nd rfl (by first | exact Or.inl rfl | exact Or.inr rfl) (s_m rfl PySem.F.plainAttrs_str PySem.F.slot_str_join PySem.F.type_str_join (l_join rfl) s_str (sa_cons (s_lc (own := [("turn", 5)]) rfl sc_law_name.nd (si_range1 rfl T.n_range (sa_cons (s_callC c_law_any tk hr (by decide) rfl rfl (sa_cons (s_var 0) (sa_cons (s_lst (sa_cons s_int (sa_cons s_int (sa_cons s_int (sa_cons s_int (sa_cons s_int (sa_cons s_int sa_nil))))))) sa_nil))) sa_nil)) (blkOk_by (N := ["hand", "taken", "letters", "word", "letter", "turn"]) (sc := defScope s_law_name) (by decide +kernel)) (fun _ _ _ _ _ => (sg_name 5 sc_law_name.nd rfl (by first | exact Or.inl rfl | exact Or.inr rfl))) (fun _ _ _ _ _ => sts_nil) (fun _ _ _ _ _ => (s_callC c_law_any tk0 hr (by decide) rfl rfl (sa_cons (s_var 0) (sa_cons (s_var 2) sa_nil))))) sa_nil)))
    (ss_cons (ss_for po rfl (si_any rfl (s_var 2)) (sg_name 4 sc_law_name.nd rfl (by first | exact Or.inl rfl | exact Or.inr rfl)) (ss_one (ss_if (s_cmpT (l_in rfl) (s_var 3) (s_var 1)) (ss_one (ss_set 3 sc_law_name.nd rfl (by first | exact Or.inl rfl | exact Or.inr rfl) (s_bin l_add (s_var 4) (s_sl (l_sl rfl) (s_var 3) sp_none (sp_some s_int))))) ss_nil)))
    (ss_one (ss_ret (s_var 3))))))
abbrev s_law_crew : Stmt := (top 49)
theorem sc_law_crew : FnScope ["hand", "many", "letters", "found", "word", "at", "shift", "k", "one", "other", "turn"] ["hand", "many"] (defScope s_law_crew) := ⟨rfl, rfl, rfl, by decide +kernel, rfl, by decide +kernel, by decide +kernel⟩
def b_law_crew (R_law_any R_law_draw : List Val → Rs) : Fm → OutS := (sSeq (sPar [2, 3] (sCons (sC (.str "abcdefghijklmnopqrstuvwxyz")) (sCons (sLst sNil) sNil))) (sSeq (sSet 4 (sM "str" joinG (sC (.str "")) (sCons (sLc (iR1 (sCons (sCall R_law_any (sCons (sVar 0) (sCons (sLst (sCons (sC (.int 0)) (sCons (sC (.int 1)) (sCons (sC (.int 4)) (sCons (sC (.int 6)) sNil))))) sNil))) sNil)) (gN 10) sYes (sCall R_law_any (sCons (sVar 0) (sCons (sVar 2) sNil))) [10]) sNil))) (sSeq (sPar [5, 6] (sCons (sCall R_law_draw (sCons (sVar 0) (sCons (sBin addD (sB (gOne lenD) (sCons (sVar 4) sNil)) (sC (.int 1))) sNil))) (sCons (sCall R_law_draw (sCons (sVar 0) (sCons (sC (.int 26)) sNil))) sNil))) (sSeq (sFor (iR1 (sCons (sVar 1) sNil)) (gN 7) (sSeq (sPar [8, 9] (sCons (sBin ixG (sVar 2) (sBin (gI (fun _ j => decide (0 < j)) fun i j => .int (i % j)) (sB (gOne intD) (sCons (sBin addD (sVar 7) (sVar 6)) sNil)) (sC (.int 26)))) (sCons (sBin ixG (sVar 2) (sBin (gI (fun _ j => decide (0 < j)) fun i j => .int (i % j)) (sB (gOne intD) (sCons (sBin addD (sBin (gI divC fun i j => .int (i / j)) (sVar 7) (sC (.int 26))) (sVar 6)) sNil)) (sC (.int 26)))) sNil))) (sExpr (sW "list" appG (sVar 3) (sCons (sBin addD (sBin addD (sBin addD (sSl slG (sVar 4) sP0 (sP1 (sVar 5))) (sVar 9)) (sVar 8)) (sSl slG (sVar 4) (sP1 (sVar 5)) sP0)) sNil))))) (sRet (sB (gOne tupD) (sCons (sVar 3) sNil)))))))
theorem d_law_crew {P : Program} {w : World} {G : Gx} {mg : Str → Option Value} {base : Heap} (T : Tx G mg) {R_law_any R_law_draw : List Val → Rs} (c_law_any : Cal P w G mg base "_law_any" 2 R_law_any) (c_law_draw : Cal P w G mg base "_law_draw" 1 R_law_draw)
    {f : Addr} (cdv : Value) (A : Around) (outer : List Env) (s : Shared) (H : Hp) (B : Bx) (E : XK) (hr : Room 2 (A.deeper (PyProof.Rows.envOfC "_law_crew" (defScope s_law_crew) s.heap.objs.size f cdv))) :
    SSs (cxOf (L2.CX P w) P w G.K mg base ["hand", "many", "letters", "found", "word", "at", "shift", "k", "one", "other", "turn"] "_law_crew" (defScope s_law_crew) f cdv A outer s H E) G B (fun cls d _ H => E cls d H) (defBody s_law_crew) (b_law_crew R_law_any R_law_draw) := by
  have tk : Takes (cxOf (L2.CX P w) P w G.K mg base ["hand", "many", "letters", "found", "word", "at", "shift", "k", "one", "other", "turn"] "_law_crew" (defScope s_law_crew) f cdv A outer s H E) (fun cls d _ H => E cls d H) := takes_of rfl rfl rfl rfl
  have po := passes_of (X := cxOf (L2.CX P w) P w G.K mg base ["hand", "many", "letters", "found", "word", "at", "shift", "k", "one", "other", "turn"] "_law_crew" (defScope s_law_crew) f cdv A outer s H E) rfl
  exact (ss_cons (ss_parT (is := [2, 3]) rfl (sa_cons s_str (sa_cons (s_lst sa_nil) sa_nil)) (pgs_cons (pg_name (i := 2) sc_law_crew.nd rfl (by first | exact Or.inl rfl | exact Or.inr rfl)) (pgs_cons (pg_name (i := 3) sc_law_crew.nd rfl (by first | exact Or.inl rfl | exact Or.inr rfl)) pgs_nil)))
    (ss_cons (ss_set 4 sc_law_crew.nd rfl (by first | exact Or.inl rfl | exact Or.inr rfl) (s_m rfl PySem.F.plainAttrs_str PySem.F.slot_str_join PySem.F.type_str_join (l_join rfl) s_str (sa_cons (s_lc (own := [("turn", 10)]) rfl sc_law_crew.nd (si_range1 rfl T.n_range (sa_cons (s_callC c_law_any tk hr (by decide) rfl rfl (sa_cons (s_var 0) (sa_cons (s_lst (sa_cons s_int (sa_cons s_int (sa_cons s_int (sa_cons s_int sa_nil))))) sa_nil))) sa_nil)) (blkOk_by (N := ["hand", "many", "letters", "found", "word", "at", "shift", "k", "one", "other", "turn"]) (sc := defScope s_law_crew) (by decide +kernel)) (fun _ _ _ _ _ => (sg_name 10 sc_law_crew.nd rfl (by first | exact Or.inl rfl | exact Or.inr rfl))) (fun _ _ _ _ _ => sts_nil) (fun _ _ _ _ _ => (s_callC c_law_any tk0 hr (by decide) rfl rfl (sa_cons (s_var 0) (sa_cons (s_var 2) sa_nil))))) sa_nil)))
    (ss_cons (ss_par2 rfl sc_law_crew.nd rfl rfl (by decide) rfl rfl (sa_cons (s_callC c_law_draw tk hr (by decide) rfl rfl (sa_cons (s_var 0) (sa_cons (s_bin l_add (s_callB (l_len rfl) rfl T.n_len bt_len (sa_cons (s_var 4) sa_nil)) s_int) sa_nil))) (sa_cons (s_callC c_law_draw tk hr (by decide) rfl rfl (sa_cons (s_var 0) (sa_cons s_int sa_nil))) sa_nil)))
    (ss_cons (ss_for po rfl (si_range1 rfl T.n_range (sa_cons (s_var 1) sa_nil)) (sg_name 7 sc_law_crew.nd rfl (by first | exact Or.inl rfl | exact Or.inr rfl)) (ss_cons (ss_par2 rfl sc_law_crew.nd rfl rfl (by decide) rfl rfl (sa_cons (s_ix (l_ix rfl) (s_var 2) (s_bin l_modI (s_callTy l_int rfl T.n_int bt_int (sa_cons (s_bin l_add (s_var 7) (s_var 6)) sa_nil)) s_int)) (sa_cons (s_ix (l_ix rfl) (s_var 2) (s_bin l_modI (s_callTy l_int rfl T.n_int bt_int (sa_cons (s_bin l_add (s_bin l_divI (s_var 7) s_int) (s_var 6)) sa_nil)) s_int)) sa_nil)))
    (ss_one (ss_expr (s_w rfl PySem.F.plainAttrs_list PySem.F.slot_list_append PySem.F.type_list_append l_append (s_var 3) (sa_cons (s_bin l_add (s_bin l_add (s_bin l_add (s_sl (l_sl rfl) (s_var 4) sp_none (sp_some (s_var 5))) (s_var 9)) (s_var 8)) (s_sl (l_sl rfl) (s_var 4) (sp_some (s_var 5)) sp_none)) sa_nil))))))
    (ss_one (ss_ret (s_callTy (l_tuple rfl) rfl T.n_tuple bt_tuple (sa_cons (s_var 3) sa_nil))))))))
abbrev s_law_event : Stmt := (top 50)
theorem sc_law_event : FnScope ["hand", "parts", "dealt", "words", "one", "other"] ["hand", "parts", "dealt", "words"] (defScope s_law_event) := ⟨rfl, rfl, rfl, by decide +kernel, rfl, by decide +kernel, by decide +kernel⟩
def b_law_event (R_law_any R_law_draw : List Val → Rs) : Fm → OutS := (sSeq (sPar [4, 5] (sCons (sCall R_law_any (sCons (sVar 0) (sCons (sVar 3) sNil))) (sCons (sCall R_law_any (sCons (sVar 0) (sCons (sVar 3) sNil))) sNil))) (sSeq (sIfS (sOr (sTst (sBin eqG (sVar 4) (sVar 5))) (sTst (sBin eqG (sCall R_law_draw (sCons (sVar 0) (sCons (sC (.int 5)) sNil))) (sC (.int 0))))) (sRet (sTup (sCons (sC (.str "seen")) (sCons (sVar 4) (sCons (sBin gDget (sVar 2) (sVar 4)) sNil))))) sSkip) (sRet (sTup (sCons (sC (.str "pair")) (sCons (sVar 4) (sCons (sVar 5) (sCons (sBin (gI (fun _ j => decide (0 < j)) fun i j => .int (i % j)) (sB (gOne intD) (sCons (sBin (gI0 fun i j => .int (i - j)) (sBin gDget (sVar 2) (sVar 5)) (sBin gDget (sVar 2) (sVar 4))) sNil)) (sVar 1)) sNil))))))))
theorem d_law_event {P : Program} {w : World} {G : Gx} {mg : Str → Option Value} {base : Heap} (T : Tx G mg) {R_law_any R_law_draw : List Val → Rs} (c_law_any : Cal P w G mg base "_law_any" 2 R_law_any) (c_law_draw : Cal P w G mg base "_law_draw" 1 R_law_draw)
    {f : Addr} (cdv : Value) (A : Around) (outer : List Env) (s : Shared) (H : Hp) (B : Bx) (E : XK) (hr : Room 2 (A.deeper (PyProof.Rows.envOfC "_law_event" (defScope s_law_event) s.heap.objs.size f cdv))) :
    SSs (cxOf (L2.CX P w) P w G.K mg base ["hand", "parts", "dealt", "words", "one", "other"] "_law_event" (defScope s_law_event) f cdv A outer s H E) G B (fun cls d _ H => E cls d H) (defBody s_law_event) (b_law_event R_law_any R_law_draw) := by
  have tk : Takes (cxOf (L2.CX P w) P w G.K mg base ["hand", "parts", "dealt", "words", "one", "other"] "_law_event" (defScope s_law_event) f cdv A outer s H E) (fun cls d _ H => E cls d H) := takes_of rfl rfl rfl rfl
  have po := passes_of (X := cxOf (L2.CX P w) P w G.K mg base ["hand", "parts", "dealt", "words", "one", "other"] "_law_event" (defScope s_law_event) f cdv A outer s H E) rfl
  exact (ss_cons (ss_par2 rfl sc_law_event.nd rfl rfl (by decide) rfl rfl (sa_cons (s_callC c_law_any tk hr (by decide) rfl rfl (sa_cons (s_var 0) (sa_cons (s_var 3) sa_nil))) (sa_cons (s_callC c_law_any tk hr (by decide) rfl rfl (sa_cons (s_var 0) (sa_cons (s_var 3) sa_nil))) sa_nil)))
    (ss_cons (ss_if (PW.pt (s_or (s_cmpT (l_eqD rfl hr.units) (s_var 4) (s_var 5)) (s_or1 (s_cmpT (l_eqD rfl hr.units) (s_callC c_law_draw tk hr (by decide) rfl rfl (sa_cons (s_var 0) (sa_cons s_int sa_nil))) s_int)))) (ss_one (ss_ret (s_tup (sa_cons s_str (sa_cons (s_var 4) (sa_cons (s_dget (hu_of hr) (s_var 2) (s_var 4)) sa_nil)))))) ss_nil)
    (ss_one (ss_ret (s_tup (sa_cons s_str (sa_cons (s_var 4) (sa_cons (s_var 5) (sa_cons (s_bin l_modI (s_callTy l_int rfl T.n_int bt_int (sa_cons (s_bin l_subI (s_dget (hu_of hr) (s_var 2) (s_var 5)) (s_dget (hu_of hr) (s_var 2) (s_var 4))) sa_nil)) (s_var 1)) sa_nil)))))))))
abbrev s_check_days : Stmt := (top 29)
theorem sc_check_days : FnScope ["parts", "days", "names", "number", "day", "at", "event"] ["parts", "days"] (defScope s_check_days) := ⟨rfl, rfl, rfl, by decide +kernel, rfl, by decide +kernel, by decide +kernel⟩
def b_check_days (R_is_event R_take_names : List Val → Rs) : Fm → OutS := (sSeq (sIfS (sOr (sNot (sTru (sB (gTwo (isiG [0])) (sCons (sVar 1) (sCons (sC (.ty "tuple")) sNil))))) (sTst (sBin eqG (sB (gOne lenD) (sCons (sVar 1) sNil)) (sC (.int 0))))) sBad sSkip) (sSeq (sSet 2 (sLst sNil)) (sFor (iEnF (sCons (sVar 1) sNil)) (gT 2 (gsC (gN 3) (gsC (gN 4) gsN))) (sSeq (sIfS (sOr (sTst (sBin (gI0 fun i j => .bl (decide (j ≤ i))) (sVar 3) (sC (.int 200)))) (sNot (sTru (sB (gTwo (isiG [0])) (sCons (sVar 4) (sCons (sC (.ty "tuple")) sNil)))))) sBad sSkip) (sFor (iEnF (sCons (sVar 4) sNil)) (gT 2 (gsC (gN 5) (gsC (gN 6) gsN))) (sIfS (sOr (sTst (sBin (gI0 fun i j => .bl (decide (j ≤ i))) (sVar 5) (sC (.int 12)))) (sOr (sNot (sTru (sCall R_is_event (sCons (sVar 0) (sCons (sVar 6) sNil))))) (sNot (sTru (sCall R_take_names (sCons (sVar 2) (sCons (sVar 6) sNil))))))) sBad sSkip))))))
theorem d_check_days {P : Program} {w : World} {G : Gx} {mg : Str → Option Value} {base : Heap} (T : Tx G mg) {R_is_event R_take_names : List Val → Rs} (ck : Clk G [0]) (c_is_event : Cal P w G mg base "is_event" 3 R_is_event) (c_take_names : Cal P w G mg base "take_names" 2 R_take_names)
    {f : Addr} (cdv : Value) (A : Around) (outer : List Env) (s : Shared) (H : Hp) (B : Bx) (E : XK) (hr : Room 3 (A.deeper (PyProof.Rows.envOfC "check_days" (defScope s_check_days) s.heap.objs.size f cdv))) :
    SSs (cxOf (L2.CX P w) P w G.K mg base ["parts", "days", "names", "number", "day", "at", "event"] "check_days" (defScope s_check_days) f cdv A outer s H E) G B (fun cls d _ H => E cls d H) (defBody s_check_days) (b_check_days R_is_event R_take_names) := by
  have tk : Takes (cxOf (L2.CX P w) P w G.K mg base ["parts", "days", "names", "number", "day", "at", "event"] "check_days" (defScope s_check_days) f cdv A outer s H E) (fun cls d _ H => E cls d H) := takes_of rfl rfl rfl rfl
  have po := passes_of (X := cxOf (L2.CX P w) P w G.K mg base ["parts", "days", "names", "number", "day", "at", "event"] "check_days" (defScope s_check_days) f cdv A outer s H E) rfl
  exact (ss_cons (ss_if (PW.pt (s_or (s_not (s_tru rfl (s_callB (l_isi rfl ck) rfl T.n_isinstance bt_isinstance (sa_cons (s_var 1) (sa_cons (s_type rfl T.n_tuple bt_tuple) sa_nil))))) (s_or1 (s_cmpT (l_eqD rfl hr.units) (s_callB (l_len rfl) rfl T.n_len bt_len (sa_cons (s_var 1) sa_nil)) s_int)))) (ss_one ss_bad) ss_nil)
    (ss_cons (ss_set 2 sc_check_days.nd rfl (by first | exact Or.inl rfl | exact Or.inr rfl) (s_lst sa_nil))
    (ss_one (ss_for po rfl (si_enum rfl rfl T.n_enumerate (sa_cons (s_var 1) sa_nil)) (sg_tup rfl (sgs_cons (sg_name 3 sc_check_days.nd rfl (by first | exact Or.inl rfl | exact Or.inr rfl)) (sgs_cons (sg_name 4 sc_check_days.nd rfl (by first | exact Or.inl rfl | exact Or.inr rfl)) sgs_nil))) (ss_cons (ss_if (PW.pt (s_or (s_cmpT l_ge (s_var 3) (s_gintE T.c_MOST_DAYS rfl)) (s_or1 (s_not (s_tru rfl (s_callB (l_isi rfl ck) rfl T.n_isinstance bt_isinstance (sa_cons (s_var 4) (sa_cons (s_type rfl T.n_tuple bt_tuple) sa_nil)))))))) (ss_one ss_bad) ss_nil)
    (ss_one (ss_for po rfl (si_enum rfl rfl T.n_enumerate (sa_cons (s_var 4) sa_nil)) (sg_tup rfl (sgs_cons (sg_name 5 sc_check_days.nd rfl (by first | exact Or.inl rfl | exact Or.inr rfl)) (sgs_cons (sg_name 6 sc_check_days.nd rfl (by first | exact Or.inl rfl | exact Or.inr rfl)) sgs_nil))) (ss_one (ss_if (PW.pt (s_or (s_cmpT l_ge (s_var 5) (s_gintE T.c_MOST_EVENTS rfl)) (s_or (s_not (s_tru rfl (s_callC c_is_event tk hr (by decide) rfl rfl (sa_cons (s_var 0) (sa_cons (s_var 6) sa_nil))))) (s_or1 (s_not (s_tru rfl (s_callC c_take_names tk hr (by decide) rfl rfl (sa_cons (s_var 2) (sa_cons (s_var 6) sa_nil))))))))) (ss_one ss_bad) ss_nil)))))))))
abbrev s_law_names : Stmt := (top 48)
theorem sc_law_names : FnScope ["hand", "many", "taken", "found", "turn"] ["hand", "many", "taken"] (defScope s_law_names) := ⟨rfl, rfl, rfl, by decide +kernel, rfl, by decide +kernel, by decide +kernel⟩
def b_law_names (R_law_name : List Val → Rs) : Fm → OutS := (sSeq (sSet 3 (sLst sNil)) (sSeq (sFor (iR1 (sCons (sVar 1) sNil)) (gN 4) (sExpr (sW "list" appG (sVar 3) (sCons (sCall R_law_name (sCons (sVar 0) (sCons (sBin addD (sB (gOne lstD) (sCons (sVar 2) sNil)) (sVar 3)) sNil))) sNil)))) (sRet (sB (gOne tupD) (sCons (sVar 3) sNil)))))
theorem d_law_names {P : Program} {w : World} {G : Gx} {mg : Str → Option Value} {base : Heap} (T : Tx G mg) {R_law_name : List Val → Rs} (c_law_name : Cal P w G mg base "_law_name" 3 R_law_name)
    {f : Addr} (cdv : Value) (A : Around) (outer : List Env) (s : Shared) (H : Hp) (B : Bx) (E : XK) (hr : Room 3 (A.deeper (PyProof.Rows.envOfC "_law_names" (defScope s_law_names) s.heap.objs.size f cdv))) :
    SSs (cxOf (L2.CX P w) P w G.K mg base ["hand", "many", "taken", "found", "turn"] "_law_names" (defScope s_law_names) f cdv A outer s H E) G B (fun cls d _ H => E cls d H) (defBody s_law_names) (b_law_names R_law_name) := by
  have tk : Takes (cxOf (L2.CX P w) P w G.K mg base ["hand", "many", "taken", "found", "turn"] "_law_names" (defScope s_law_names) f cdv A outer s H E) (fun cls d _ H => E cls d H) := takes_of rfl rfl rfl rfl
  have po := passes_of (X := cxOf (L2.CX P w) P w G.K mg base ["hand", "many", "taken", "found", "turn"] "_law_names" (defScope s_law_names) f cdv A outer s H E) rfl
  exact (ss_cons (ss_set 3 sc_law_names.nd rfl (by first | exact Or.inl rfl | exact Or.inr rfl) (s_lst sa_nil))
    (ss_cons (ss_for po rfl (si_range1 rfl T.n_range (sa_cons (s_var 1) sa_nil)) (sg_name 4 sc_law_names.nd rfl (by first | exact Or.inl rfl | exact Or.inr rfl)) (ss_one (ss_expr (s_w rfl PySem.F.plainAttrs_list PySem.F.slot_list_append PySem.F.type_list_append l_append (s_var 3) (sa_cons (s_callC c_law_name tk hr (by decide) rfl rfl (sa_cons (s_var 0) (sa_cons (s_bin l_add (s_callTy (l_list rfl) rfl T.n_list bt_list (sa_cons (s_var 2) sa_nil)) (s_var 3)) sa_nil))) sa_nil)))))
    (ss_one (ss_ret (s_callTy (l_tuple rfl) rfl T.n_tuple bt_tuple (sa_cons (s_var 3) sa_nil))))))
abbrev s_law_days : Stmt := (top 52)
theorem sc_law_days : FnScope ["hand", "parts", "words", "many", "each", "change", "dealt", "found", "day", "turn"] ["hand", "parts", "words", "many", "each", "change"] (defScope s_law_days) := ⟨rfl, rfl, rfl, by decide +kernel, rfl, by decide +kernel, by decide +kernel⟩
def b_law_days (R_law_dealing_of R_law_draw R_law_event : List Val → Rs) : Fm → OutS := (sSeq (sPar [6, 7] (sCons (sCall R_law_dealing_of (sCons (sVar 0) (sCons (sVar 1) (sCons (sFz (sVar 2)) sNil)))) (sCons (sLst sNil) sNil))) (sSeq (sFor (iR1 (sCons (sVar 3) sNil)) (gN 8) (sSeq (sIfS (sAnd (sTst (sBin (gI0 fun i j => .bl (decide (j < i))) (sVar 8) (sC (.int 0)))) (sAnd (sTst (sBin (gI0 fun i j => .bl (decide (j < i))) (sVar 5) (sC (.int 0)))) (sTst (sBin eqG (sCall R_law_draw (sCons (sVar 0) (sCons (sVar 5) sNil))) (sC (.int 0)))))) (sSet 6 (sCall R_law_dealing_of (sCons (sVar 0) (sCons (sVar 1) (sCons (sFz (sVar 2)) sNil))))) sSkip) (sExpr (sW "list" appG (sVar 7) (sCons (sB (gOne tupD) (sCons (sLc (iR1 (sCons (sCall R_law_draw (sCons (sVar 0) (sCons (sBin addD (sVar 4) (sC (.int 1))) sNil))) sNil)) (gN 9) sYes (sCall R_law_event (sCons (sVar 0) (sCons (sVar 1) (sCons (sVar 6) (sCons (sVar 2) sNil))))) [9]) sNil)) sNil))))) (sRet (sB (gOne tupD) (sCons (sVar 7) sNil)))))
theorem d_law_days {P : Program} {w : World} {G : Gx} {mg : Str → Option Value} {base : Heap} (T : Tx G mg) {R_law_dealing_of R_law_draw R_law_event : List Val → Rs} (c_law_dealing_of : Cal P w G mg base "_law_dealing_of" 2 R_law_dealing_of) (c_law_draw : Cal P w G mg base "_law_draw" 1 R_law_draw) (c_law_event : Cal P w G mg base "_law_event" 3 R_law_event)
    {f : Addr} (cdv : Value) (A : Around) (outer : List Env) (s : Shared) (H : Hp) (B : Bx) (E : XK) (hr : Room 3 (A.deeper (PyProof.Rows.envOfC "_law_days" (defScope s_law_days) s.heap.objs.size f cdv))) :
    SSs (cxOf (L2.CX P w) P w G.K mg base ["hand", "parts", "words", "many", "each", "change", "dealt", "found", "day", "turn"] "_law_days" (defScope s_law_days) f cdv A outer s H E) G B (fun cls d _ H => E cls d H) (defBody s_law_days) (b_law_days R_law_dealing_of R_law_draw R_law_event) := by
  have tk : Takes (cxOf (L2.CX P w) P w G.K mg base ["hand", "parts", "words", "many", "each", "change", "dealt", "found", "day", "turn"] "_law_days" (defScope s_law_days) f cdv A outer s H E) (fun cls d _ H => E cls d H) := takes_of rfl rfl rfl rfl
  have po := passes_of (X := cxOf (L2.CX P w) P w G.K mg base ["hand", "parts", "words", "many", "each", "change", "dealt", "found", "day", "turn"] "_law_days" (defScope s_law_days) f cdv A outer s H E) rfl
  exact (ss_cons (ss_parT (is := [6, 7]) rfl (sa_cons (s_callC c_law_dealing_of tk hr (by decide) rfl rfl (sa_cons (s_var 0) (sa_cons (s_var 1) (sa_cons (s_fz (s_var 2)) sa_nil)))) (sa_cons (s_lst sa_nil) sa_nil)) (pgs_cons (pg_name (i := 6) sc_law_days.nd rfl (by first | exact Or.inl rfl | exact Or.inr rfl)) (pgs_cons (pg_name (i := 7) sc_law_days.nd rfl (by first | exact Or.inl rfl | exact Or.inr rfl)) pgs_nil)))
    (ss_cons (ss_for po rfl (si_range1 rfl T.n_range (sa_cons (s_var 3) sa_nil)) (sg_name 8 sc_law_days.nd rfl (by first | exact Or.inl rfl | exact Or.inr rfl)) (ss_cons (ss_if (PW.pt (s_and (s_cmpT l_gt (s_var 8) s_int) (s_and (s_cmpT l_gt (s_var 5) s_int) (s_and1 (s_cmpT (l_eqD rfl hr.units) (s_callC c_law_draw tk hr (by decide) rfl rfl (sa_cons (s_var 0) (sa_cons (s_var 5) sa_nil))) s_int))))) (ss_one (ss_set 6 sc_law_days.nd rfl (by first | exact Or.inl rfl | exact Or.inr rfl) (s_callC c_law_dealing_of tk hr (by decide) rfl rfl (sa_cons (s_var 0) (sa_cons (s_var 1) (sa_cons (s_fz (s_var 2)) sa_nil)))))) ss_nil)
    (ss_one (ss_expr (s_w rfl PySem.F.plainAttrs_list PySem.F.slot_list_append PySem.F.type_list_append l_append (s_var 7) (sa_cons (s_callTy (l_tuple rfl) rfl T.n_tuple bt_tuple (sa_cons (s_lc (own := [("turn", 9)]) rfl sc_law_days.nd (si_range1 rfl T.n_range (sa_cons (s_callC c_law_draw tk hr (by decide) rfl rfl (sa_cons (s_var 0) (sa_cons (s_bin l_add (s_var 4) s_int) sa_nil))) sa_nil)) (blkOk_by (N := ["hand", "parts", "words", "many", "each", "change", "dealt", "found", "day", "turn"]) (sc := defScope s_law_days) (by decide +kernel)) (fun _ _ _ _ _ => (sg_name 9 sc_law_days.nd rfl (by first | exact Or.inl rfl | exact Or.inr rfl))) (fun _ _ _ _ _ => sts_nil) (fun _ _ _ _ _ => (s_callC c_law_event tk0 hr (by decide) rfl rfl (sa_cons (s_var 0) (sa_cons (s_var 1) (sa_cons (s_var 6) (sa_cons (s_var 2) sa_nil))))))) sa_nil)) sa_nil))))))
    (ss_one (ss_ret (s_callTy (l_tuple rfl) rfl T.n_tuple bt_tuple (sa_cons (s_var 7) sa_nil))))))
abbrev s_Log_init : Stmt := (inClass (top 30) 0)
theorem sc_Log_init : FnScope ["self", "parts", "days"] ["self", "parts", "days"] (defScope s_Log_init) := ⟨rfl, rfl, rfl, by decide +kernel, rfl, by decide +kernel, by decide +kernel⟩
def b_Log_init (R_is_within R_check_days : List Val → Rs) : Fm → OutS := (sSeq (sIfS (sNot (sTru (sCall R_is_within (sCons (sVar 1) (sCons (sC (.int 2)) (sCons (sC (.int 12)) sNil)))))) sBad sSkip) (sSeq (sExpr (sCall R_check_days (sCons (sVar 1) (sCons (sFz (sVar 2)) sNil)))) (sSeq (sPutF [0] "parts" (sVar 1) (sVar 0)) (sPutF [0] "days" (sVar 2) (sVar 0)))))
theorem d_Log_init {P : Program} {w : World} {G : Gx} {mg : Str → Option Value} {base : Heap} (T : Tx G mg) {R_is_within R_check_days : List Val → Rs} (c_is_within : Cal P w G mg base "is_within" 2 R_is_within) (c_check_days : Cal P w G mg base "check_days" 4 R_check_days)
    {f : Addr} (cdv : Value) (A : Around) (outer : List Env) (s : Shared) (H : Hp) (B : Bx) (E : XK) (hr : Room 4 (A.deeper (PyProof.Rows.envOfC "Log.__init__" (defScope s_Log_init) s.heap.objs.size f cdv))) :
    SSs (cxOf (L2.CX P w) P w G.K mg base ["self", "parts", "days"] "Log.__init__" (defScope s_Log_init) f cdv A outer s H E) G B (fun cls d _ H => E cls d H) (defBody s_Log_init) (b_Log_init R_is_within R_check_days) := by
  have tk : Takes (cxOf (L2.CX P w) P w G.K mg base ["self", "parts", "days"] "Log.__init__" (defScope s_Log_init) f cdv A outer s H E) (fun cls d _ H => E cls d H) := takes_of rfl rfl rfl rfl
  have po := passes_of (X := cxOf (L2.CX P w) P w G.K mg base ["self", "parts", "days"] "Log.__init__" (defScope s_Log_init) f cdv A outer s H E) rfl
  exact (ss_cons (ss_if (s_not (s_tru rfl (s_callC c_is_within tk hr (by decide) rfl rfl (sa_cons (s_var 1) (sa_cons (s_gintE T.c_LEAST_PARTS rfl) (sa_cons (s_gintE T.c_MOST_PARTS rfl) sa_nil)))))) (ss_one ss_bad) ss_nil)
    (ss_cons (ss_expr (s_callC c_check_days tk hr (by decide) rfl rfl (sa_cons (s_var 1) (sa_cons (s_fz (s_var 2)) sa_nil))))
    (ss_cons (ss_putF rfl T.a_parts (s_var 1) (s_var 0))
    (ss_one (ss_putF rfl T.a_days (s_var 2) (s_var 0))))))
abbrev s_behind : Stmt := (top 34)
theorem sc_behind : FnScope ["one", "other"] ["one", "other"] (defScope s_behind) := ⟨rfl, rfl, rfl, by decide +kernel, rfl, by decide +kernel, by decide +kernel⟩
def b_behind (R_check_same_parts R_Log_init : List Val → Rs) : Fm → OutS := (sSeq (sExpr (sCall R_check_same_parts (sCons (sVar 0) (sCons (sVar 1) sNil)))) (sRet (sMake 0 R_Log_init (sCons (sFld [0] "parts" (sVar 0)) (sCons (sBin addD (sFld [0] "days" (sVar 0)) (sFld [0] "days" (sVar 1))) sNil)))))
theorem d_behind {P : Program} {w : World} {G : Gx} {mg : Str → Option Value} {base : Heap} (T : Tx G mg) {R_check_same_parts R_Log_init : List Val → Rs} (c_check_same_parts : Cal P w G mg base "check_same_parts" 2 R_check_same_parts) (c_Log_init : CalM P w G mg base "Log" 0 5 R_Log_init)
    {f : Addr} (cdv : Value) (A : Around) (outer : List Env) (s : Shared) (H : Hp) (B : Bx) (E : XK) (hr : Room 6 (A.deeper (PyProof.Rows.envOfC "behind" (defScope s_behind) s.heap.objs.size f cdv))) :
    SSs (cxOf (L2.CX P w) P w G.K mg base ["one", "other"] "behind" (defScope s_behind) f cdv A outer s H E) G B (fun cls d _ H => E cls d H) (defBody s_behind) (b_behind R_check_same_parts R_Log_init) := by
  have tk : Takes (cxOf (L2.CX P w) P w G.K mg base ["one", "other"] "behind" (defScope s_behind) f cdv A outer s H E) (fun cls d _ H => E cls d H) := takes_of rfl rfl rfl rfl
  have po := passes_of (X := cxOf (L2.CX P w) P w G.K mg base ["one", "other"] "behind" (defScope s_behind) f cdv A outer s H E) rfl
  exact (ss_cons (ss_expr (s_callC c_check_same_parts tk hr (by decide) rfl rfl (sa_cons (s_var 0) (sa_cons (s_var 1) sa_nil))))
    (ss_one (ss_ret (s_makeC c_Log_init tk hr (by decide) rfl rfl (sa_cons (s_fld rfl T.a_parts (s_var 0)) (sa_cons (s_bin l_add (s_fld rfl T.a_days (s_var 0)) (s_fld rfl T.a_days (s_var 1))) sa_nil))))))
abbrev s_cut : Stmt := (top 35)
theorem sc_cut : FnScope ["log", "first", "end"] ["log", "first", "end"] (defScope s_cut) := ⟨rfl, rfl, rfl, by decide +kernel, rfl, by decide +kernel, by decide +kernel⟩
def b_cut (R_check_stretch R_Log_init : List Val → Rs) : Fm → OutS := (sSeq (sExpr (sCall R_check_stretch (sCons (sVar 0) (sCons (sVar 1) (sCons (sVar 2) sNil))))) (sRet (sMake 0 R_Log_init (sCons (sFld [0] "parts" (sVar 0)) (sCons (sSl slG (sFld [0] "days" (sVar 0)) (sP1 (sVar 1)) (sP1 (sVar 2))) sNil)))))
theorem d_cut {P : Program} {w : World} {G : Gx} {mg : Str → Option Value} {base : Heap} (T : Tx G mg) {R_check_stretch R_Log_init : List Val → Rs} (c_check_stretch : Cal P w G mg base "check_stretch" 3 R_check_stretch) (c_Log_init : CalM P w G mg base "Log" 0 5 R_Log_init)
    {f : Addr} (cdv : Value) (A : Around) (outer : List Env) (s : Shared) (H : Hp) (B : Bx) (E : XK) (hr : Room 6 (A.deeper (PyProof.Rows.envOfC "cut" (defScope s_cut) s.heap.objs.size f cdv))) :
    SSs (cxOf (L2.CX P w) P w G.K mg base ["log", "first", "end"] "cut" (defScope s_cut) f cdv A outer s H E) G B (fun cls d _ H => E cls d H) (defBody s_cut) (b_cut R_check_stretch R_Log_init) := by
  have tk : Takes (cxOf (L2.CX P w) P w G.K mg base ["log", "first", "end"] "cut" (defScope s_cut) f cdv A outer s H E) (fun cls d _ H => E cls d H) := takes_of rfl rfl rfl rfl
  have po := passes_of (X := cxOf (L2.CX P w) P w G.K mg base ["log", "first", "end"] "cut" (defScope s_cut) f cdv A outer s H E) rfl
  exact (ss_cons (ss_expr (s_callC c_check_stretch tk hr (by decide) rfl rfl (sa_cons (s_var 0) (sa_cons (s_var 1) (sa_cons (s_var 2) sa_nil)))))
    (ss_one (ss_ret (s_makeC c_Log_init tk hr (by decide) rfl rfl (sa_cons (s_fld rfl T.a_parts (s_var 0)) (sa_cons (s_sl (l_sl rfl) (s_fld rfl T.a_days (s_var 0)) (sp_some (s_var 1)) (sp_some (s_var 2))) sa_nil))))))
abbrev s_read_log : Stmt := (top 41)
theorem sc_read_log : FnScope ["text", "lines", "rest", "days", "at", "line", "day"] ["text"] (defScope s_read_log) := ⟨rfl, rfl, rfl, by decide +kernel, rfl, by decide +kernel, by decide +kernel⟩
def b_read_log (R_read_lock R_read_day R_Log_init : List Val → Rs) : Fm → OutS := (sSeq (sIfS (sNot (sTru (sB (gTwo (isiG [0])) (sCons (sVar 0) (sCons (sC (.ty "str")) sNil))))) sBad sSkip) (sSeq (sSet 1 (sM "str" splitG (sVar 0) (sCons (sC (.str "\n")) sNil))) (sSeq (sSet 2 (sW "list" popG (sVar 1) sNil)) (sSeq (sIfS (sOr (sTst (sBin eqG (sB (gOne lenD) (sCons (sVar 1) sNil)) (sC (.int 0)))) (sTst (sBin (gIs false) (sCall R_read_lock (sCons (sBin ixG (sVar 1) (sC (.int 0))) sNil)) (sC .non)))) sBad sSkip) (sSeq (sSet 3 (sLst sNil)) (sSeq (sFor (iEnF (sCons (sSl slG (sVar 1) (sP1 (sC (.int 1))) sP0) sNil)) (gT 2 (gsC (gN 4) (gsC (gN 5) gsN))) (sSeq (sSet 6 (sCall R_read_day (sCons (sVar 5) sNil))) (sSeq (sIfS (sTst (sBin (gIs false) (sVar 6) (sC .non))) sBad sSkip) (sExpr (sW "list" appG (sVar 3) (sCons (sVar 6) sNil)))))) (sSeq (sIfS (sTst (sBin neG (sVar 2) (sC (.str "")))) sBad sSkip) (sRet (sMake 0 R_Log_init (sCons (sCall R_read_lock (sCons (sBin ixG (sVar 1) (sC (.int 0))) sNil)) (sCons (sB (gOne tupD) (sCons (sVar 3) sNil)) sNil)))))))))))
theorem d_read_log {P : Program} {w : World} {G : Gx} {mg : Str → Option Value} {base : Heap} (T : Tx G mg) {R_read_lock R_read_day R_Log_init : List Val → Rs} (ck : Clk G [0]) (c_read_lock : Cal P w G mg base "read_lock" 2 R_read_lock) (c_read_day : Cal P w G mg base "read_day" 3 R_read_day) (c_Log_init : CalM P w G mg base "Log" 0 5 R_Log_init)
    {f : Addr} (cdv : Value) (A : Around) (outer : List Env) (s : Shared) (H : Hp) (B : Bx) (E : XK) (hr : Room 6 (A.deeper (PyProof.Rows.envOfC "read_log" (defScope s_read_log) s.heap.objs.size f cdv))) :
    SSs (cxOf (L2.CX P w) P w G.K mg base ["text", "lines", "rest", "days", "at", "line", "day"] "read_log" (defScope s_read_log) f cdv A outer s H E) G B (fun cls d _ H => E cls d H) (defBody s_read_log) (b_read_log R_read_lock R_read_day R_Log_init) := by
  have tk : Takes (cxOf (L2.CX P w) P w G.K mg base ["text", "lines", "rest", "days", "at", "line", "day"] "read_log" (defScope s_read_log) f cdv A outer s H E) (fun cls d _ H => E cls d H) := takes_of rfl rfl rfl rfl
  have po := passes_of (X := cxOf (L2.CX P w) P w G.K mg base ["text", "lines", "rest", "days", "at", "line", "day"] "read_log" (defScope s_read_log) f cdv A outer s H E) rfl
  exact (ss_cons (ss_if (s_not (s_tru rfl (s_callB (l_isi rfl ck) rfl T.n_isinstance bt_isinstance (sa_cons (s_var 0) (sa_cons (s_type rfl T.n_str bt_str) sa_nil))))) (ss_one ss_bad) ss_nil)
    (ss_cons (ss_set 1 sc_read_log.nd rfl (by first | exact Or.inl rfl | exact Or.inr rfl) (s_m rfl PySem.F.plainAttrs_str PySem.F.slot_str_split PySem.F.type_str_split l_split (s_var 0) (sa_cons s_str sa_nil)))
    (ss_cons (ss_set 2 sc_read_log.nd rfl (by first | exact Or.inl rfl | exact Or.inr rfl) (s_w0 rfl PySem.F.plainAttrs_list PySem.F.slot_list_pop PySem.F.type_list_pop l_pop0 (s_var 1)))
    (ss_cons (ss_if (PW.pt (s_or (s_cmpT (l_eqD rfl hr.units) (s_callB (l_len rfl) rfl T.n_len bt_len (sa_cons (s_var 1) sa_nil)) s_int) (s_or1 (s_cmpT l_isN (s_callC c_read_lock tk hr (by decide) rfl rfl (sa_cons (s_ix (l_ix rfl) (s_var 1) s_int) sa_nil)) s_non)))) (ss_one ss_bad) ss_nil)
    (ss_cons (ss_set 3 sc_read_log.nd rfl (by first | exact Or.inl rfl | exact Or.inr rfl) (s_lst sa_nil))
    (ss_cons (ss_for po rfl (si_enum rfl rfl T.n_enumerate (sa_cons (s_sl (l_sl rfl) (s_var 1) (sp_some s_int) sp_none) sa_nil)) (sg_tup rfl (sgs_cons (sg_name 4 sc_read_log.nd rfl (by first | exact Or.inl rfl | exact Or.inr rfl)) (sgs_cons (sg_name 5 sc_read_log.nd rfl (by first | exact Or.inl rfl | exact Or.inr rfl)) sgs_nil))) (ss_cons (ss_set 6 sc_read_log.nd rfl (by first | exact Or.inl rfl | exact Or.inr rfl) (s_callC c_read_day tk hr (by decide) rfl rfl (sa_cons (s_var 5) sa_nil)))
    (ss_cons (ss_if (s_cmpT l_isN (s_var 6) s_non) (ss_one ss_bad) ss_nil)
    (ss_one (ss_expr (s_w rfl PySem.F.plainAttrs_list PySem.F.slot_list_append PySem.F.type_list_append l_append (s_var 3) (sa_cons (s_var 6) sa_nil)))))))
    (ss_cons (ss_if (s_cmpT (l_neD rfl hr.units) (s_var 2) s_str) (ss_one ss_bad) ss_nil)
    (ss_one (ss_ret (s_makeC c_Log_init tk hr (by decide) rfl rfl (sa_cons (s_callC c_read_lock tk hr (by decide) rfl rfl (sa_cons (s_ix (l_ix rfl) (s_var 1) s_int) sa_nil)) (sa_cons (s_callTy (l_tuple rfl) rfl T.n_tuple bt_tuple (sa_cons (s_var 3) sa_nil)) sa_nil))))))))))))
abbrev s_law_is : Stmt := (top 47)
theorem sc_law_is : FnScope ["answer", "due", "one", "other"] ["answer", "due"] (defScope s_law_is) := ⟨rfl, rfl, rfl, by decide +kernel, rfl, by decide +kernel, by decide +kernel⟩
def b_law_is (R_law_is : List Val → Rs) : Fm → OutS := (sSeq (sIfS (sOr (sTst (sBin (gIs false) (sVar 1) (sC .non))) (sTst (sBin (gIs false) (sVar 0) (sC .non)))) (sRet (sAndV (sBin (gIs false) (sVar 1) (sC .non)) (sBin (gIs false) (sVar 0) (sC .non)))) sSkip) (sSeq (sIfS (sTru (sB (gTwo (isiG [0])) (sCons (sVar 1) (sCons (sTup (sCons (sC (.ty "tuple")) (sCons (sC (.ty "list")) sNil))) sNil)))) (sSeq (sIfS (sOr (sTst (sBin neG (sB (gTwo (isiG [0])) (sCons (sVar 0) (sCons (sC (.ty "tuple")) sNil))) (sB (gTwo (isiG [0])) (sCons (sVar 1) (sCons (sC (.ty "tuple")) sNil))))) (sTst (sBin neG (sB (gTwo (isiG [0])) (sCons (sVar 0) (sCons (sC (.ty "list")) sNil))) (sB (gTwo (isiG [0])) (sCons (sVar 1) (sCons (sC (.ty "list")) sNil)))))) (sRet (sC (.bl false))) sSkip) (sRet (sAndV (sBin eqG (sB (gOne lenD) (sCons (sVar 0) sNil)) (sB (gOne lenD) (sCons (sVar 1) sNil))) (sB (gOne allD) (sCons (sLc (iZp (sCons (sVar 0) (sCons (sVar 1) sNil))) (gT 2 (gsC (gN 2) (gsC (gN 3) gsN))) sYes (sCall R_law_is (sCons (sFz (sVar 2)) (sCons (sFz (sVar 3)) sNil))) [2, 3]) sNil))))) sSkip) (sSeq (sIfS (sOr (sTst (sBin neG (sB (gTwo (isiG [0])) (sCons (sVar 0) (sCons (sC (.ty "bool")) sNil))) (sB (gTwo (isiG [0])) (sCons (sVar 1) (sCons (sC (.ty "bool")) sNil))))) (sTst (sBin neG (sB (gTwo (isiG [0])) (sCons (sVar 0) (sCons (sC (.ty "int")) sNil))) (sB (gTwo (isiG [0])) (sCons (sVar 1) (sCons (sC (.ty "int")) sNil)))))) (sRet (sC (.bl false))) sSkip) (sRet (sAndV (sBin eqG (sB (gTwo (isiG [0])) (sCons (sVar 0) (sCons (sC (.ty "str")) sNil))) (sB (gTwo (isiG [0])) (sCons (sVar 1) (sCons (sC (.ty "str")) sNil)))) (sBin eqG (sVar 0) (sVar 1)))))))
theorem d_law_is {P : Program} {w : World} {G : Gx} {mg : Str → Option Value} {base : Heap} (T : Tx G mg) {R_law_is : List Val → Rs} {jj kk : Nat} (hk : kk ≤ jj) (ck : Clk G [0]) (c_law_is : Cal P w G mg base "_law_is" kk R_law_is) (hj : 0 ≤ jj)
    {f : Addr} (cdv : Value) (A : Around) (outer : List Env) (s : Shared) (H : Hp) (B : Bx) (E : XK) (hr : Room jj (A.deeper (PyProof.Rows.envOfC "_law_is" (defScope s_law_is) s.heap.objs.size f cdv))) :
    SSs (cxOf (L2.CX P w) P w G.K mg base ["answer", "due", "one", "other"] "_law_is" (defScope s_law_is) f cdv A outer s H E) G B (fun cls d _ H => E cls d H) (defBody s_law_is) (b_law_is R_law_is) := by
  have tk : Takes (cxOf (L2.CX P w) P w G.K mg base ["answer", "due", "one", "other"] "_law_is" (defScope s_law_is) f cdv A outer s H E) (fun cls d _ H => E cls d H) := takes_of rfl rfl rfl rfl
  have po := passes_of (X := cxOf (L2.CX P w) P w G.K mg base ["answer", "due", "one", "other"] "_law_is" (defScope s_law_is) f cdv A outer s H E) rfl
  exact (ss_cons (ss_if (PW.pt (s_or (s_cmpT l_isN (s_var 1) s_non) (s_or1 (s_cmpT l_isN (s_var 0) s_non)))) (ss_one (ss_ret (s_andV (s_cmp l_isN (s_var 1) s_non) (s_oneV (s_cmp l_isN (s_var 0) s_non))))) ss_nil)
    (ss_cons (ss_if (s_tru rfl (s_callB (l_isi rfl ck) rfl T.n_isinstance bt_isinstance (sa_cons (s_var 1) (sa_cons (s_tup (sa_cons (s_type rfl T.n_tuple bt_tuple) (sa_cons (s_type rfl T.n_list bt_list) sa_nil))) sa_nil)))) (ss_cons (ss_if (PW.pt (s_or (s_cmpT (l_neD rfl hr.units) (s_callB (l_isi rfl ck) rfl T.n_isinstance bt_isinstance (sa_cons (s_var 0) (sa_cons (s_type rfl T.n_tuple bt_tuple) sa_nil))) (s_callB (l_isi rfl ck) rfl T.n_isinstance bt_isinstance (sa_cons (s_var 1) (sa_cons (s_type rfl T.n_tuple bt_tuple) sa_nil)))) (s_or1 (s_cmpT (l_neD rfl hr.units) (s_callB (l_isi rfl ck) rfl T.n_isinstance bt_isinstance (sa_cons (s_var 0) (sa_cons (s_type rfl T.n_list bt_list) sa_nil))) (s_callB (l_isi rfl ck) rfl T.n_isinstance bt_isinstance (sa_cons (s_var 1) (sa_cons (s_type rfl T.n_list bt_list) sa_nil))))))) (ss_one (ss_ret s_bl)) ss_nil)
    (ss_one (ss_ret (s_andV (s_cmp (l_eqD rfl hr.units) (s_callB (l_len rfl) rfl T.n_len bt_len (sa_cons (s_var 0) sa_nil)) (s_callB (l_len rfl) rfl T.n_len bt_len (sa_cons (s_var 1) sa_nil))) (s_oneV (s_callB (l_all rfl rfl) rfl T.n_all bt_all (sa_cons (s_lc (own := [("one", 2), ("other", 3)]) rfl sc_law_is.nd (si_zip rfl rfl T.n_zip (sa_cons (s_var 0) (sa_cons (s_var 1) sa_nil))) (blkOk_by (N := ["answer", "due", "one", "other"]) (sc := defScope s_law_is) (by decide +kernel)) (fun _ _ _ _ _ => (sg_tup rfl (sgs_cons (sg_name 2 sc_law_is.nd rfl (by first | exact Or.inl rfl | exact Or.inr rfl)) (sgs_cons (sg_name 3 sc_law_is.nd rfl (by first | exact Or.inl rfl | exact Or.inr rfl)) sgs_nil)))) (fun _ _ _ _ _ => sts_nil) (fun _ _ _ _ _ => (s_callC c_law_is tk0 hr hk rfl rfl (sa_cons (s_fz (s_var 2)) (sa_cons (s_fz (s_var 3)) sa_nil))))) sa_nil))))))) ss_nil)
    (ss_cons (ss_if (PW.pt (s_or (s_cmpT (l_neD rfl hr.units) (s_callB (l_isi rfl ck) rfl T.n_isinstance bt_isinstance (sa_cons (s_var 0) (sa_cons (s_type rfl T.n_bool bt_bool) sa_nil))) (s_callB (l_isi rfl ck) rfl T.n_isinstance bt_isinstance (sa_cons (s_var 1) (sa_cons (s_type rfl T.n_bool bt_bool) sa_nil)))) (s_or1 (s_cmpT (l_neD rfl hr.units) (s_callB (l_isi rfl ck) rfl T.n_isinstance bt_isinstance (sa_cons (s_var 0) (sa_cons (s_type rfl T.n_int bt_int) sa_nil))) (s_callB (l_isi rfl ck) rfl T.n_isinstance bt_isinstance (sa_cons (s_var 1) (sa_cons (s_type rfl T.n_int bt_int) sa_nil))))))) (ss_one (ss_ret s_bl)) ss_nil)
    (ss_one (ss_ret (s_andV (s_cmp (l_eqD rfl hr.units) (s_callB (l_isi rfl ck) rfl T.n_isinstance bt_isinstance (sa_cons (s_var 0) (sa_cons (s_type rfl T.n_str bt_str) sa_nil))) (s_callB (l_isi rfl ck) rfl T.n_isinstance bt_isinstance (sa_cons (s_var 1) (sa_cons (s_type rfl T.n_str bt_str) sa_nil)))) (s_oneV (s_cmp (l_eqD rfl hr.units) (s_var 0) (s_var 1)))))))))
abbrev s_law_is_read : Stmt := (top 54)
theorem sc_law_is_read : FnScope ["parts", "days", "text", "read", "log"] ["parts", "days"] (defScope s_law_is_read) := ⟨rfl, rfl, rfl, by decide +kernel, rfl, by decide +kernel, by decide +kernel⟩
def b_law_is_read (R_law_text R_read_log R_law_is R_log_text R_Log_init R_Log_len R_Log_eq : List Val → Rs) : Fm → OutS := (sSeq (sSet 2 (sCall R_law_text (sCons (sVar 0) (sCons (sFz (sVar 1)) sNil)))) (sSeq (sSet 3 (sCall R_read_log (sCons (sVar 2) sNil))) (sSeq (sIfS (sOr (sNot (sTru (sCall R_law_is (sCons (sLst (sCons (sFld [0] "parts" (sVar 3)) (sCons (sFld [0] "days" (sVar 3)) sNil))) (sCons (sLst (sCons (sVar 0) (sCons (sVar 1) sNil))) sNil))))) (sNot (sTru (sCall R_law_is (sCons (sCall R_log_text (sCons (sVar 3) sNil)) (sCons (sFz (sVar 2)) sNil)))))) (sRet (sC (.bl false))) sSkip) (sSeq (sSet 4 (sMake 0 R_Log_init (sCons (sFz (sVar 0)) (sCons (sFz (sVar 1)) sNil)))) (sSeq (sIfS (sOr (sNot (sTru (sCall R_law_is (sCons (sCall R_log_text (sCons (sVar 4) sNil)) (sCons (sFz (sVar 2)) sNil))))) (sNot (sTru (sCall R_law_is (sCons (sLst (sCons (sBin (eqOV [0] R_Log_eq 0) (sVar 3) (sVar 4)) (sCons (sBin (neOV [0] R_Log_eq 0) (sVar 3) (sVar 4)) (sCons (sB (gOne (lenOG R_Log_len 0)) (sCons (sVar 3) sNil)) sNil)))) (sCons (sLst (sCons (sC (.bl true)) (sCons (sC (.bl false)) (sCons (sB (gOne lenD) (sCons (sVar 1) sNil)) sNil)))) sNil)))))) (sRet (sC (.bl false))) sSkip) (sRet (sCall R_law_is (sCons (sCall R_log_text (sCons (sCall R_read_log (sCons (sCall R_log_text (sCons (sVar 4) sNil)) sNil)) sNil)) (sCons (sFz (sVar 2)) sNil)))))))))
theorem d_law_is_read {P : Program} {w : World} {G : Gx} {mg : Str → Option Value} {base : Heap} (T : Tx G mg) {R_law_text R_read_log R_law_is R_log_text R_Log_init R_Log_len R_Log_eq : List Val → Rs} (ck : Clk G [0]) (c_law_text : Cal P w G mg base "_law_text" 1 R_law_text) (c_read_log : Cal P w G mg base "read_log" 7 R_read_log) (c_law_is : Cal P w G mg base "_law_is" 7 R_law_is) (c_log_text : Cal P w G mg base "log_text" 2 R_log_text) (c_Log_init : CalM P w G mg base "Log" 0 5 R_Log_init) (c_Log_len : CalL P w G mg base 0 "__len__" 1 R_Log_len) (c_Log_eq : CalE P w G mg base [0] 0 1 R_Log_eq)
    {f : Addr} (cdv : Value) (A : Around) (outer : List Env) (s : Shared) (H : Hp) (B : Bx) (E : XK) (hr : Room 7 (A.deeper (PyProof.Rows.envOfC "_law_is_read" (defScope s_law_is_read) s.heap.objs.size f cdv))) :
    SSs (cxOf (L2.CX P w) P w G.K mg base ["parts", "days", "text", "read", "log"] "_law_is_read" (defScope s_law_is_read) f cdv A outer s H E) G B (fun cls d _ H => E cls d H) (defBody s_law_is_read) (b_law_is_read R_law_text R_read_log R_law_is R_log_text R_Log_init R_Log_len R_Log_eq) := by
  have tk : Takes (cxOf (L2.CX P w) P w G.K mg base ["parts", "days", "text", "read", "log"] "_law_is_read" (defScope s_law_is_read) f cdv A outer s H E) (fun cls d _ H => E cls d H) := takes_of rfl rfl rfl rfl
  have po := passes_of (X := cxOf (L2.CX P w) P w G.K mg base ["parts", "days", "text", "read", "log"] "_law_is_read" (defScope s_law_is_read) f cdv A outer s H E) rfl
  exact (ss_cons (ss_set 2 sc_law_is_read.nd rfl (by first | exact Or.inl rfl | exact Or.inr rfl) (s_callC c_law_text tk hr (by decide) rfl rfl (sa_cons (s_var 0) (sa_cons (s_fz (s_var 1)) sa_nil))))
    (ss_cons (ss_set 3 sc_law_is_read.nd rfl (by first | exact Or.inl rfl | exact Or.inr rfl) (s_callC c_read_log tk hr (by decide) rfl rfl (sa_cons (s_var 2) sa_nil)))
    (ss_cons (ss_if (PW.pt (s_or (s_not (s_tru rfl (s_callC c_law_is tk hr (by decide) rfl rfl (sa_cons (s_lst (sa_cons (s_fld rfl T.a_parts (s_var 3)) (sa_cons (s_fld rfl T.a_days (s_var 3)) sa_nil))) (sa_cons (s_lst (sa_cons (s_var 0) (sa_cons (s_var 1) sa_nil))) sa_nil))))) (s_or1 (s_not (s_tru rfl (s_callC c_law_is tk hr (by decide) rfl rfl (sa_cons (s_callC c_log_text tk hr (by decide) rfl rfl (sa_cons (s_var 3) sa_nil)) (sa_cons (s_fz (s_var 2)) sa_nil)))))))) (ss_one (ss_ret s_bl)) ss_nil)
    (ss_cons (ss_set 4 sc_law_is_read.nd rfl (by first | exact Or.inl rfl | exact Or.inr rfl) (s_makeC c_Log_init tk hr (by decide) rfl rfl (sa_cons (s_fz (s_var 0)) (sa_cons (s_fz (s_var 1)) sa_nil))))
    (ss_cons (ss_if (PW.pt (s_or (s_not (s_tru rfl (s_callC c_law_is tk hr (by decide) rfl rfl (sa_cons (s_callC c_log_text tk hr (by decide) rfl rfl (sa_cons (s_var 4) sa_nil)) (sa_cons (s_fz (s_var 2)) sa_nil))))) (s_or1 (s_not (s_tru rfl (s_callC c_law_is tk hr (by decide) rfl rfl (sa_cons (s_lst (sa_cons (s_cmp (l_eqC c_Log_eq ck hr (by decide) rfl) (s_var 3) (s_var 4)) (sa_cons (s_cmp (l_neC c_Log_eq ck hr (by decide) rfl) (s_var 3) (s_var 4)) (sa_cons (s_callB (l_lenC c_Log_len hr (by decide) rfl) rfl T.n_len bt_len (sa_cons (s_var 3) sa_nil)) sa_nil)))) (sa_cons (s_lst (sa_cons s_bl (sa_cons s_bl (sa_cons (s_callB (l_len rfl) rfl T.n_len bt_len (sa_cons (s_var 1) sa_nil)) sa_nil)))) sa_nil)))))))) (ss_one (ss_ret s_bl)) ss_nil)
    (ss_one (ss_ret (s_callC c_law_is tk hr (by decide) rfl rfl (sa_cons (s_callC c_log_text tk hr (by decide) rfl rfl (sa_cons (s_callC c_read_log tk hr (by decide) rfl rfl (sa_cons (s_callC c_log_text tk hr (by decide) rfl rfl (sa_cons (s_var 4) sa_nil)) sa_nil)) sa_nil)) (sa_cons (s_fz (s_var 2)) sa_nil))))))))))
abbrev s_law_lines_right : Stmt := (top 55)
theorem sc_law_lines_right : FnScope ["hand", "parts", "days", "at", "log", "one", "other", "first"] ["hand", "parts", "days"] (defScope s_law_lines_right) := ⟨rfl, rfl, rfl, by decide +kernel, rfl, by decide +kernel, by decide +kernel⟩
def b_law_lines_right (R_law_draw R_Log_init R_law_is R_law_text R_log_text R_cut R_behind : List Val → Rs) : Fm → OutS := (sSeq (sSet 3 (sBin addD (sC (.int 1)) (sCall R_law_draw (sCons (sVar 0) (sCons (sB (gOne lenD) (sCons (sVar 2) sNil)) sNil))))) (sSeq (sSet 4 (sMake 0 R_Log_init (sCons (sFz (sVar 1)) (sCons (sFz (sVar 2)) sNil)))) (sSeq (sIfS (sNot (sTru (sCall R_law_is (sCons (sCall R_log_text (sCons (sCall R_cut (sCons (sVar 4) (sCons (sC (.int 0)) (sCons (sVar 3) sNil)))) sNil)) (sCons (sCall R_law_text (sCons (sVar 1) (sCons (sSl slG (sVar 2) sP0 (sP1 (sVar 3))) sNil))) sNil))))) (sRet (sC (.bl false))) sSkip) (sSeq (sPar [5, 6] (sCons (sCall R_law_text (sCons (sVar 1) (sCons (sFz (sVar 2)) sNil))) (sCons (sCall R_law_text (sCons (sVar 1) (sCons (sSl slG (sVar 2) (sP1 (sBin (gI0 fun i j => .int (i - j)) (sVar 3) (sC (.int 1)))) sP0) sNil))) sNil))) (sSeq (sSet 7 (sBin addD (sBin addD (sC (.str "lock ")) (sB (gOne strD) (sCons (sVar 1) sNil))) (sC (.str "\n")))) (sRet (sCall R_law_is (sCons (sCall R_log_text (sCons (sCall R_behind (sCons (sVar 4) (sCons (sCall R_cut (sCons (sVar 4) (sCons (sBin (gI0 fun i j => .int (i - j)) (sVar 3) (sC (.int 1))) (sCons (sB (gOne lenD) (sCons (sVar 2) sNil)) sNil)))) sNil))) sNil)) (sCons (sBin addD (sVar 5) (sSl slG (sVar 6) (sP1 (sB (gOne lenD) (sCons (sVar 7) sNil))) sP0)) sNil)))))))))
theorem d_law_lines_right {P : Program} {w : World} {G : Gx} {mg : Str → Option Value} {base : Heap} (T : Tx G mg) {R_law_draw R_Log_init R_law_is R_law_text R_log_text R_cut R_behind : List Val → Rs} (c_law_draw : Cal P w G mg base "_law_draw" 1 R_law_draw) (c_Log_init : CalM P w G mg base "Log" 0 5 R_Log_init) (c_law_is : Cal P w G mg base "_law_is" 7 R_law_is) (c_law_text : Cal P w G mg base "_law_text" 1 R_law_text) (c_log_text : Cal P w G mg base "log_text" 2 R_log_text) (c_cut : Cal P w G mg base "cut" 7 R_cut) (c_behind : Cal P w G mg base "behind" 7 R_behind)
    {f : Addr} (cdv : Value) (A : Around) (outer : List Env) (s : Shared) (H : Hp) (B : Bx) (E : XK) (hr : Room 7 (A.deeper (PyProof.Rows.envOfC "_law_lines_right" (defScope s_law_lines_right) s.heap.objs.size f cdv))) :
    SSs (cxOf (L2.CX P w) P w G.K mg base ["hand", "parts", "days", "at", "log", "one", "other", "first"] "_law_lines_right" (defScope s_law_lines_right) f cdv A outer s H E) G B (fun cls d _ H => E cls d H) (defBody s_law_lines_right) (b_law_lines_right R_law_draw R_Log_init R_law_is R_law_text R_log_text R_cut R_behind) := by
  have tk : Takes (cxOf (L2.CX P w) P w G.K mg base ["hand", "parts", "days", "at", "log", "one", "other", "first"] "_law_lines_right" (defScope s_law_lines_right) f cdv A outer s H E) (fun cls d _ H => E cls d H) := takes_of rfl rfl rfl rfl
  have po := passes_of (X := cxOf (L2.CX P w) P w G.K mg base ["hand", "parts", "days", "at", "log", "one", "other", "first"] "_law_lines_right" (defScope s_law_lines_right) f cdv A outer s H E) rfl
  exact (ss_cons (ss_set 3 sc_law_lines_right.nd rfl (by first | exact Or.inl rfl | exact Or.inr rfl) (s_bin l_add s_int (s_callC c_law_draw tk hr (by decide) rfl rfl (sa_cons (s_var 0) (sa_cons (s_callB (l_len rfl) rfl T.n_len bt_len (sa_cons (s_var 2) sa_nil)) sa_nil)))))
    (ss_cons (ss_set 4 sc_law_lines_right.nd rfl (by first | exact Or.inl rfl | exact Or.inr rfl) (s_makeC c_Log_init tk hr (by decide) rfl rfl (sa_cons (s_fz (s_var 1)) (sa_cons (s_fz (s_var 2)) sa_nil))))
    (ss_cons (ss_if (s_not (s_tru rfl (s_callC c_law_is tk hr (by decide) rfl rfl (sa_cons (s_callC c_log_text tk hr (by decide) rfl rfl (sa_cons (s_callC c_cut tk hr (by decide) rfl rfl (sa_cons (s_var 4) (sa_cons s_int (sa_cons (s_var 3) sa_nil)))) sa_nil)) (sa_cons (s_callC c_law_text tk hr (by decide) rfl rfl (sa_cons (s_var 1) (sa_cons (s_sl (l_sl rfl) (s_var 2) sp_none (sp_some (s_var 3))) sa_nil))) sa_nil))))) (ss_one (ss_ret s_bl)) ss_nil)
    (ss_cons (ss_par2 rfl sc_law_lines_right.nd rfl rfl (by decide) rfl rfl (sa_cons (s_callC c_law_text tk hr (by decide) rfl rfl (sa_cons (s_var 1) (sa_cons (s_fz (s_var 2)) sa_nil))) (sa_cons (s_callC c_law_text tk hr (by decide) rfl rfl (sa_cons (s_var 1) (sa_cons (s_sl (l_sl rfl) (s_var 2) (sp_some (s_bin l_subI (s_var 3) s_int)) sp_none) sa_nil))) sa_nil)))
    (ss_cons (ss_set 7 sc_law_lines_right.nd rfl (by first | exact Or.inl rfl | exact Or.inr rfl) (s_bin l_add (s_bin l_add s_str (s_callTy l_str rfl T.n_str bt_str (sa_cons (s_var 1) sa_nil))) s_str))
    (ss_one (ss_ret (s_callC c_law_is tk hr (by decide) rfl rfl (sa_cons (s_callC c_log_text tk hr (by decide) rfl rfl (sa_cons (s_callC c_behind tk hr (by decide) rfl rfl (sa_cons (s_var 4) (sa_cons (s_callC c_cut tk hr (by decide) rfl rfl (sa_cons (s_var 4) (sa_cons (s_bin l_subI (s_var 3) s_int) (sa_cons (s_callB (l_len rfl) rfl T.n_len bt_len (sa_cons (s_var 2) sa_nil)) sa_nil)))) sa_nil))) sa_nil)) (sa_cons (s_bin l_add (s_var 5) (s_sl (l_sl rfl) (s_var 6) (sp_some (s_callB (l_len rfl) rfl T.n_len bt_len (sa_cons (s_var 7) sa_nil))) sp_none)) sa_nil))))))))))
abbrev s_law : Stmt := (top 56)
theorem sc_law : FnScope ["script", "hand", "turn", "parts", "odd", "words", "days", "crew", "day", "one", "other", "row"] ["script"] (defScope s_law) := ⟨rfl, rfl, rfl, by decide +kernel, rfl, by decide +kernel, by decide +kernel⟩
def b_law (R_law_hand R_law_draw R_law_names R_law_days R_law_any R_law_is_read R_law_lines_right R_law_crew : List Val → Rs) : Fm → OutS := (sSeq (sSet 1 (sCall R_law_hand (sCons (sVar 0) sNil))) (sSeq (sFor (iR1 (sCons (sC (.int 4)) sNil)) (gN 2) (sSeq (sPar [3, 4] (sCons (sBin addD (sC (.int 2)) (sCall R_law_draw (sCons (sVar 1) (sCons (sC (.int 11)) sNil)))) (sCons (sLst (sCons (sC (.str "day")) (sCons (sC (.str "pair")) (sCons (sC (.str "seen")) (sCons (sC (.str "lock")) sNil))))) sNil))) (sSeq (sSet 5 (sBin addD (sB (gOne lstD) (sCons (sCall R_law_names (sCons (sVar 1) (sCons (sBin addD (sC (.int 1)) (sCall R_law_draw (sCons (sVar 1) (sCons (sC (.int 6)) sNil)))) (sCons (sVar 4) sNil)))) sNil)) (sSl slG (sVar 4) sP0 (sP1 (sCall R_law_draw (sCons (sVar 1) (sCons (sC (.int 5)) sNil))))))) (sSeq (sSet 6 (sCall R_law_days (sCons (sVar 1) (sCons (sVar 3) (sCons (sFz (sVar 5)) (sCons (sBin addD (sC (.int 1)) (sCall R_law_draw (sCons (sVar 1) (sCons (sC (.int 12)) sNil)))) (sCons (sCall R_law_any (sCons (sVar 1) (sCons (sLst (sCons (sC (.int 0)) (sCons (sC (.int 2)) (sCons (sC (.int 12)) sNil)))) sNil))) (sCons (sC (.int 2)) sNil)))))))) (sIfS (sOr (sNot (sTru (sCall R_law_is_read (sCons (sFz (sVar 3)) (sCons (sFz (sVar 6)) sNil))))) (sNot (sTru (sCall R_law_lines_right (sCons (sVar 1) (sCons (sFz (sVar 3)) (sCons (sFz (sVar 6)) sNil))))))) (sRet (sC (.bl false))) sSkip))))) (sSeq (sPar [3, 7, 6] (sCons (sBin addD (sC (.int 2)) (sCall R_law_draw (sCons (sVar 1) (sCons (sC (.int 11)) sNil)))) (sCons (sCall R_law_crew (sCons (sVar 1) (sCons (sC (.int 60)) sNil))) (sCons (sLst sNil) sNil)))) (sSeq (sFor (iR1 (sCons (sC (.int 200)) sNil)) (gN 8) (sSeq (sPar [9, 10] (sCons (sBin ixG (sVar 7) (sBin (gI (fun _ j => decide (0 < j)) fun i j => .int (i % j)) (sB (gOne intD) (sCons (sVar 8) sNil)) (sC (.int 60)))) (sCons (sBin ixG (sVar 7) (sBin (gI (fun _ j => decide (0 < j)) fun i j => .int (i % j)) (sB (gOne intD) (sCons (sBin addD (sBin addD (sBin mulD (sC (.int 7)) (sVar 8)) (sC (.int 1))) (sCall R_law_draw (sCons (sVar 1) (sCons (sC (.int 9)) sNil)))) sNil)) (sC (.int 60)))) sNil))) (sSeq (sSet 11 (sLst (sCons (sTup (sCons (sC (.str "seen")) (sCons (sVar 10) (sCons (sBin (gI (fun _ j => decide (0 < j)) fun i j => .int (i % j)) (sB (gOne intD) (sCons (sVar 8) sNil)) (sVar 3)) sNil)))) sNil))) (sSeq (sIfS (sTst (sBin neG (sVar 9) (sVar 10))) (sExpr (sW "list" appG (sVar 11) (sCons (sTup (sCons (sC (.str "pair")) (sCons (sVar 9) (sCons (sVar 10) (sCons (sCall R_law_draw (sCons (sVar 1) (sCons (sVar 3) sNil))) sNil))))) sNil))) sSkip) (sExpr (sW "list" appG (sVar 6) (sCons (sB (gOne tupD) (sCons (sBin mulD (sVar 11) (sCall R_law_any (sCons (sVar 1) (sCons (sLst (sCons (sC (.int 0)) (sCons (sC (.int 1)) (sCons (sC (.int 6)) sNil)))) sNil)))) sNil)) sNil))))))) (sRet (sAndV (sCall R_law_is_read (sCons (sFz (sVar 3)) (sCons (sB (gOne tupD) (sCons (sVar 6) sNil)) sNil))) (sCall R_law_is_read (sCons (sFz (sVar 3)) (sCons (sTup (sCons (sTup sNil) sNil)) sNil)))))))))
theorem d_law {P : Program} {w : World} {G : Gx} {mg : Str → Option Value} {base : Heap} (T : Tx G mg) {R_law_hand R_law_draw R_law_names R_law_days R_law_any R_law_is_read R_law_lines_right R_law_crew : List Val → Rs} (c_law_hand : Cal P w G mg base "_law_hand" 1 R_law_hand) (c_law_draw : Cal P w G mg base "_law_draw" 1 R_law_draw) (c_law_names : Cal P w G mg base "_law_names" 4 R_law_names) (c_law_days : Cal P w G mg base "_law_days" 4 R_law_days) (c_law_any : Cal P w G mg base "_law_any" 2 R_law_any) (c_law_is_read : Cal P w G mg base "_law_is_read" 8 R_law_is_read) (c_law_lines_right : Cal P w G mg base "_law_lines_right" 8 R_law_lines_right) (c_law_crew : Cal P w G mg base "_law_crew" 3 R_law_crew)
    {f : Addr} (cdv : Value) (A : Around) (outer : List Env) (s : Shared) (H : Hp) (B : Bx) (E : XK) (hr : Room 8 (A.deeper (PyProof.Rows.envOfC "law" (defScope s_law) s.heap.objs.size f cdv))) :
    SSs (cxOf (L2.CX P w) P w G.K mg base ["script", "hand", "turn", "parts", "odd", "words", "days", "crew", "day", "one", "other", "row"] "law" (defScope s_law) f cdv A outer s H E) G B (fun cls d _ H => E cls d H) (defBody s_law) (b_law R_law_hand R_law_draw R_law_names R_law_days R_law_any R_law_is_read R_law_lines_right R_law_crew) := by
  have tk : Takes (cxOf (L2.CX P w) P w G.K mg base ["script", "hand", "turn", "parts", "odd", "words", "days", "crew", "day", "one", "other", "row"] "law" (defScope s_law) f cdv A outer s H E) (fun cls d _ H => E cls d H) := takes_of rfl rfl rfl rfl
  have po := passes_of (X := cxOf (L2.CX P w) P w G.K mg base ["script", "hand", "turn", "parts", "odd", "words", "days", "crew", "day", "one", "other", "row"] "law" (defScope s_law) f cdv A outer s H E) rfl
  exact (ss_cons (ss_set 1 sc_law.nd rfl (by first | exact Or.inl rfl | exact Or.inr rfl) (s_callC c_law_hand tk hr (by decide) rfl rfl (sa_cons (s_var 0) sa_nil)))
    (ss_cons (ss_for po rfl (si_range1 rfl T.n_range (sa_cons s_int sa_nil)) (sg_name 2 sc_law.nd rfl (by first | exact Or.inl rfl | exact Or.inr rfl)) (ss_cons (ss_par2 rfl sc_law.nd rfl rfl (by decide) rfl rfl (sa_cons (s_bin l_add s_int (s_callC c_law_draw tk hr (by decide) rfl rfl (sa_cons (s_var 1) (sa_cons s_int sa_nil)))) (sa_cons (s_lst (sa_cons s_str (sa_cons s_str (sa_cons s_str (sa_cons s_str sa_nil))))) sa_nil)))
    (ss_cons (ss_set 5 sc_law.nd rfl (by first | exact Or.inl rfl | exact Or.inr rfl) (s_bin l_add (s_callTy (l_list rfl) rfl T.n_list bt_list (sa_cons (s_callC c_law_names tk hr (by decide) rfl rfl (sa_cons (s_var 1) (sa_cons (s_bin l_add s_int (s_callC c_law_draw tk hr (by decide) rfl rfl (sa_cons (s_var 1) (sa_cons s_int sa_nil)))) (sa_cons (s_var 4) sa_nil)))) sa_nil)) (s_sl (l_sl rfl) (s_var 4) sp_none (sp_some (s_callC c_law_draw tk hr (by decide) rfl rfl (sa_cons (s_var 1) (sa_cons s_int sa_nil)))))))
    (ss_cons (ss_set 6 sc_law.nd rfl (by first | exact Or.inl rfl | exact Or.inr rfl) (s_callC c_law_days tk hr (by decide) rfl rfl (sa_cons (s_var 1) (sa_cons (s_var 3) (sa_cons (s_fz (s_var 5)) (sa_cons (s_bin l_add s_int (s_callC c_law_draw tk hr (by decide) rfl rfl (sa_cons (s_var 1) (sa_cons s_int sa_nil)))) (sa_cons (s_callC c_law_any tk hr (by decide) rfl rfl (sa_cons (s_var 1) (sa_cons (s_lst (sa_cons s_int (sa_cons s_int (sa_cons s_int sa_nil)))) sa_nil))) (sa_cons s_int sa_nil))))))))
    (ss_one (ss_if (PW.pt (s_or (s_not (s_tru rfl (s_callC c_law_is_read tk hr (by decide) rfl rfl (sa_cons (s_fz (s_var 3)) (sa_cons (s_fz (s_var 6)) sa_nil))))) (s_or1 (s_not (s_tru rfl (s_callC c_law_lines_right tk hr (by decide) rfl rfl (sa_cons (s_var 1) (sa_cons (s_fz (s_var 3)) (sa_cons (s_fz (s_var 6)) sa_nil))))))))) (ss_one (ss_ret s_bl)) ss_nil))))))
    (ss_cons (ss_par3 rfl sc_law.nd rfl rfl rfl (by decide) (by decide) (by decide) rfl rfl rfl (sa_cons (s_bin l_add s_int (s_callC c_law_draw tk hr (by decide) rfl rfl (sa_cons (s_var 1) (sa_cons s_int sa_nil)))) (sa_cons (s_callC c_law_crew tk hr (by decide) rfl rfl (sa_cons (s_var 1) (sa_cons s_int sa_nil))) (sa_cons (s_lst sa_nil) sa_nil))))
    (ss_cons (ss_for po rfl (si_range1 rfl T.n_range (sa_cons s_int sa_nil)) (sg_name 8 sc_law.nd rfl (by first | exact Or.inl rfl | exact Or.inr rfl)) (ss_cons (ss_par2 rfl sc_law.nd rfl rfl (by decide) rfl rfl (sa_cons (s_ix (l_ix rfl) (s_var 7) (s_bin l_modI (s_callTy l_int rfl T.n_int bt_int (sa_cons (s_var 8) sa_nil)) s_int)) (sa_cons (s_ix (l_ix rfl) (s_var 7) (s_bin l_modI (s_callTy l_int rfl T.n_int bt_int (sa_cons (s_bin l_add (s_bin l_add (s_bin l_mul s_int (s_var 8)) s_int) (s_callC c_law_draw tk hr (by decide) rfl rfl (sa_cons (s_var 1) (sa_cons s_int sa_nil)))) sa_nil)) s_int)) sa_nil)))
    (ss_cons (ss_set 11 sc_law.nd rfl (by first | exact Or.inl rfl | exact Or.inr rfl) (s_lst (sa_cons (s_tup (sa_cons s_str (sa_cons (s_var 10) (sa_cons (s_bin l_modI (s_callTy l_int rfl T.n_int bt_int (sa_cons (s_var 8) sa_nil)) (s_var 3)) sa_nil)))) sa_nil)))
    (ss_cons (ss_if (s_cmpT (l_neD rfl hr.units) (s_var 9) (s_var 10)) (ss_one (ss_expr (s_w rfl PySem.F.plainAttrs_list PySem.F.slot_list_append PySem.F.type_list_append l_append (s_var 11) (sa_cons (s_tup (sa_cons s_str (sa_cons (s_var 9) (sa_cons (s_var 10) (sa_cons (s_callC c_law_draw tk hr (by decide) rfl rfl (sa_cons (s_var 1) (sa_cons (s_var 3) sa_nil))) sa_nil))))) sa_nil)))) ss_nil)
    (ss_one (ss_expr (s_w rfl PySem.F.plainAttrs_list PySem.F.slot_list_append PySem.F.type_list_append l_append (s_var 6) (sa_cons (s_callTy (l_tuple rfl) rfl T.n_tuple bt_tuple (sa_cons (s_bin l_mul (s_var 11) (s_callC c_law_any tk hr (by decide) rfl rfl (sa_cons (s_var 1) (sa_cons (s_lst (sa_cons s_int (sa_cons s_int (sa_cons s_int sa_nil)))) sa_nil)))) sa_nil)) sa_nil))))))))
    (ss_one (ss_ret (s_andV (s_callC c_law_is_read tk hr (by decide) rfl rfl (sa_cons (s_fz (s_var 3)) (sa_cons (s_callTy (l_tuple rfl) rfl T.n_tuple bt_tuple (sa_cons (s_var 6) sa_nil)) sa_nil))) (s_oneV (s_callC c_law_is_read tk hr (by decide) rfl rfl (sa_cons (s_fz (s_var 3)) (sa_cons (s_tup (sa_cons (s_tup sa_nil) sa_nil)) sa_nil)))))))))))
end MP
set_option Elab.async false
set_option linter.all false
set_option maxRecDepth 100000
set_option maxHeartbeats 2000000
namespace MP
open PySem PySem.Spec L2
def R_is_integer : List Val → Rs := fun os => if os.length = 1 then ofBody os (b_is_integer (initF 1 os)) else .bad
def R_is_name : List Val → Rs := fun os => if os.length = 1 then ofBody os (b_is_name (initF 2 os)) else .bad
def R_names_in : List Val → Rs := fun os => if os.length = 1 then ofBody os (b_names_in (initF 1 os)) else .bad
def R_Log_eq : List Val → Rs := fun os => if os.length = 2 then ofBody os (b_Log_eq (initF 2 os)) else .bad
def R_Log_len : List Val → Rs := fun os => if os.length = 1 then ofBody os (b_Log_len (initF 1 os)) else .bad
def R_check_log : List Val → Rs := fun os => if os.length = 1 then ofBody os (b_check_log (initF 1 os)) else .bad
def R_integer_of : List Val → Rs := fun os => if os.length = 1 then ofBody os (b_integer_of (initF 2 os)) else .bad
def R_law_hand : List Val → Rs := fun os => if os.length = 1 then ofBody os (b_law_hand (initF 3 os)) else .bad
def R_law_draw : List Val → Rs := fun os => if os.length = 2 then ofBody os (b_law_draw (initF 5 os)) else .bad
def R_law_text : List Val → Rs := fun os => if os.length = 2 then ofBody os (b_law_text (initF 8 os)) else .bad
def R_is_within : List Val → Rs := fun os => if os.length = 3 then ofBody os (b_is_within R_is_integer (initF 3 os)) else .bad
def R_take_names : List Val → Rs := fun os => if os.length = 2 then ofBody os (b_take_names R_names_in (initF 3 os)) else .bad
def R_check_same_parts : List Val → Rs := fun os => if os.length = 2 then ofBody os (b_check_same_parts R_check_log (initF 2 os)) else .bad
def R_log_text : List Val → Rs := fun os => if os.length = 1 then ofBody os (b_log_text R_check_log (initF 6 os)) else .bad
def R_read_event : List Val → Rs := fun os => if os.length = 1 then ofBody os (b_read_event R_is_name R_integer_of (initF 2 os)) else .bad
def R_read_lock : List Val → Rs := fun os => if os.length = 1 then ofBody os (b_read_lock R_integer_of (initF 2 os)) else .bad
def R_law_any : List Val → Rs := fun os => if os.length = 2 then ofBody os (b_law_any R_law_draw (initF 2 os)) else .bad
def R_law_dealing_of : List Val → Rs := fun os => if os.length = 3 then ofBody os (b_law_dealing_of R_law_draw (initF 4 os)) else .bad
def R_is_event : List Val → Rs := fun os => if os.length = 2 then ofBody os (b_is_event R_is_name R_is_within (initF 2 os)) else .bad
def R_check_stretch : List Val → Rs := fun os => if os.length = 3 then ofBody os (b_check_stretch R_check_log R_is_within (initF 3 os)) else .bad
def R_read_day : List Val → Rs := fun os => if os.length = 1 then ofBody os (b_read_day R_read_event 100 (initF 5 os)) else .bad
def R_law_name : List Val → Rs := fun os => if os.length = 2 then ofBody os (b_law_name R_law_any (initF 6 os)) else .bad
def R_law_crew : List Val → Rs := fun os => if os.length = 2 then ofBody os (b_law_crew R_law_any R_law_draw (initF 11 os)) else .bad
def R_law_event : List Val → Rs := fun os => if os.length = 4 then ofBody os (b_law_event R_law_any R_law_draw (initF 6 os)) else .bad
def R_check_days : List Val → Rs := fun os => if os.length = 2 then ofBody os (b_check_days R_is_event R_take_names (initF 7 os)) else .bad
def R_law_names : List Val → Rs := fun os => if os.length = 3 then ofBody os (b_law_names R_law_name (initF 5 os)) else .bad
def R_law_days : List Val → Rs := fun os => if os.length = 6 then ofBody os (b_law_days R_law_dealing_of R_law_draw R_law_event (initF 10 os)) else .bad
def R_Log_init : List Val → Rs := fun os => if os.length = 3 then ofBody os (b_Log_init R_is_within R_check_days (initF 3 os)) else .bad
def R_behind : List Val → Rs := fun os => if os.length = 2 then ofBody os (b_behind R_check_same_parts R_Log_init (initF 2 os)) else .bad
def R_cut : List Val → Rs := fun os => if os.length = 3 then ofBody os (b_cut R_check_stretch R_Log_init (initF 3 os)) else .bad
def R_read_log : List Val → Rs := fun os => if os.length = 1 then ofBody os (b_read_log R_read_lock R_read_day R_Log_init (initF 7 os)) else .bad
def R_law_is : Nat → List Val → Rs
  | 0 => fun _ => .bad
  | n + 1 => fun os => if os.length = 2 then ofBody os (b_law_is (R_law_is n) (initF 4 os)) else .bad
def R_law_is_read : List Val → Rs := fun os => if os.length = 2 then ofBody os (b_law_is_read R_law_text R_read_log (R_law_is 7) R_log_text R_Log_init R_Log_len R_Log_eq (initF 5 os)) else .bad
def R_law_lines_right : List Val → Rs := fun os => if os.length = 3 then ofBody os (b_law_lines_right R_law_draw R_Log_init (R_law_is 7) R_law_text R_log_text R_cut R_behind (initF 8 os)) else .bad
def R_law : List Val → Rs := fun os => if os.length = 1 then ofBody os (b_law R_law_hand R_law_draw R_law_names R_law_days R_law_any R_law_is_read R_law_lines_right R_law_crew (initF 12 os)) else .bad
end MP
set_option Elab.async false
set_option linter.all false
set_option maxRecDepth 100000
set_option maxHeartbeats 2000000
namespace MP
open PySem PySem.Spec L2
/-- the hand: the script's numbers and what is drawn from them -/
def hnd (cells : List Int) (i : Nat) (big st ct : Int) : O := .lst [.lst (cells.map .int), .int i, .int big, .int st, .int ct]
theorem mulC_r {i j : Int} (h : w64 j = true) : mulC i j = true := by unfold mulC; rw [h]; simp
theorem mulC_l {i j : Int} (h : w64 i = true) : mulC i j = true := by unfold mulC; rw [h]; simp
theorem w64_ok {i : Int} (h1 : -(2 ^ 64) < i) (h2 : i < 2 ^ 64) : w64 i = true := by unfold w64; simp only [Bool.and_eq_true, decide_eq_true_eq]; exact ⟨h1, h2⟩
theorem w64_mod (x : Int) {k : Int} (h : 0 < k) (h2 : k < 2 ^ 63) : w64 (x % k) = true := by
  have h1 := Int.emod_nonneg x (Int.ne_of_gt h)
  have h3 := Int.emod_lt_of_pos x h
  exact w64_ok (by omega) (by omega)
@[simp] theorem ixN_0 {n : Nat} : ixN (n + 1) 0 = some 0 := ixN_nat (n := n + 1) (m := 0) (by omega)
@[simp] theorem ixN_51 : ixN 5 1 = some 1 := rfl
@[simp] theorem ixN_52 : ixN 5 2 = some 2 := rfl
@[simp] theorem ixN_53 : ixN 5 3 = some 3 := rfl
@[simp] theorem ixN_54 : ixN 5 4 = some 4 := rfl
@[simp] theorem mul_k1 (x : Int) : mulC x 69621 = true := mulC_r rfl
@[simp] theorem mul_k2 (x : Int) : mulC x 40692 = true := mulC_r rfl
@[simp] theorem mul_k3 (x : Int) : mulC x 48271 = true := mulC_r rfl
@[simp] theorem mul_k4 (x : Int) : mulC 7919 x = true := mulC_l rfl
@[simp] theorem mul_k5 (x y : Int) : mulC (x % 2147483647) y = true := mulC_l (w64_mod x (by decide) (by decide))
@[simp] theorem div_k1 (x : Int) : divC x 1009 = true := rfl
@[simp] theorem div_k2 (x : Int) : divC x 2003 = true := rfl
@[simp] theorem div_k3 (x : Int) : divC x 16 = true := rfl
@[simp] theorem pow_k : powC 10 18 = true := by decide +kernel
theorem draw_spec (cells : List Int) (i : Nat) (big st ct m : Int) (hm : 0 < m) (hm2 : m < 1073741824) : ∃ (r : Int) (i' : Nat) (big' st' ct' : Int), 0 ≤ r ∧ r < m ∧
    R_law_draw [.own (hnd cells i big st ct), .fz (.int m)] = .ret (.fz (.int r)) [.own (hnd cells i' big' st' ct'), .fz (.int m)] := by
  have hd : ∀ x, divC x m = true := fun x => by unfold divC; simp [hm, hm2]
  have hz : m ≠ 0 := Int.ne_of_gt hm
  obtain ⟨x, hx⟩ : ∃ x, R_law_draw [.own (hnd cells i big st ct), .fz (.int m)] = x := ⟨_, rfl⟩
  rw [hx]
  unfold R_law_draw b_law_draw hnd at hx
  have bnd : ∀ x : Int, 0 ≤ x % m ∧ x % m < m := fun x => ⟨Int.emod_nonneg _ hz, Int.emod_lt_of_pos _ hm⟩
  by_cases hb : big = 0
  · by_cases hi : i < cells.length
    · by_cases hc : (1000000000000000000 : Int) ≤ cells[i]
      · have hp : 0 < cells[i] := by omega
        simp [hb, hi, hc, hp, hm, hd] at hx
        exact ⟨_, i + 1, _, _, _, (bnd _).1, (bnd _).2, hx.symm⟩
      · simp [hb, hi, hc, hm, hd] at hx
        exact ⟨_, i + 1, _, _, _, (bnd _).1, (bnd _).2, hx.symm⟩
    · simp [hb, hi, hm, hd] at hx
      exact ⟨_, i, _, _, _, (bnd _).1, (bnd _).2, hx.symm⟩
  · by_cases hp : 0 < big
    · simp [hb, hp, hm, hd] at hx
      exact ⟨_, i, _, _, _, (bnd _).1, (bnd _).2, hx.symm⟩
    · simp [hb, hp, hm, hd] at hx
      exact ⟨_, i, _, _, _, (bnd _).1, (bnd _).2, hx.symm⟩
end MP
set_option Elab.async false
set_option linter.all false
set_option maxRecDepth 100000
set_option maxHeartbeats 2000000
namespace MP
open PySem PySem.Spec L2
def Hand (o : O) : Prop := ∃ cells i big st ct, o = hnd cells i big st ct
theorem draw {h : O} {m : Int} (hh : Hand h) (hm : 0 < m) (hm2 : m < 1073741824) : ∃ (r : Nat) (h' : O), Hand h' ∧ (r : Int) < m ∧ R_law_draw [.own h, .fz (.int m)] = .ret (.fz (.int r)) [.own h', .fz (.int m)] := by
  obtain ⟨cells, i, big, st, ct, rfl⟩ := hh
  obtain ⟨r, i', big', st', ct', h1, h2, h3⟩ := draw_spec cells i big st ct m hm hm2
  obtain ⟨n, rfl⟩ := ints_ex h1
  exact ⟨n, _, ⟨_, _, _, _, _, rfl⟩, h2, h3⟩
theorem any_l {h : O} {ds : List D} (hh : Hand h) (hn : ds ≠ []) (hl : ds.length < 1000000) : ∃ d h', Hand h' ∧ d ∈ ds ∧ R_law_any [.own h, .fz (.lst ds)] = .ret (.fz d) [.own h', .fz (.lst ds)] := by
  have hp : 0 < ds.length := List.length_pos_iff.mpr hn
  obtain ⟨r, h', h1, h2, h3⟩ := draw (m := (ds.length : Int)) hh (by omega) (by omega)
  have hr : r < ds.length := by omega
  refine ⟨ds[r], h', h1, List.getElem_mem hr, ?_⟩
  unfold R_law_any b_law_any
  simp [h3, hr]
theorem any_o {h : O} {ds : List D} (hh : Hand h) (hn : ds ≠ []) (hl : ds.length < 1000000) : ∃ d h', Hand h' ∧ d ∈ ds ∧ R_law_any [.own h, .own (.lst ds)] = .ret (.fz d) [.own h', .own (.lst ds)] := by
  have hp : 0 < ds.length := List.length_pos_iff.mpr hn
  obtain ⟨r, h', h1, h2, h3⟩ := draw (m := (ds.length : Int)) hh (by omega) (by omega)
  have hr : r < ds.length := by omega
  refine ⟨ds[r], h', h1, List.getElem_mem hr, ?_⟩
  unfold R_law_any b_law_any
  simp [h3, hr]
def abc : Str := "abcdefghijklmnopqrstuvwxyz"
theorem any_abc {h : O} (hh : Hand h) : ∃ c h', Hand h' ∧ c ∈ abc.cps.toList ∧ R_law_any [.own h, .fz (.str abc)] = .ret (.fz (.str ⟨#[c]⟩)) [.own h', .fz (.str abc)] := by
  have e1 : abc.length = 26 := by decide +kernel
  have e2 : abc.cps.toList.length = 26 := by decide +kernel
  obtain ⟨r, h', h1, h2, h3⟩ := draw (m := 26) hh (by omega) (by omega)
  have hr : r < abc.cps.toList.length := by omega
  refine ⟨abc.cps.toList[r], h', h1, List.getElem_mem hr, ?_⟩
  unfold R_law_any b_law_any
  have hs : r < abc.cps.size := by simpa using hr
  simp [h3, e1, Array.getElem?_eq_getElem hs]
theorem tl_ext {x y : Str} (h : x.cps.toList = y.cps.toList) : x = y := TL.ext_tl h
theorem abc_26 : abc.length = 26 := by decide +kernel
theorem abc_cs : abc.cps.toList = [97, 98, 99, 100, 101, 102, 103, 104, 105, 106, 107, 108, 109, 110, 111, 112, 113, 114, 115, 116, 117, 118, 119, 120, 121, 122] := by decide +kernel
/-- a name: 1 to 8 small letters -/
def nameOk (z : Str) : Prop := 1 ≤ z.length ∧ z.length ≤ 8 ∧ ∀ c ∈ z.cps.toList, c ∈ abc.cps.toList
def lets (z : Str) : Prop := ∀ c ∈ z.cps.toList, c ∈ abc.cps.toList
@[simp] theorem len_tl (z : Str) : z.cps.toList.length = z.length := by simp [Str.length]
theorem tl_app (x y : Str) : (x ++ y).cps.toList = x.cps.toList ++ y.cps.toList := TL.tl_append x y
theorem len_app (x y : Str) : (x ++ y).length = x.length + y.length := by rw [← len_tl, tl_app, List.length_append, len_tl, len_tl]
theorem lets_app {x y : Str} (a : lets x) (b : lets y) : lets (x ++ y) := fun c h => by
  rw [tl_app, List.mem_append] at h
  exact h.elim (a c) (b c)
theorem tl_slice (z : Str) (lo hi : Option Int) : (Txt.slice z lo hi).cps.toList = cutD z.cps.toList lo hi := by
  rw [← C8.cutS_slice]
  show ((z.cps.toList.drop (HT.sIx z.length 0 lo)).take (HT.sIx z.length z.length hi - HT.sIx z.length 0 lo)).toArray.toList = _
  unfold cutD
  rw [len_tl]
theorem lets_slice {z : Str} (a : lets z) (lo hi : Option Int) : lets (Txt.slice z lo hi) := fun c h => by
  rw [tl_slice] at h
  unfold cutD at h
  exact a c (List.mem_of_mem_drop (List.mem_of_mem_take h))
theorem len_slice (z : Str) (lo hi : Option Int) : (Txt.slice z lo hi).length = min (HT.sIx z.length z.length hi - HT.sIx z.length 0 lo) (z.length - HT.sIx z.length 0 lo) := by
  rw [← len_tl, tl_slice]
  unfold cutD
  rw [List.length_take, List.length_drop, len_tl]
theorem slice_hi (z : Str) (n : Nat) : (Txt.slice z none (some (n : Int))).length = min n z.length := by
  rw [len_slice, HT.sIx_nat, HT.sIx_none]
  simp only [Nat.sub_zero]
  omega
/-- one sign -/
def sg (c : Nat) : Str := ⟨#[c]⟩
theorem lets_sg {c : Nat} (h : c ∈ abc.cps.toList) : lets (sg c) := fun d hd => by
  have : d = c := by simpa [sg] using hd
  rw [this]; exact h
theorem join_empty : ∀ ys : List Str, (Txt.join (Str.ofString "") ys).cps.toList = (ys.map fun y => y.cps.toList).flatten := fun ys => by
  rw [TL.join_eq]
  show TL.tl (Str.join _ ys) = _
  rw [TL.tl_join]
  have e : TL.tl (Str.ofString "") = [] := by decide +kernel
  rw [e]
  induction ys with
  | nil => rfl
  | cons y ys ih =>
    cases ys with
    | nil => simp [TL.joinL, TL.tl]
    | cons z zs =>
      show TL.tl y ++ ([] ++ TL.joinL [] ((z :: zs).map TL.tl)) = _
      rw [List.nil_append, ih]
      simp [TL.tl]
theorem strsOf_map : ∀ ys : List Str, strsOf (ys.map D.str) = some ys
  | [] => rfl
  | y :: ys => by
    show (strsOf (ys.map D.str)).map (y :: ·) = _
    rw [strsOf_map ys]
    rfl
theorem e_join_l {a : Str} {ys : List Str} (h : (ys.map (·.length)).sum + ys.length * a.length ≤ 16777216) : joinG (.str a) [.lst (ys.map D.str)] = some (.fz (.str (Txt.join a ys))) := by
  unfold joinG seqOf
  simp only [Option.bind_some, strsOf_map]
  rw [if_pos h]
theorem sum_ones (zs : List Nat) : ((zs.map sg).map (·.length)).sum = zs.length := by
  induction zs with
  | nil => rfl
  | cons c zs ih =>
    simp only [List.map_cons, List.sum_cons, ih, List.length_cons]
    have : (sg c).length = 1 := rfl
    omega
theorem join_ones (zs : List Nat) : (Txt.join (Str.ofString "") (zs.map sg)).cps.toList = zs := by
  rw [join_empty]
  induction zs with
  | nil => rfl
  | cons c zs ih =>
    simp only [List.map_cons, List.flatten_cons, ih]
    rfl
theorem e_in_l {neg : Bool} {w : Str} {tk : List D} (h : tk.all flatD = true) : inG neg (.str w) (.lst tk) = some (.fz (.bl (if neg then !inItems (.str w) tk else inItems (.str w) tk))) := by
  unfold inG orG gInS seqOf
  simp only [h, flatD, and_self, if_true]
theorem e_in_t {neg : Bool} {w : Str} {tk : List D} (h : tk.all flatD = true) : inG neg (.str w) (.tup tk) = some (.fz (.bl (if neg then !inItems (.str w) tk else inItems (.str w) tk))) := by
  unfold inG orG gInS seqOf
  simp only [h, flatD, and_self, if_true]
theorem name_word {h : O} {tk : D} {L : Str} (hA : ∀ h, Hand h → ∃ c h', Hand h' ∧ c ∈ abc.cps.toList ∧ R_law_any [.own h, .fz (.str L)] = .ret (.fz (.str (sg c))) [.own h', .fz (.str L)]) (hh : Hand h) (k : Nat) (hk : k ≤ 8) : ∃ (zs : List Nat) (h' : O), Hand h' ∧ zs.length = k ∧ (∀ c ∈ zs, c ∈ abc.cps.toList) ∧
    lcL (gN 5) sYes (sCall R_law_any (sCons (sVar 0) (sCons (sVar 2) sNil))) [5] (rangeD 0 k) [] [.bor h, .fz tk, .fz (.str L), .non, .non, .non] = .ok (zs.map fun c => .str (sg c)) [.bor h', .fz tk, .fz (.str L), .non, .non, .non] := by
  obtain ⟨acc, fr, ⟨zs, h', e1, e2, e3, e4, e5⟩, e6⟩ := lcL_P (tg := gN 5) (el := sCall R_law_any (sCons (sVar 0) (sCons (sVar 2) sNil))) (vs := [5]) (fun rest acc fr => ∃ (zs : List Nat) (h' : O), Hand h' ∧ zs.length + rest.length = k ∧ (∀ c ∈ zs, c ∈ abc.cps.toList) ∧ acc = zs.map (fun c => D.str (sg c)) ∧ fr = [.bor h', .fz tk, .fz (.str L), .non, .non, .non])
    (fun d rest acc fr ⟨zs, h', q1, q2, q3, q4, q5⟩ => by
      subst q4 q5
      obtain ⟨c, h2, r1, r2, r3⟩ := hA _ q1
      refine ⟨by simp at q2 ⊢; omega, [.bor h', .fz tk, .fz (.str L), .non, .non, .fz d], .vl (.fz (.str (sg c))), [.bor h2, .fz tk, .fz (.str L), .non, .non, .fz d], .str (sg c), [.bor h2, .fz tk, .fz (.str L), .non, .non, .fz d], rfl, by simp [r3], rfl, rfl, zs ++ [c], h2, r1, by simp at q2 ⊢; omega, fun x hx => ?_, by simp, rfl⟩
      rcases List.mem_append.mp hx with hx | hx
      · exact q3 x hx
      · rw [List.mem_singleton.mp hx]; exact r2) (rangeD 0 k) [] [.bor h, .fz tk, .fz (.str L), .non, .non, .non] ⟨[], h, hh, by simp [rangeD_len], fun c hc => by simp at hc, rfl, rfl⟩
  subst e4 e5
  exact ⟨zs, h', e1, by simpa using e2, e3, e6⟩
theorem signs_mem {z : Str} {d : D} (h : d ∈ signs z) : ∃ c, c ∈ z.cps.toList ∧ d = .str (sg c) := by
  unfold signs at h
  obtain ⟨c, h1, h2⟩ := List.mem_map.mp h
  exact ⟨c, h1, h2.symm⟩
theorem nameOk_turn {w : Str} {c : Nat} (hw : nameOk w) (hc : c ∈ abc.cps.toList) : nameOk (sg c ++ Txt.slice w none (some 7)) := by
  have e : (Txt.slice w none (some 7)).length = min 7 w.length := slice_hi w 7
  have e1 : (sg c).length = 1 := rfl
  refine ⟨by rw [len_app, e1]; omega, by rw [len_app, e1, e]; omega, lets_app (lets_sg hc) (lets_slice hw.2.2 _ _)⟩
theorem name_loop {h2 : O} {tk : List D} (ht : tk.all flatD = true) (L : Str) (hL : ∀ d ∈ signs L, ∃ c, c ∈ abc.cps.toList ∧ d = .str (sg c)) {w0 : Str} (h0 : nameOk w0) : ∃ (w : Str) (x : Sl), nameOk w ∧ 
    forL (gN 4) (sIfS (sTst (sBin (inG false) (sVar 3) (sVar 1))) (sSet 3 (sBin addD (sVar 4) (sSl slG (sVar 3) sP0 (sP1 (sC (.int 7)))))) sSkip) (signs L) [.bor h2, .fz (.lst tk), .fz (.str L), .fz (.str w0), .non, .non]
      = .nx [.bor h2, .fz (.lst tk), .fz (.str L), .fz (.str w), x, .non] := by
  obtain ⟨fr, ⟨w, x, s0, s1, s2, s3⟩, s4⟩ := forL_P (tg := gN 4) (body := sIfS (sTst (sBin (inG false) (sVar 3) (sVar 1))) (sSet 3 (sBin addD (sVar 4) (sSl slG (sVar 3) sP0 (sP1 (sC (.int 7)))))) sSkip)
    (fun rest fr => ∃ (w : Str) (x : Sl), (∀ o, x ≠ .bor o) ∧ nameOk w ∧ (∀ d ∈ rest, ∃ c, c ∈ abc.cps.toList ∧ d = .str (sg c)) ∧ fr = [.bor h2, .fz (.lst tk), .fz (.str L), .fz (.str w), x, .non])
    (fun d rest fr ⟨w, x, s0, s1, s2, s3⟩ => by
      subst s3
      obtain ⟨c, c1, rfl⟩ := s2 d (List.mem_cons_self ..)
      have hin := e_in_l (neg := false) (w := w) ht
      have wl : w.length ≤ 16777216 := by have := s1.2.1; omega
      have sl : (sg c).length + (Txt.slice w none (some 7)).length ≤ 16777216 := by
        have e : (Txt.slice w none (some 7)).length = min 7 w.length := slice_hi w 7
        have e1 : (sg c).length = 1 := rfl
        omega
      have ok := nameOk_turn s1 c1
      generalize sg c = t at sl ok
      have hset : gN 4 (.str t) [.bor h2, .fz (.lst tk), .fz (.str L), .fz (.str w), x, .non] = some [.bor h2, .fz (.lst tk), .fz (.str L), .fz (.str w), .fz (.str t), .non] := by
        cases x with
        | bor o => exact absurd rfl (s0 o)
        | _ => simp
      cases hb : inItems (.str w) tk with
      | false => exact ⟨_, _, hset, by simp [hin, hb], w, .fz (.str t), fun o => nofun, s1, fun d hd => s2 d (List.mem_cons_of_mem _ hd), rfl⟩
      | true => exact ⟨_, _, hset, by simp [hin, hb, wl, sl], _, .fz (.str t), fun o => nofun, ok, fun d hd => s2 d (List.mem_cons_of_mem _ hd), rfl⟩)
    (signs L) [.bor h2, .fz (.lst tk), .fz (.str L), .fz (.str w0), .non, .non] ⟨_, .non, fun o => nofun, h0, hL, rfl⟩
  subst s3
  exact ⟨w, x, s1, s4⟩
theorem name {h : O} {tk : List D} (hh : Hand h) (ht : tk.all flatD = true) : ∃ z h', Hand h' ∧ nameOk z ∧ R_law_name [.own h, .fz (.lst tk)] = .ret (.fz (.str z)) [.own h', .fz (.lst tk)] := by
  obtain ⟨d, h1, q1, q2, q3⟩ := any_l (ds := [.int 1, .int 1, .int 2, .int 3, .int 5, .int 8]) hh (by simp) (by simp)
  obtain ⟨k, hk1, hk2, rfl⟩ : ∃ k : Nat, 1 ≤ k ∧ k ≤ 8 ∧ d = .int k := by
    simp only [List.mem_cons, List.not_mem_nil, or_false] at q2
    rcases q2 with rfl | rfl | rfl | rfl | rfl | rfl
    · exact ⟨1, by omega, by omega, rfl⟩
    · exact ⟨1, by omega, by omega, rfl⟩
    · exact ⟨2, by omega, by omega, rfl⟩
    · exact ⟨3, by omega, by omega, rfl⟩
    · exact ⟨5, by omega, by omega, rfl⟩
    · exact ⟨8, by omega, by omega, rfl⟩
  have hA : ∀ h, Hand h → ∃ c h', Hand h' ∧ c ∈ abc.cps.toList ∧ R_law_any [.own h, .fz (.str (Str.ofString "abcdefghijklmnopqrstuvwxyz"))] = .ret (.fz (.str (sg c))) [.own h', .fz (.str (Str.ofString "abcdefghijklmnopqrstuvwxyz"))] := fun h hh => any_abc hh
  have hS : ∀ d ∈ signs (Str.ofString "abcdefghijklmnopqrstuvwxyz"), ∃ c, c ∈ abc.cps.toList ∧ d = .str (sg c) := fun d hd => signs_mem (z := abc) hd
  unfold R_law_name b_law_name
  generalize Str.ofString "abcdefghijklmnopqrstuvwxyz" = L at hA hS
  obtain ⟨zs, h2, r1, r2, r3, r4⟩ := name_word (tk := .lst tk) hA q1 k hk2
  have hs : small62 (k : Int) = true := by unfold small62; simp; omega
  have he : (Str.ofString "").length = 0 := by decide +kernel
  have hj := e_join_l (a := Str.ofString "") (ys := zs.map sg) (by rw [sum_ones, he]; omega)
  rw [List.map_map] at hj
  have w0 : nameOk (Txt.join (Str.ofString "") (zs.map sg)) := by
    have e := join_ones zs
    refine ⟨by rw [← len_tl, e]; omega, by rw [← len_tl, e]; omega, fun c hc => r3 c (by rw [e] at hc; exact hc)⟩
  have hm : zs.map (fun c => D.str (sg c)) = zs.map (D.str ∘ sg) := rfl
  rw [hm] at r4
  generalize Txt.join (Str.ofString "") (zs.map sg) = W at hj w0
  generalize Str.ofString "" = Z at hj
  obtain ⟨w, x, s1, s2⟩ := name_loop (h2 := h2) ht L hS w0
  refine ⟨w, h2, r1, s1, ?_⟩
  simp [q3, hs, r4, hj, s2]
end MP
set_option Elab.async false
set_option linter.all false
set_option maxRecDepth 100000
set_option maxHeartbeats 2000000
namespace MP
open PySem PySem.Spec L2
theorem flat_strs (zs : List Str) : (zs.map D.str).all flatD = true := by
  induction zs with
  | nil => rfl
  | cons z zs ih => rw [List.map_cons, List.all_cons, ih]; rfl
theorem names {h : O} {tk : List D} (hh : Hand h) (ht : tk.all flatD = true) (hz : tk.length ≤ 1000) (many : Nat) (hm : many ≤ 1000) : ∃ (zs : List Str) (h' : O), Hand h' ∧ zs.length = many ∧ (∀ z ∈ zs, nameOk z) ∧
    R_law_names [.own h, .fz (.int many), .own (.lst tk)] = .ret (.fz (.tup (zs.map D.str))) [.own h', .fz (.int many), .own (.lst tk)] := by
  have hs : small62 (many : Int) = true := by unfold small62; simp; omega
  obtain ⟨fr, ⟨zs, h', x, e0, e1, e2, e3, e4⟩, e5⟩ := forL_P (tg := gN 4) (body := sExpr (sW "list" appG (sVar 3) (sCons (sCall R_law_name (sCons (sVar 0) (sCons (sBin addD (sB (gOne lstD) (sCons (sVar 2) sNil)) (sVar 3)) sNil))) sNil)))
    (fun rest fr => ∃ (zs : List Str) (h' : O) (x : Sl), (∀ o, x ≠ .bor o) ∧ Hand h' ∧ zs.length + rest.length = many ∧ (∀ z ∈ zs, nameOk z) ∧ fr = [.bor h', .fz (.int many), .bor (.lst tk), .own (.lst (zs.map D.str)), x])
    (fun d rest fr ⟨zs, h', x, e0, e1, e2, e3, e4⟩ => by
      subst e4
      obtain ⟨z, h2, r1, r2, r3⟩ := name (tk := tk ++ zs.map D.str) e1 (by rw [List.all_append, ht, flat_strs]; rfl)
      have hl : tk.length + zs.length ≤ 16777216 := by simp at e2; omega
      have hl2 : zs.length < 16777216 := by simp at e2; omega
      have hset : gN 4 d [.bor h', .fz (.int many), .bor (.lst tk), .own (.lst (zs.map D.str)), x] = some [.bor h', .fz (.int many), .bor (.lst tk), .own (.lst (zs.map D.str)), .fz d] := by
        cases x with
        | bor o => exact absurd rfl (e0 o)
        | _ => simp
      refine ⟨_, _, hset, by simp [hl, r3, hl2]; rfl, zs ++ [z], h2, .fz d, fun o => nofun, r1, by simp at e2 ⊢; omega, fun y hy => ?_, by simp⟩
      rcases List.mem_append.mp hy with hy | hy
      · exact e3 y hy
      · rw [List.mem_singleton.mp hy]; exact r2)
    (rangeD 0 many) [.bor h, .fz (.int many), .bor (.lst tk), .own (.lst []), .non] ⟨[], h, .non, fun o => nofun, hh, by simp [rangeD_len], fun z hz => by simp at hz, rfl⟩
  subst e4
  refine ⟨zs, h', e1, by simpa using e2, e3, ?_⟩
  unfold R_law_names b_law_names
  simp [hs, e5]
/-! ### dealings -/
theorem getV_put {ks : List Key} {k j : Key} {d : D} : ∀ {ks : List Key} {vs : List D}, ks.length = vs.length → getV (putKs ks k) (MP.putVs ks vs k d) j = if k = j then some d else getV ks vs j := by
  intro ks vs h
  unfold putKs MP.putVs
  by_cases hk : (ks.any fun i => decide (i = k)) = true
  · rw [if_pos hk, if_pos hk]
    induction ks generalizing vs with
    | nil => simp at hk
    | cons i ks ih =>
      cases vs with
      | nil => simp at h
      | cons v vs =>
        rw [List.zipWith_cons_cons]
        unfold getV
        by_cases e : i = k
        · subst e
          by_cases e2 : i = j
          · simp [e2]
          · simp only [if_true, e2, if_false]
            by_cases hk2 : (ks.any fun x => decide (x = i)) = true
            · rw [ih (by simpa using h) hk2, if_neg e2]
            · -- i is not further behind: nothing changes there
              have : ∀ (ks : List Key) (vs : List D), (ks.any fun x => decide (x = i)) = false → getV ks (List.zipWith (fun j v => if j = i then d else v) ks vs) j = getV ks vs j := by
                intro ks
                induction ks with
                | nil => intro vs _; cases vs <;> rfl
                | cons a ks ih2 =>
                  intro vs hh
                  cases vs with
                  | nil => rfl
                  | cons b vs =>
                    rw [List.any_cons, Bool.or_eq_false_iff] at hh
                    have ha : ¬ a = i := by simpa using hh.1
                    rw [List.zipWith_cons_cons]
                    unfold getV
                    rw [if_neg ha, ih2 vs hh.2]
              rw [this ks vs ((Bool.not_eq_true _).mp hk2)]
        · rw [if_neg e]
          have hk2 : (ks.any fun x => decide (x = k)) = true := by
            rw [List.any_cons] at hk
            simpa [e] using hk
          by_cases e2 : i = j
          · have : ¬ k = j := fun z => e (e2.trans z.symm)
            simp [e2, this]
          · rw [if_neg e2, ih (by simpa using h) hk2, if_neg e2]
  · rw [if_neg hk, if_neg hk]
    induction ks generalizing vs with
    | nil =>
      cases vs with
      | nil => simp [getV]
      | cons v vs => simp at h
    | cons i ks ih =>
      cases vs with
      | nil => simp at h
      | cons v vs =>
        rw [List.any_cons] at hk
        have e : ¬ i = k := by intro z; apply hk; simp [z]
        have hk2 : ¬ (ks.any fun x => decide (x = k)) = true := by intro z; apply hk; simp [z]
        rw [List.cons_append, List.cons_append]
        unfold getV
        by_cases e2 : i = j
        · have : ¬ k = j := fun z => e (e2.trans z.symm)
          simp [e2, this]
        · rw [if_neg e2, if_neg e2, ih (by simpa using h) hk2]
theorem put_len {ks : List Key} {vs : List D} {k : Key} {d : D} (h : ks.length = vs.length) : (putKs ks k).length = (MP.putVs ks vs k d).length := by
  unfold putKs MP.putVs
  split
  · rw [List.length_zipWith]; omega
  · simp [h]
/-- a dealing of the words -/
def Dl (parts : Int) (ws : List Str) (ks : List Key) (vs : List D) : Prop := ks.length = vs.length ∧ ∀ w ∈ ws, ∃ k : Nat, (k : Int) < parts ∧ getV ks vs (.inr w) = some (.int k)
theorem merge_dl {parts : Int} : ∀ {ws : List (Str × Nat)} {done : List Str} {ks : List Key} {vs : List D}, (∀ p ∈ ws, (p.2 : Int) < parts) → Dl parts done ks vs →
    Dl parts (done ++ ws.map (·.1)) (mergeD (ws.map fun p => ((.inr p.1 : Key), D.int p.2)) ks vs).1 (mergeD (ws.map fun p => ((.inr p.1 : Key), D.int p.2)) ks vs).2
  | [], done, ks, vs, h, d => by simpa [mergeD] using d
  | p :: ws, done, ks, vs, h, d => by
    have hp := h p (List.mem_cons_self ..)
    have := merge_dl (ws := ws) (done := done ++ [p.1]) (ks := putKs ks (.inr p.1)) (vs := MP.putVs ks vs (.inr p.1) (.int p.2)) (fun q hq => h q (List.mem_cons_of_mem _ hq)) ⟨put_len d.1, fun w hw => ?_⟩
    · simpa [mergeD] using this
    · rw [getV_put (ks := ks) d.1]
      by_cases e : (Sum.inr p.1 : Key) = .inr w
      · rw [if_pos e]; exact ⟨p.2, hp, rfl⟩
      · rw [if_neg e]
        rcases List.mem_append.mp hw with hw | hw
        · exact d.2 w hw
        · exact absurd (by rw [List.mem_singleton.mp hw]) e
theorem pairsOf_map : ∀ ws : List (Str × Nat), pairsOf (ws.map fun p => .tup [.str p.1, .int p.2]) = some (ws.map fun p => ((.inr p.1 : Key), D.int p.2))
  | [] => rfl
  | p :: ws => by
    rw [List.map_cons]
    unfold pairsOf
    rw [pairsOf_map ws]
    rfl
theorem dealing {h : O} {parts : Int} {ws : List Str} (hh : Hand h) (hp : 0 < parts) (hp2 : parts < 1000) (hw : ws.length ≤ 1000) : ∃ (ks : List Key) (vs : List D) (h' : O), Hand h' ∧ Dl parts ws ks vs ∧
    R_law_dealing_of [.own h, .fz (.int parts), .fz (.lst (ws.map D.str))] = .ret (.own (.dic ks vs)) [.own h', .fz (.int parts), .fz (.lst (ws.map D.str))] := by
  generalize hT : D.lst (ws.map D.str) = T
  obtain ⟨acc, fr, ⟨ps, h', e1, e2, e3, e4, e5⟩, e6⟩ := lcL_P (tg := gN 3) (el := sTup (sCons (sVar 3) (sCons (sCall R_law_draw (sCons (sVar 0) (sCons (sVar 1) sNil))) sNil))) (vs := [3])
    (fun rest acc fr => ∃ (ps : List (Str × Nat)) (h' : O), Hand h' ∧ (∀ p ∈ ps, (p.2 : Int) < parts) ∧ (∃ rs : List Str, rest = rs.map D.str ∧ ps.map (·.1) ++ rs = ws) ∧ acc = ps.map (fun p => .tup [.str p.1, .int p.2]) ∧ fr = [.bor h', .fz (.int parts), .fz T, .non])
    (fun d rest acc fr ⟨ps, h', q1, q2, ⟨rs, q3, q4⟩, q5, q6⟩ => by
      subst q5 q6
      cases rs with
      | nil => cases q3
      | cons w rs =>
        cases q3
        obtain ⟨r, h2, r1, r2, r3⟩ := draw (m := parts) q1 hp (by omega)
        have hl := congrArg List.length q4
        simp at hl
        refine ⟨by simp; omega, [.bor h', .fz (.int parts), .fz T, .fz (.str w)], .vl (.fz (.tup [.str w, .int r])), [.bor h2, .fz (.int parts), .fz T, .fz (.str w)], .tup [.str w, .int r], [.bor h2, .fz (.int parts), .fz T, .fz (.str w)], rfl, by simp [r3], rfl, rfl, ps ++ [(w, r)], h2, r1, fun p hp => ?_, ⟨rs, rfl, by simpa using q4⟩, by simp, rfl⟩
        rcases List.mem_append.mp hp with hp | hp
        · exact q2 p hp
        · rw [List.mem_singleton.mp hp]; exact r2)
    (ws.map D.str) [] [.bor h, .fz (.int parts), .fz T, .non] ⟨[], h, hh, fun p hp => by simp at hp, ⟨ws, rfl, rfl⟩, rfl, rfl⟩
  obtain ⟨rs, e7, e8⟩ := e3
  have : rs = [] := by simpa using e7.symm
  subst this e4 e5
  have hd := merge_dl (ws := ps) (done := []) (ks := []) (vs := []) e2 ⟨rfl, fun w hw => by simp at hw⟩
  rw [List.nil_append] at hd
  simp only [List.append_nil] at e8
  rw [e8] at hd
  refine ⟨_, _, h', e1, hd, ?_⟩
  have hdc : dictD (.lst (ps.map fun p => .tup [.str p.1, .int p.2])) = some (.own (.dic (mergeD (ps.map fun p => ((.inr p.1 : Key), D.int p.2)) [] []).1 (mergeD (ps.map fun p => ((.inr p.1 : Key), D.int p.2)) [] []).2)) := by
    unfold dictD
    simp only [pairsOf_map]
    rfl
  generalize (mergeD (ps.map fun p => ((.inr p.1 : Key), D.int p.2)) [] []).1 = A at hdc
  generalize (mergeD (ps.map fun p => ((.inr p.1 : Key), D.int p.2)) [] []).2 = B at hdc
  generalize (ps.map fun p => D.tup [.str p.1, .int p.2]) = C at hdc e6
  unfold R_law_dealing_of b_law_dealing_of
  have hi : itemsOf T = some (ws.map D.str) := by rw [← hT]; rfl
  simp [hi, e6, hdc]
/-! ### events -/
inductive Ev where
  | seen (n : Str) (k : Nat) | pair (a b : Str) (k : Nat)
def sSeen : Str := "seen"
def sPair : Str := "pair"
def Ev.d : Ev → D
  | .seen n k => .tup [.str sSeen, .str n, .int k]
  | .pair a b k => .tup [.str sPair, .str a, .str b, .int k]
/-- an event of a log of so many parts, its names among ws -/
def okEv (parts : Int) (ws : List Str) : Ev → Prop
  | .seen n k => n ∈ ws ∧ (k : Int) < parts
  | .pair a b k => a ∈ ws ∧ b ∈ ws ∧ a ≠ b ∧ (k : Int) < parts
theorem event {h : O} {parts : Int} {ws : List Str} {ks : List Key} {vs : List D} (hh : Hand h) (hp : 0 < parts) (hw : ws.length ≤ 1000) (hn : ws ≠ []) (dl : Dl parts ws ks vs) : ∃ (e : Ev) (h' : O), Hand h' ∧ okEv parts ws e ∧
    R_law_event [.own h, .fz (.int parts), .own (.dic ks vs), .fz (.lst (ws.map D.str))] = .ret (.fz e.d) [.own h', .fz (.int parts), .own (.dic ks vs), .fz (.lst (ws.map D.str))] := by
  have hl : (ws.map D.str).length < 1000000 := by simp; omega
  have hne : ws.map D.str ≠ [] := by simpa using hn
  obtain ⟨d1, h1, a1, a2, a3⟩ := any_l hh hne hl
  obtain ⟨one, o1, rfl⟩ := List.mem_map.mp a2
  obtain ⟨d2, h2, b1, b2, b3⟩ := any_l a1 hne hl
  obtain ⟨two, o2, rfl⟩ := List.mem_map.mp b2
  obtain ⟨r, h3, c1, c2, c3⟩ := draw (m := 5) b1 (by omega) (by omega)
  obtain ⟨k1, l1, g1⟩ := dl.2 one o1
  obtain ⟨k2, l2, g2⟩ := dl.2 two o2
  generalize D.lst (ws.map D.str) = T at a3 b3
  have gd1 : gDget (.dic ks vs) (.str one) = some (.fz (.int k1)) := by unfold gDget keyOf; simp [g1]
  have gd2 : gDget (.dic ks vs) (.str two) = some (.fz (.int k2)) := by unfold gDget keyOf; simp [g2]
  have se : D.str (Str.ofString "seen") = D.str sSeen := rfl
  have pe : D.str (Str.ofString "pair") = D.str sPair := rfl
  unfold R_law_event b_law_event
  rw [se, pe]
  unfold Ev.d
  generalize sSeen = SE
  generalize sPair = PA
  by_cases e : one = two
  · subst e
    refine ⟨.seen one k1, h2, b1, ⟨o1, l1⟩, ?_⟩
    simp [a3, b3, gd1]
  · by_cases z : r = 0
    · subst z
      refine ⟨.seen one k1, h3, c1, ⟨o1, l1⟩, ?_⟩
      simp [a3, b3, c3, e, gd1]
    · have m1 := Int.emod_nonneg ((k2 : Int) - k1) (Int.ne_of_gt hp)
      have m2 := Int.emod_lt_of_pos ((k2 : Int) - k1) hp
      obtain ⟨k, hk⟩ := ints_ex m1
      have z' : ¬ (r : Int) = 0 := by omega
      refine ⟨.pair one two k, h3, c1, ⟨o1, o2, e, by rw [← hk]; exact m2⟩, ?_⟩
      simp [a3, b3, c3, e, z, gd1, gd2, hp, hk]
end MP
set_option Elab.async false
set_option linter.all false
set_option maxRecDepth 100000
set_option maxHeartbeats 2000000
namespace MP
open PySem PySem.Spec L2
def dayD (es : List Ev) : D := .tup (es.map Ev.d)
theorem day_ev {h : O} {parts : Int} {ws : List Str} {ks : List Key} {vs : List D} (m e c d8 : D) (l7 : List D) (hh : Hand h) (hp : 0 < parts) (hw : ws.length ≤ 1000) (hn : ws ≠ []) (dl : Dl parts ws ks vs) (r : Nat) (hr : r ≤ 1000) :
    ∃ (es : List Ev) (h' : O), Hand h' ∧ es.length = r ∧ (∀ e ∈ es, okEv parts ws e) ∧
      lcL (gN 9) sYes (sCall R_law_event (sCons (sVar 0) (sCons (sVar 1) (sCons (sVar 6) (sCons (sVar 2) sNil))))) [9] (rangeD 0 r) [] [.bor h, .fz (.int parts), .fz (.lst (ws.map D.str)), .fz m, .fz e, .fz c, .own (.dic ks vs), .own (.lst l7), .fz d8, .non]
        = .ok (es.map Ev.d) [.bor h', .fz (.int parts), .fz (.lst (ws.map D.str)), .fz m, .fz e, .fz c, .own (.dic ks vs), .own (.lst l7), .fz d8, .non] := by
  have ev : ∀ h, Hand h → ∃ (e : Ev) (h' : O), Hand h' ∧ okEv parts ws e ∧ R_law_event [.own h, .fz (.int parts), .own (.dic ks vs), .fz (.lst (ws.map D.str))] = .ret (.fz e.d) [.own h', .fz (.int parts), .own (.dic ks vs), .fz (.lst (ws.map D.str))] := fun h hh => event hh hp hw hn dl
  generalize D.lst (ws.map D.str) = T at ev
  obtain ⟨acc, fr, ⟨es, h', e1, e2, e3, e4, e5⟩, e6⟩ := lcL_P (tg := gN 9) (el := sCall R_law_event (sCons (sVar 0) (sCons (sVar 1) (sCons (sVar 6) (sCons (sVar 2) sNil))))) (vs := [9])
    (fun rest acc fr => ∃ (es : List Ev) (h' : O), Hand h' ∧ es.length + rest.length = r ∧ (∀ e ∈ es, okEv parts ws e) ∧ acc = es.map Ev.d ∧ fr = [.bor h', .fz (.int parts), .fz T, .fz m, .fz e, .fz c, .own (.dic ks vs), .own (.lst l7), .fz d8, .non])
    (fun d rest acc fr ⟨es, h', q1, q2, q3, q4, q5⟩ => by
      subst q4 q5
      obtain ⟨v, h2, r1, r2, r3⟩ := ev _ q1
      refine ⟨by simp at q2 ⊢; omega, [.bor h', .fz (.int parts), .fz T, .fz m, .fz e, .fz c, .own (.dic ks vs), .own (.lst l7), .fz d8, .fz d], .vl (.fz v.d), [.bor h2, .fz (.int parts), .fz T, .fz m, .fz e, .fz c, .own (.dic ks vs), .own (.lst l7), .fz d8, .fz d], v.d, [.bor h2, .fz (.int parts), .fz T, .fz m, .fz e, .fz c, .own (.dic ks vs), .own (.lst l7), .fz d8, .fz d], rfl, by simp [r3], rfl, rfl, es ++ [v], h2, r1, by simp at q2 ⊢; omega, fun x hx => ?_, by simp, rfl⟩
      rcases List.mem_append.mp hx with hx | hx
      · exact q3 x hx
      · rw [List.mem_singleton.mp hx]; exact r2)
    (rangeD 0 r) [] [.bor h, .fz (.int parts), .fz T, .fz m, .fz e, .fz c, .own (.dic ks vs), .own (.lst l7), .fz d8, .non] ⟨[], h, hh, by simp [rangeD_len], fun z hz => by simp at hz, rfl, rfl⟩
  subst e4 e5
  exact ⟨es, h', e1, by simpa using e2, e3, e6⟩
theorem days {h : O} {parts : Int} {ws : List Str} (hh : Hand h) (hp : 0 < parts) (hp2 : parts < 1000) (hw : ws.length ≤ 1000) (hn : ws ≠ []) (many each : Nat) (hm : many ≤ 1000) (he : each ≤ 12) :
    ∃ (ds : List (List Ev)) (h' : O), Hand h' ∧ ds.length = many ∧ (∀ es ∈ ds, es.length ≤ 12 ∧ ∀ e ∈ es, okEv parts ws e) ∧
      R_law_days [.own h, .fz (.int parts), .fz (.lst (ws.map D.str)), .fz (.int many), .fz (.int each), .fz (.int 2)]
        = .ret (.fz (.tup (ds.map dayD))) [.own h', .fz (.int parts), .fz (.lst (ws.map D.str)), .fz (.int many), .fz (.int each), .fz (.int 2)] := by
  obtain ⟨ks0, vs0, h0, d0, dl0, R0⟩ := dealing hh hp hp2 hw
  have deal : ∀ h, Hand h → ∃ (ks : List Key) (vs : List D) (h' : O), Hand h' ∧ Dl parts ws ks vs ∧ R_law_dealing_of [.own h, .fz (.int parts), .fz (.lst (ws.map D.str))] = .ret (.own (.dic ks vs)) [.own h', .fz (.int parts), .fz (.lst (ws.map D.str))] := fun h hh => dealing hh hp hp2 hw
  have dayE := fun (h : O) (ks : List Key) (vs : List D) (d8 : D) (l7 : List D) (hh : Hand h) (dl : Dl parts ws ks vs) (r : Nat) (hr : r ≤ 1000) => day_ev (.int many) (.int each) (.int 2) d8 l7 hh hp hw hn dl r hr
  generalize D.lst (ws.map D.str) = T at R0 deal dayE
  have hs : small62 (many : Int) = true := by unfold small62; simp; omega
  obtain ⟨fr, ⟨j, ds, h', ks, vs, x, e0, e1, e2, e3, e4, e5, e6⟩, e7⟩ := forL_P (tg := gN 8) (body := (sSeq (sIfS (sAnd (sTst (sBin (gI0 fun i j => .bl (decide (j < i))) (sVar 8) (sC (.int 0)))) (sAnd (sTst (sBin (gI0 fun i j => .bl (decide (j < i))) (sVar 5) (sC (.int 0)))) (sTst (sBin eqG (sCall R_law_draw (sCons (sVar 0) (sCons (sVar 5) sNil))) (sC (.int 0)))))) (sSet 6 (sCall R_law_dealing_of (sCons (sVar 0) (sCons (sVar 1) (sCons (sFz (sVar 2)) sNil))))) sSkip) (sExpr (sW "list" appG (sVar 7) (sCons (sB (gOne tupD) (sCons (sLc (iR1 (sCons (sCall R_law_draw (sCons (sVar 0) (sCons (sBin addD (sVar 4) (sC (.int 1))) sNil))) sNil)) (gN 9) sYes (sCall R_law_event (sCons (sVar 0) (sCons (sVar 1) (sCons (sVar 6) (sCons (sVar 2) sNil))))) [9]) sNil)) sNil)))))
    (fun rest fr => ∃ (j : Nat) (ds : List (List Ev)) (h' : O) (ks : List Key) (vs : List D) (x : Sl), (∀ o, x ≠ .bor o) ∧ Hand h' ∧ Dl parts ws ks vs ∧ ds.length = j ∧ (∃ n, rest = rangeD j n ∧ j + n = many) ∧ (∀ es ∈ ds, es.length ≤ 12 ∧ ∀ e ∈ es, okEv parts ws e) ∧
      fr = [.bor h', .fz (.int parts), .fz T, .fz (.int many), .fz (.int each), .fz (.int 2), .own (.dic ks vs), .own (.lst (ds.map dayD)), x, .non])
    (fun d rest fr ⟨j, ds, h', ks, vs, x, e0, e1, e2, e3, ⟨n, e4, e4'⟩, e5, e6⟩ => by
      subst e6
      cases n with
      | zero => cases e4
      | succ n =>
        unfold rangeD at e4
        cases e4
        have hset : gN 8 (.int j) [.bor h', .fz (.int parts), .fz T, .fz (.int many), .fz (.int each), .fz (.int 2), .own (.dic ks vs), .own (.lst (ds.map dayD)), x, .non] = some [.bor h', .fz (.int parts), .fz T, .fz (.int many), .fz (.int each), .fz (.int 2), .own (.dic ks vs), .own (.lst (ds.map dayD)), .fz (.int j), .non] := by
          cases x with
          | bor o => exact absurd rfl (e0 o)
          | _ => simp
        -- the dealing of this day
        have first : ∃ (h2 : O) (ks2 : List Key) (vs2 : List D), Hand h2 ∧ Dl parts ws ks2 vs2 ∧
          sIfS (sAnd (sTst (sBin (gI0 fun i j => .bl (decide (j < i))) (sVar 8) (sC (.int 0)))) (sAnd (sTst (sBin (gI0 fun i j => .bl (decide (j < i))) (sVar 5) (sC (.int 0)))) (sTst (sBin eqG (sCall R_law_draw (sCons (sVar 0) (sCons (sVar 5) sNil))) (sC (.int 0)))))) (sSet 6 (sCall R_law_dealing_of (sCons (sVar 0) (sCons (sVar 1) (sCons (sFz (sVar 2)) sNil))))) sSkip
            [.bor h', .fz (.int parts), .fz T, .fz (.int many), .fz (.int each), .fz (.int 2), .own (.dic ks vs), .own (.lst (ds.map dayD)), .fz (.int j), .non] = .nx [.bor h2, .fz (.int parts), .fz T, .fz (.int many), .fz (.int each), .fz (.int 2), .own (.dic ks2 vs2), .own (.lst (ds.map dayD)), .fz (.int j), .non] := by
          by_cases hj : (0 : Int) < j
          · obtain ⟨r, h2, r1, r2, r3⟩ := draw (m := 2) e1 (by omega) (by omega)
            by_cases hr : r = 0
            · subst hr
              obtain ⟨ks2, vs2, h3, s1, s2, s3⟩ := deal _ r1
              refine ⟨h3, ks2, vs2, s1, s2, ?_⟩
              simp at r3
              have hj' : 0 < j := by omega
              simp [hj', r3, s3]
            · have hr' : ¬ (r : Int) = 0 := by omega
              have hj' : 0 < j := by omega
              refine ⟨h2, ks, vs, r1, e2, ?_⟩
              simp [hj', r3, hr]
          · have hj' : j = 0 := by omega
            subst hj'
            exact ⟨h', ks, vs, e1, e2, by simp⟩
        obtain ⟨h2, ks2, vs2, f1, f2, f3⟩ := first
        obtain ⟨r, h3, r1, r2, r3⟩ := draw (m := (each : Int) + 1) f1 (by omega) (by omega)
        have hr : r ≤ 12 := by omega
        have hs2 : small62 (r : Int) = true := by unfold small62; simp; omega
        obtain ⟨es, h4, t1, t2, t3, t4⟩ := dayE h3 ks2 vs2 (.int j) (ds.map dayD) r1 f2 r (by omega)
        have hl : ds.length < 16777216 := by omega
        refine ⟨_, [.bor h4, .fz (.int parts), .fz T, .fz (.int many), .fz (.int each), .fz (.int 2), .own (.dic ks2 vs2), .own (.lst ((ds ++ [es]).map dayD)), .fz (.int j), .non], hset, ?_, j + 1, ds ++ [es], h4, ks2, vs2, .fz (.int j), fun o => nofun, t1, f2, by simp [e3], ⟨n, by simp, by omega⟩, fun x hx => ?_, rfl⟩
        · simp only [e_sSeq, f3, e_seq_nx]
          simp [r3, hs2, t4, hl, dayD]
        · rcases List.mem_append.mp hx with hx | hx
          · exact e5 x hx
          · rw [List.mem_singleton.mp hx]; exact ⟨by omega, t3⟩)
    (rangeD 0 many) [.bor h0, .fz (.int parts), .fz T, .fz (.int many), .fz (.int each), .fz (.int 2), .own (.dic ks0 vs0), .own (.lst []), .non, .non] ⟨0, [], h0, ks0, vs0, .non, fun o => nofun, d0, dl0, rfl, ⟨many, rfl, by omega⟩, fun z hz => by simp at hz, rfl⟩
  subst e6
  obtain ⟨n, q1, q2⟩ := e4
  have : n = 0 := by
    cases n with
    | zero => rfl
    | succ n => unfold rangeD at q1; cases q1
  subst this
  refine ⟨ds, h', e1, by omega, e5, ?_⟩
  unfold R_law_days b_law_days
  simp [R0, hs, e7]
end MP
set_option Elab.async false
set_option linter.all false
set_option maxRecDepth 100000
set_option maxHeartbeats 2000000
namespace MP
open PySem PySem.Spec L2
theorem ix_abc (i : Int) (h0 : 0 ≤ i) (h1 : i < 26) : ∃ c, c ∈ abc.cps.toList ∧ ixG (.str abc) (.int i) = some (.fz (.str (sg c))) := by
  obtain ⟨n, rfl⟩ := ints_ex h0
  have e1 := abc_26
  have hn : n < abc.cps.toList.length := by rw [len_tl, e1]; omega
  refine ⟨abc.cps.toList[n], List.getElem_mem hn, ?_⟩
  have hs : n < abc.cps.size := by simpa using hn
  rw [e_ix_s, atI_nat', List.getElem?_eq_getElem hn, if_pos (by rw [e1]; decide)]
  rfl
theorem crew_word {h : O} {m : D} {L : Str} (hA : ∀ h, Hand h → ∃ c h', Hand h' ∧ c ∈ abc.cps.toList ∧ R_law_any [.own h, .fz (.str L)] = .ret (.fz (.str (sg c))) [.own h', .fz (.str L)]) (hh : Hand h) (k : Nat) (hk : k ≤ 8) : ∃ (zs : List Nat) (h' : O), Hand h' ∧ zs.length = k ∧ (∀ c ∈ zs, c ∈ abc.cps.toList) ∧
    lcL (gN 10) sYes (sCall R_law_any (sCons (sVar 0) (sCons (sVar 2) sNil))) [10] (rangeD 0 k) [] [.bor h, .fz m, .fz (.str L), .own (.lst []), .non, .non, .non, .non, .non, .non, .non] = .ok (zs.map fun c => .str (sg c)) [.bor h', .fz m, .fz (.str L), .own (.lst []), .non, .non, .non, .non, .non, .non, .non] := by
  obtain ⟨acc, fr, ⟨zs, h', e1, e2, e3, e4, e5⟩, e6⟩ := lcL_P (tg := gN 10) (el := sCall R_law_any (sCons (sVar 0) (sCons (sVar 2) sNil))) (vs := [10]) (fun rest acc fr => ∃ (zs : List Nat) (h' : O), Hand h' ∧ zs.length + rest.length = k ∧ (∀ c ∈ zs, c ∈ abc.cps.toList) ∧ acc = zs.map (fun c => D.str (sg c)) ∧ fr = [.bor h', .fz m, .fz (.str L), .own (.lst []), .non, .non, .non, .non, .non, .non, .non])
    (fun d rest acc fr ⟨zs, h', q1, q2, q3, q4, q5⟩ => by
      subst q4 q5
      obtain ⟨c, h2, r1, r2, r3⟩ := hA _ q1
      refine ⟨by simp at q2 ⊢; omega, [.bor h', .fz m, .fz (.str L), .own (.lst []), .non, .non, .non, .non, .non, .non, .fz d], .vl (.fz (.str (sg c))), [.bor h2, .fz m, .fz (.str L), .own (.lst []), .non, .non, .non, .non, .non, .non, .fz d], .str (sg c), [.bor h2, .fz m, .fz (.str L), .own (.lst []), .non, .non, .non, .non, .non, .non, .fz d], rfl, by simp [r3], rfl, rfl, zs ++ [c], h2, r1, by simp at q2 ⊢; omega, fun x hx => ?_, by simp, rfl⟩
      rcases List.mem_append.mp hx with hx | hx
      · exact q3 x hx
      · rw [List.mem_singleton.mp hx]; exact r2) (rangeD 0 k) [] [.bor h, .fz m, .fz (.str L), .own (.lst []), .non, .non, .non, .non, .non, .non, .non] ⟨[], h, hh, by simp [rangeD_len], fun c hc => by simp at hc, rfl, rfl⟩
  subst e4 e5
  exact ⟨zs, h', e1, by simpa using e2, e3, e6⟩
theorem crew {h : O} (hh : Hand h) (many : Nat) (hm : many ≤ 1000) : ∃ (zs : List Str) (h' : O), Hand h' ∧ zs.length = many ∧ (∀ z ∈ zs, nameOk z) ∧
    R_law_crew [.own h, .fz (.int many)] = .ret (.fz (.tup (zs.map D.str))) [.own h', .fz (.int many)] := by
  obtain ⟨d, h1, q1, q2, q3⟩ := any_l (ds := [.int 0, .int 1, .int 4, .int 6]) hh (by simp) (by simp)
  obtain ⟨k, hk2, rfl⟩ : ∃ k : Nat, k ≤ 6 ∧ d = .int k := by
    simp only [List.mem_cons, List.not_mem_nil, or_false] at q2
    rcases q2 with rfl | rfl | rfl | rfl
    · exact ⟨0, by omega, rfl⟩
    · exact ⟨1, by omega, rfl⟩
    · exact ⟨4, by omega, rfl⟩
    · exact ⟨6, by omega, rfl⟩
  have hA : ∀ h, Hand h → ∃ c h', Hand h' ∧ c ∈ abc.cps.toList ∧ R_law_any [.own h, .fz (.str (Str.ofString "abcdefghijklmnopqrstuvwxyz"))] = .ret (.fz (.str (sg c))) [.own h', .fz (.str (Str.ofString "abcdefghijklmnopqrstuvwxyz"))] := fun h hh => any_abc hh
  have hI : ∀ i : Int, 0 ≤ i → i < 26 → ∃ c, c ∈ abc.cps.toList ∧ ixG (.str (Str.ofString "abcdefghijklmnopqrstuvwxyz")) (.int i) = some (.fz (.str (sg c))) := fun i h0 h1 => ix_abc i h0 h1
  have hs : small62 (k : Int) = true := by unfold small62; simp; omega
  have hs2 : small62 (many : Int) = true := by unfold small62; simp; omega
  unfold R_law_crew b_law_crew
  generalize Str.ofString "abcdefghijklmnopqrstuvwxyz" = L at hA hI
  obtain ⟨zs, h2, r1, r2, r3, r4⟩ := crew_word (m := .int many) hA q1 k (by omega)
  have he : (Str.ofString "").length = 0 := by decide +kernel
  have hj := e_join_l (a := Str.ofString "") (ys := zs.map sg) (by rw [sum_ones, he]; omega)
  rw [List.map_map] at hj
  have hm' : zs.map (fun c => D.str (sg c)) = zs.map (D.str ∘ sg) := rfl
  rw [hm'] at r4
  have w1 : (Txt.join (Str.ofString "") (zs.map sg)).length ≤ 6 := by rw [← len_tl, join_ones zs]; omega
  have w2 : lets (Txt.join (Str.ofString "") (zs.map sg)) := fun c hc => r3 c (by rw [join_ones zs] at hc; exact hc)
  generalize Txt.join (Str.ofString "") (zs.map sg) = w at hj w1 w2
  generalize Str.ofString "" = Z at hj
  obtain ⟨at', h3, a1, a2, a3⟩ := draw (m := (w.length : Int) + 1) r1 (by omega) (by omega)
  obtain ⟨sh, h4, b1, b2, b3⟩ := draw (m := 26) a1 (by omega) (by omega)
  have hlen : (Txt.slice w none (some (at' : Int))).length + (Txt.slice w (some (at' : Int)) none).length = w.length := by
    rw [len_slice, len_slice, HT.sIx_nat, HT.sIx_nat, HT.sIx_none, HT.sIx_none]
    omega
  have l1 := lets_slice w2 none (some (at' : Int))
  have l2 := lets_slice w2 (some (at' : Int)) none
  have wl : w.length ≤ 16777216 := by omega
  have sl1 : slG (.str w) none (some (at' : Int)) = some (.fz (.str (Txt.slice w none (some (at' : Int))))) := by simp [wl]
  have sl2 : slG (.str w) (some (at' : Int)) none = some (.fz (.str (Txt.slice w (some (at' : Int)) none))) := by simp [wl]
  generalize Txt.slice w none (some (at' : Int)) = lo at hlen l1 sl1
  generalize Txt.slice w (some (at' : Int)) none = hi at hlen l2 sl2
  obtain ⟨fr, ⟨j, ys, x7, x8, x9, e0, e1, e2, e3, e4, e5, e6⟩, e7⟩ := forL_P (tg := gN 7) (body := (sSeq (sPar [8, 9] (sCons (sBin ixG (sVar 2) (sBin (gI (fun _ j => decide (0 < j)) fun i j => .int (i % j)) (sB (gOne intD) (sCons (sBin addD (sVar 7) (sVar 6)) sNil)) (sC (.int 26)))) (sCons (sBin ixG (sVar 2) (sBin (gI (fun _ j => decide (0 < j)) fun i j => .int (i % j)) (sB (gOne intD) (sCons (sBin addD (sBin (gI divC fun i j => .int (i / j)) (sVar 7) (sC (.int 26))) (sVar 6)) sNil)) (sC (.int 26)))) sNil))) (sExpr (sW "list" appG (sVar 3) (sCons (sBin addD (sBin addD (sBin addD (sSl slG (sVar 4) sP0 (sP1 (sVar 5))) (sVar 9)) (sVar 8)) (sSl slG (sVar 4) (sP1 (sVar 5)) sP0)) sNil)))))
    (fun rest fr => ∃ (j : Nat) (ys : List Str) (x7 x8 x9 : Sl), (∀ o, x7 ≠ .bor o) ∧ (∀ o, x8 ≠ .bor o) ∧ (∀ o, x9 ≠ .bor o) ∧ ys.length = j ∧ (∃ n, rest = rangeD j n ∧ j + n = many) ∧ (∀ y ∈ ys, nameOk y) ∧
      fr = [.bor h4, .fz (.int many), .fz (.str L), .own (.lst (ys.map D.str)), .fz (.str w), .fz (.int at'), .fz (.int sh), x7, x8, x9, .non])
    (fun d rest fr ⟨j, ys, x7, x8, x9, e0, e1, e2, e3, ⟨n, e4, e4'⟩, e5, e6⟩ => by
      subst e6
      cases n with
      | zero => cases e4
      | succ n =>
        unfold rangeD at e4
        cases e4
        have hset : gN 7 (.int j) [.bor h4, .fz (.int many), .fz (.str L), .own (.lst (ys.map D.str)), .fz (.str w), .fz (.int at'), .fz (.int sh), x7, x8, x9, .non] = some [.bor h4, .fz (.int many), .fz (.str L), .own (.lst (ys.map D.str)), .fz (.str w), .fz (.int at'), .fz (.int sh), .fz (.int j), x8, x9, .non] := by
          cases x7 with
          | bor o => exact absurd rfl (e0 o)
          | _ => simp
        obtain ⟨c1, d1, d2⟩ := hI (((j : Int) + sh) % 26) (Int.emod_nonneg _ (by decide)) (Int.emod_lt_of_pos _ (by decide))
        obtain ⟨c2, d3, d4⟩ := hI (((j : Int) / 26 + sh) % 26) (Int.emod_nonneg _ (by decide)) (Int.emod_lt_of_pos _ (by decide))
        have k1 := lets_sg d1
        have k2 := lets_sg d3
        have n1 : (sg c1).length = 1 := rfl
        have n2 : (sg c2).length = 1 := rfl
        generalize sg c1 = t1 at d2 k1 n1
        generalize sg c2 = t2 at d4 k2 n2
        have q1 : lo.length + t2.length ≤ 16777216 := by omega
        have q2 : (lo ++ t2).length + t1.length ≤ 16777216 := by rw [len_app]; omega
        have q3 : (lo ++ t2 ++ t1).length + hi.length ≤ 16777216 := by rw [len_app, len_app]; omega
        have dv : divC (j : Int) 26 = true := rfl
        have hl : ys.length < 16777216 := by omega
        have fin : nameOk (lo ++ t2 ++ t1 ++ hi) := ⟨by rw [len_app, len_app, len_app]; omega, by rw [len_app, len_app, len_app]; omega, lets_app (lets_app (lets_app l1 k2) k1) l2⟩
        refine ⟨_, [.bor h4, .fz (.int many), .fz (.str L), .own (.lst ((ys ++ [lo ++ t2 ++ t1 ++ hi]).map D.str)), .fz (.str w), .fz (.int at'), .fz (.int sh), .fz (.int j), .fz (.str t1), .fz (.str t2), .non], hset, ?_, j + 1, ys ++ [lo ++ t2 ++ t1 ++ hi], .fz (.int j), .fz (.str t1), .fz (.str t2), fun o => nofun, fun o => nofun, fun o => nofun, by simp [e3], ⟨n, by simp, by omega⟩, fun y hy => ?_, rfl⟩
        · have p8 : setS [.bor h4, .fz (.int many), .fz (.str L), .own (.lst (ys.map D.str)), .fz (.str w), .fz (.int at'), .fz (.int sh), .fz (.int j), x8, x9, .non] 8 (.fz (.str t1)) = some [.bor h4, .fz (.int many), .fz (.str L), .own (.lst (ys.map D.str)), .fz (.str w), .fz (.int at'), .fz (.int sh), .fz (.int j), .fz (.str t1), x9, .non] := by
            cases x8 with
            | bor o => exact absurd rfl (e1 o)
            | _ => simp
          have p9 : setS [.bor h4, .fz (.int many), .fz (.str L), .own (.lst (ys.map D.str)), .fz (.str w), .fz (.int at'), .fz (.int sh), .fz (.int j), .fz (.str t1), x9, .non] 9 (.fz (.str t2)) = some [.bor h4, .fz (.int many), .fz (.str L), .own (.lst (ys.map D.str)), .fz (.str w), .fz (.int at'), .fz (.int sh), .fz (.int j), .fz (.str t1), .fz (.str t2), .non] := by
            cases x9 with
            | bor o => exact absurd rfl (e2 o)
            | _ => simp
          simp [d2, d4, dv, q1, q2, q3, hl, sl1, sl2, p8, p9, -e_setS, -e_ix_s, -e_sl_s]
        · rcases List.mem_append.mp hy with hy | hy
          · exact e5 y hy
          · rw [List.mem_singleton.mp hy]; exact fin)
    (rangeD 0 many) [.bor h4, .fz (.int many), .fz (.str L), .own (.lst []), .fz (.str w), .fz (.int at'), .fz (.int sh), .non, .non, .non, .non] ⟨0, [], .non, .non, .non, fun o => nofun, fun o => nofun, fun o => nofun, rfl, ⟨many, rfl, by omega⟩, fun z hz => by simp at hz, rfl⟩
  subst e6
  obtain ⟨n, z1, z2⟩ := e4
  have : n = 0 := by
    cases n with
    | zero => rfl
    | succ n => unfold rangeD at z1; cases z1
  subst this
  refine ⟨ys, h4, b1, by omega, e5, ?_⟩
  simp [q3, hs, hs2, r4, hj, wl, a3, b3, e7]
end MP
set_option Elab.async false
set_option linter.all false
set_option maxRecDepth 100000
set_option maxHeartbeats 2000000
namespace MP
open PySem PySem.Spec L2
@[simp] theorem is_ii {i : Int} : isiG [0] (.int i) (.ty "int") = some (.fz (.bl true)) := id rfl
@[simp] theorem is_ib {i : Int} : isiG [0] (.int i) (.ty "bool") = some (.fz (.bl false)) := id rfl
@[simp] theorem is_ss {i : Str} : isiG [0] (.str i) (.ty "str") = some (.fz (.bl true)) := id rfl
@[simp] theorem is_tt {i : List D} : isiG [0] (.tup i) (.ty "tuple") = some (.fz (.bl true)) := id rfl
@[simp] theorem is_cc {ns : List Str} {vs : List D} : isiG [0] (.ins 0 ns vs) (.cls 0) = some (.fz (.bl true)) := id rfl
theorem is_integer {i : Int} : R_is_integer [.fz (.int i)] = .ret (.fz (.bl true)) [.fz (.int i)] := by
  unfold R_is_integer b_is_integer
  simp
theorem is_within {i lo hi : Int} (h1 : lo ≤ i) (h2 : i ≤ hi) : R_is_within [.fz (.int i), .fz (.int lo), .fz (.int hi)] = .ret (.fz (.bl true)) [.fz (.int i), .fz (.int lo), .fz (.int hi)] := by
  unfold R_is_within b_is_within
  simp [is_integer, h1, h2]
theorem in_sg {c : Nat} {L : Str} (h : c ∈ L.cps.toList) : inG false (.str (sg c)) (.str L) = some (.fz (.bl true)) := by
  unfold inG orG gInS seqOf gInC
  have e : (sg c).cps.toList = [c] := rfl
  simp only [e]
  have : decide (c ∈ L.cps.toList) = true := decide_eq_true h
  rw [this]
  rfl
theorem bools_true : ∀ ds : List D, bools (ds.map fun _ => D.bl true) = some (ds.map fun _ => true)
  | [] => rfl
  | d :: ds => by
    rw [List.map_cons]
    unfold bools
    simp only [bools_true ds, Option.map_some, List.map_cons]
theorem all_true (ds : List D) : allD (.lst (ds.map fun _ => D.bl true)) = some (.fz (.bl true)) := by
  unfold allD
  simp only [bools_true, Option.map_some]
  congr 3
  induction ds with
  | nil => rfl
  | cons d ds ih => simp
theorem is_name {z : Str} (h : nameOk z) : R_is_name [.fz (.str z)] = .ret (.fz (.bl true)) [.fz (.str z)] := by
  have hS : ∀ d ∈ signs z, ∃ c, inG false d (.str (Str.ofString "abcdefghijklmnopqrstuvwxyz")) = some (.fz (.bl true)) ∧ d = .str (sg c) := fun d hd => by
    obtain ⟨c, h1, rfl⟩ := signs_mem hd
    exact ⟨c, in_sg (L := abc) (h.2.2 c h1), rfl⟩
  have hl : (signs z).length ≤ 8 := by unfold signs; rw [List.length_map, len_tl]; exact h.2.1
  unfold R_is_name b_is_name
  generalize Str.ofString "abcdefghijklmnopqrstuvwxyz" = L at hS
  have hm := lcL_map (tg := gN 1) (el := sBin (inG false) (sVar 1) (sC (.str L))) (vs := [1]) (fr := [.fz (.str z), .non]) (fun _ => .bl true) (ds := signs z) (fun d hd => by
    obtain ⟨c, h1, rfl⟩ := hS d hd
    exact ⟨[.fz (.str z), .fz (.str (sg c))], .vl (.fz (.bl true)), [.fz (.str z), .fz (.str (sg c))], [.fz (.str z), .fz (.str (sg c))], rfl, by simp [h1], rfl, rfl, rfl⟩) [] (by simp; omega)
  have ha := all_true (signs z)
  rw [List.nil_append] at hm
  generalize (signs z).map (fun _ => D.bl true) = C at hm ha
  have h1 : (1 : Int) ≤ z.length := by have := h.1; omega
  have h2 : (z.length : Int) ≤ 8 := by have := h.2.1; omega
  have h3 : z.length ≤ 16777216 := by have := h.2.1; omega
  simp [h1, h2, h3, hm, ha]
/-- an event as its def reads it -/
theorem is_event {parts : Int} {ws : List Str} {e : Ev} (h : okEv parts ws e) (hw : ∀ w ∈ ws, nameOk w) : R_is_event [.fz (.int parts), .fz e.d] = .ret (.fz (.bl true)) [.fz (.int parts), .fz e.d] := by
  have se : D.str (Str.ofString "seen") = D.str sSeen := rfl
  have pe : D.str (Str.ofString "pair") = D.str sPair := rfl
  have ne : sPair ≠ sSeen := by decide +kernel
  unfold R_is_event b_is_event
  rw [se, pe]
  unfold Ev.d
  generalize sSeen = SE at ne
  generalize sPair = PA at ne
  cases e with
  | seen n k =>
    have i1 := is_name (hw n h.1)
    have i2 := is_within (i := (k : Int)) (lo := 0) (hi := parts - 1) (by omega) (by have := h.2; omega)
    simp [i1, i2]
  | pair a b k =>
    have i1 := is_name (hw a h.1)
    have i3 := is_name (hw b h.2.1)
    have i2 := is_within (i := (k : Int)) (lo := 0) (hi := parts - 1) (by omega) (by have := h.2.2.2; omega)
    have ab := h.2.2.1
    simp [i1, i2, i3, ne, ab]
def Ev.names : Ev → List Str
  | .seen n _ => [n]
  | .pair a b _ => [a, b]
theorem okEv_names {parts : Int} {ws : List Str} {e : Ev} (h : okEv parts ws e) : ∀ n ∈ e.names, n ∈ ws := fun n hn => by
  cases e with
  | seen m k => simp [Ev.names] at hn; rw [hn]; exact h.1
  | pair a b k =>
    simp [Ev.names] at hn
    rcases hn with hn | hn
    · rw [hn]; exact h.1
    · rw [hn]; exact h.2.1
theorem names_in {e : Ev} : R_names_in [.fz e.d] = .ret (.fz (.tup (e.names.map D.str))) [.fz e.d] := by
  have se : D.str (Str.ofString "seen") = D.str sSeen := rfl
  have ne : sPair ≠ sSeen := by decide +kernel
  unfold R_names_in b_names_in
  rw [se]
  unfold Ev.d
  generalize sSeen = SE at ne
  generalize sPair = PA at ne
  cases e with
  | seen n k => simp [Ev.names]
  | pair a b k => simp [Ev.names, ne]
theorem in_strs {w : Str} {ns : List Str} : inItems (.str w) (ns.map D.str) = decide (w ∈ ns) := by
  unfold inItems
  rw [List.map_map]
  induction ns with
  | nil => simp
  | cons n ns ih =>
    rw [List.map_cons, List.any_cons, ih]
    have : eqV ((flV ∘ D.str) n) (flV (.str w)) = decide (n = w) := rfl
    rw [this]
    by_cases e : n = w
    · simp [e]
    · have e' : ¬ w = n := fun z => e z.symm
      simp [e, e']
theorem take_names {e : Ev} {ns ws : List Str} (hn : ns.Nodup) (hs : ∀ n ∈ ns, n ∈ ws) (he : ∀ n ∈ e.names, n ∈ ws) (hw : ws.length ≤ 60) : ∃ ns' : List Str, ns'.Nodup ∧ (∀ n ∈ ns', n ∈ ws) ∧
    R_take_names [.own (.lst (ns.map D.str)), .fz e.d] = .ret (.fz (.bl true)) [.own (.lst (ns'.map D.str)), .fz e.d] := by
  have sub : ∀ {l : List Str}, l.Nodup → (∀ n ∈ l, n ∈ ws) → l.length ≤ 60 := fun {l} h1 h2 => Nat.le_trans (List.Nodup.length_le_of_subset h1 h2) hw
  have ni := names_in (e := e)
  generalize e.d = ED at ni
  obtain ⟨fr, ⟨ns', x, e0, e1, e2, e3⟩, e4⟩ := forL_P (tg := gN 2) (body := (sIfS (sTst (sBin (inG true) (sVar 2) (sVar 0))) (sExpr (sW "list" appG (sVar 0) (sCons (sVar 2) sNil))) sSkip))
    (fun rest fr => ∃ (ns' : List Str) (x : Sl), (∀ o, x ≠ .bor o) ∧ ns'.Nodup ∧ ((∀ n ∈ ns', n ∈ ws) ∧ ∀ d ∈ rest, ∃ n, n ∈ ws ∧ d = .str n) ∧ fr = [.bor (.lst (ns'.map D.str)), .fz ED, x])
    (fun d rest fr ⟨ns', x, e0, e1, ⟨e2, e2'⟩, e3⟩ => by
      subst e3
      obtain ⟨n, n1, rfl⟩ := e2' d (List.mem_cons_self ..)
      have hset : gN 2 (.str n) [.bor (.lst (ns'.map D.str)), .fz ED, x] = some [.bor (.lst (ns'.map D.str)), .fz ED, .fz (.str n)] := by
        cases x with
        | bor o => exact absurd rfl (e0 o)
        | _ => simp
      have hin := e_in_l (neg := true) (w := n) (flat_strs ns')
      rw [in_strs] at hin
      have hl : ns'.length < 16777216 := by have := sub e1 e2; omega
      by_cases hm : n ∈ ns'
      · exact ⟨_, [.bor (.lst (ns'.map D.str)), .fz ED, .fz (.str n)], hset, by simp [hin, hm], ns', .fz (.str n), fun o => nofun, e1, ⟨e2, fun d hd => e2' d (List.mem_cons_of_mem _ hd)⟩, rfl⟩
      · refine ⟨_, [.bor (.lst ((ns' ++ [n]).map D.str)), .fz ED, .fz (.str n)], hset, by simp [hin, hm, hl], ns' ++ [n], .fz (.str n), fun o => nofun, ?_, ⟨fun y hy => ?_, fun d hd => e2' d (List.mem_cons_of_mem _ hd)⟩, rfl⟩
        · rw [List.nodup_append]
          exact ⟨e1, by simp, fun a ha b hb => by rw [List.mem_singleton.mp hb]; intro z; exact hm (z ▸ ha)⟩
        · rcases List.mem_append.mp hy with hy | hy
          · exact e2 y hy
          · rw [List.mem_singleton.mp hy]; exact n1)
    (e.names.map D.str) [.bor (.lst (ns.map D.str)), .fz ED, .non] ⟨ns, .non, fun o => nofun, hn, ⟨hs, fun d hd => by
      obtain ⟨n, h1, h2⟩ := List.mem_map.mp hd
      exact ⟨n, he n h1, h2.symm⟩⟩, rfl⟩
  subst e3
  refine ⟨ns', e1, e2.1, ?_⟩
  have hl : (ns'.length : Int) ≤ 60 := by have := sub e1 e2.1; omega
  unfold R_take_names b_take_names
  simp [ni, e4, hl]
end MP
set_option Elab.async false
set_option linter.all false
set_option maxRecDepth 100000
set_option maxHeartbeats 2000000
namespace MP
open PySem PySem.Spec L2
/-- a log that may be made -/
structure okLog (parts : Int) (ws : List Str) (ds : List (List Ev)) : Prop where
  p2 : 2 ≤ parts
  p12 : parts ≤ 12
  nm : ∀ w ∈ ws, nameOk w
  few : ws.length ≤ 60
  pos : 1 ≤ ds.length
  most : ds.length ≤ 200
  ev : ∀ es ∈ ds, es.length ≤ 12 ∧ ∀ e ∈ es, okEv parts ws e
def daysD (ds : List (List Ev)) : D := .tup (ds.map dayD)
theorem check_day {parts : Int} {ws : List Str} {T d3 d4 : D} {x5 x6 : Sl} (hw : ∀ w ∈ ws, nameOk w) (hf : ws.length ≤ 60) (h5 : ∀ o, x5 ≠ .bor o) (h6 : ∀ o, x6 ≠ .bor o) (es : List Ev) (ns : List Str) (hl : es.length ≤ 12) (he : ∀ e ∈ es, okEv parts ws e) (hn : ns.Nodup) (hs : ∀ n ∈ ns, n ∈ ws) :
    ∃ (ns' : List Str) (y5 y6 : Sl), (∀ o, y5 ≠ .bor o) ∧ (∀ o, y6 ≠ .bor o) ∧ ns'.Nodup ∧ (∀ n ∈ ns', n ∈ ws) ∧
      forL (gT 2 (gsC (gN 5) (gsC (gN 6) gsN))) (sIfS (sOr (sTst (sBin (gI0 fun i j => .bl (decide (j ≤ i))) (sVar 5) (sC (.int 12)))) (sOr (sNot (sTru (sCall R_is_event (sCons (sVar 0) (sCons (sVar 6) sNil))))) (sNot (sTru (sCall R_take_names (sCons (sVar 2) (sCons (sVar 6) sNil))))))) sBad sSkip)
        (numbered 0 (es.map Ev.d)) [.fz (.int parts), .fz T, .own (.lst (ns.map D.str)), .fz d3, .fz d4, x5, x6] = .nx [.fz (.int parts), .fz T, .own (.lst (ns'.map D.str)), .fz d3, .fz d4, y5, y6] := by
  obtain ⟨fr, ⟨j, rs, ns', y5, y6, e0, e1, e2, e3, e4, e5⟩, e6⟩ := forL_P (tg := gT 2 (gsC (gN 5) (gsC (gN 6) gsN))) (body := sIfS (sOr (sTst (sBin (gI0 fun i j => .bl (decide (j ≤ i))) (sVar 5) (sC (.int 12)))) (sOr (sNot (sTru (sCall R_is_event (sCons (sVar 0) (sCons (sVar 6) sNil))))) (sNot (sTru (sCall R_take_names (sCons (sVar 2) (sCons (sVar 6) sNil))))))) sBad sSkip)
    (fun rest fr => ∃ (j : Nat) (rs : List Ev) (ns' : List Str) (y5 y6 : Sl), (∀ o, y5 ≠ .bor o) ∧ (∀ o, y6 ≠ .bor o) ∧ (j + rs.length ≤ 12 ∧ rest = numbered j (rs.map Ev.d) ∧ ∀ e ∈ rs, okEv parts ws e) ∧ ns'.Nodup ∧ (∀ n ∈ ns', n ∈ ws) ∧ fr = [.fz (.int parts), .fz T, .own (.lst (ns'.map D.str)), .fz d3, .fz d4, y5, y6])
    (fun d rest fr ⟨j, rs, ns', y5, y6, e0, e1, ⟨e2, e2a, e2b⟩, e3, e4, e5⟩ => by
      subst e5
      cases rs with
      | nil => cases e2a
      | cons e rs =>
        rw [List.map_cons] at e2a
        unfold numbered at e2a
        cases e2a
        have oke := e2b e (List.mem_cons_self ..)
        have i1 := is_event oke hw
        obtain ⟨ns2, t1, t2, t3⟩ := take_names (e := e) e3 e4 (okEv_names oke) hf
        generalize e.d = ED at i1 t3
        have hset : gT 2 (gsC (gN 5) (gsC (gN 6) gsN)) (.tup [.int j, ED]) [.fz (.int parts), .fz T, .own (.lst (ns'.map D.str)), .fz d3, .fz d4, y5, y6] = some [.fz (.int parts), .fz T, .own (.lst (ns'.map D.str)), .fz d3, .fz d4, .fz (.int j), .fz ED] := by
          cases y5 with
          | bor o => exact absurd rfl (e0 o)
          | _ => cases y6 with
            | bor o => exact absurd rfl (e1 o)
            | _ => simp
        have hj : ¬ (12 : Int) ≤ j := by simp at e2; omega
        have hj' : ¬ 12 ≤ j := by omega
        exact ⟨_, [.fz (.int parts), .fz T, .own (.lst (ns2.map D.str)), .fz d3, .fz d4, .fz (.int j), .fz ED], hset, by simp [hj, hj', i1, t3], j + 1, rs, ns2, .fz (.int j), .fz ED, (fun o => nofun), (fun o => nofun), ⟨by simp at e2; omega, rfl, fun x hx => e2b x (List.mem_cons_of_mem _ hx)⟩, t1, t2, rfl⟩)
    (numbered 0 (es.map Ev.d)) [.fz (.int parts), .fz T, .own (.lst (ns.map D.str)), .fz d3, .fz d4, x5, x6] ⟨0, es, ns, x5, x6, h5, h6, ⟨by omega, rfl, he⟩, hn, hs, rfl⟩
  subst e5
  exact ⟨ns', y5, y6, e0, e1, e3, e4, e6⟩
theorem check_days {parts : Int} {ws : List Str} {ds : List (List Ev)} (ok : okLog parts ws ds) : R_check_days [.fz (.int parts), .fz (daysD ds)] = .ret (.fz .non) [.fz (.int parts), .fz (daysD ds)] := by
  have hlen : ¬ ds.length = 0 := by have := ok.pos; omega
  have hne : ds ≠ [] := by intro z; subst z; exact hlen rfl
  unfold R_check_days b_check_days daysD
  obtain ⟨fr, ⟨j, rs, ns', y3, y4, y5, y6, e0, e1, e2, e3, e4, e5, e6, e7⟩, e8⟩ := forL_P (tg := gT 2 (gsC (gN 3) (gsC (gN 4) gsN))) (body := (sSeq (sIfS (sOr (sTst (sBin (gI0 fun i j => .bl (decide (j ≤ i))) (sVar 3) (sC (.int 200)))) (sNot (sTru (sB (gTwo (isiG [0])) (sCons (sVar 4) (sCons (sC (.ty "tuple")) sNil)))))) sBad sSkip) (sFor (iEnF (sCons (sVar 4) sNil)) (gT 2 (gsC (gN 5) (gsC (gN 6) gsN))) (sIfS (sOr (sTst (sBin (gI0 fun i j => .bl (decide (j ≤ i))) (sVar 5) (sC (.int 12)))) (sOr (sNot (sTru (sCall R_is_event (sCons (sVar 0) (sCons (sVar 6) sNil))))) (sNot (sTru (sCall R_take_names (sCons (sVar 2) (sCons (sVar 6) sNil))))))) sBad sSkip))))
    (fun rest fr => ∃ (j : Nat) (rs : List (List Ev)) (ns' : List Str) (y3 y4 y5 y6 : Sl), (∀ o, y3 ≠ .bor o) ∧ (∀ o, y4 ≠ .bor o) ∧ (∀ o, y5 ≠ .bor o) ∧ (∀ o, y6 ≠ .bor o) ∧ (j + rs.length ≤ 200 ∧ rest = numbered j (rs.map dayD) ∧ ∀ es ∈ rs, es.length ≤ 12 ∧ ∀ e ∈ es, okEv parts ws e) ∧ ns'.Nodup ∧ (∀ n ∈ ns', n ∈ ws) ∧ fr = [.fz (.int parts), .fz (.tup (ds.map dayD)), .own (.lst (ns'.map D.str)), y3, y4, y5, y6])
    (fun d rest fr ⟨j, rs, ns', y3, y4, y5, y6, e0, e1, e2, e3, ⟨e4, e4a, e4b⟩, e5, e6, e7⟩ => by
      subst e7
      cases rs with
      | nil => cases e4a
      | cons es rs =>
        rw [List.map_cons] at e4a
        unfold numbered at e4a
        cases e4a
        obtain ⟨o1, o2⟩ := e4b es (List.mem_cons_self ..)
        have hset : gT 2 (gsC (gN 3) (gsC (gN 4) gsN)) (.tup [.int j, dayD es]) [.fz (.int parts), .fz (.tup (ds.map dayD)), .own (.lst (ns'.map D.str)), y3, y4, y5, y6] = some [.fz (.int parts), .fz (.tup (ds.map dayD)), .own (.lst (ns'.map D.str)), .fz (.int j), .fz (dayD es), y5, y6] := by
          cases y3 with
          | bor o => exact absurd rfl (e0 o)
          | _ => cases y4 with
            | bor o => exact absurd rfl (e1 o)
            | _ => simp
        have hj : ¬ 200 ≤ j := by simp at e4; omega
        have hj' : ¬ (200 : Int) ≤ j := by omega
        obtain ⟨ns2, z5, z6, t1, t2, t3, t4, t5⟩ := check_day (T := .tup (ds.map dayD)) (d3 := .int j) (d4 := dayD es) ok.nm ok.few e2 e3 es ns' o1 o2 e5 e6
        refine ⟨_, [.fz (.int parts), .fz (.tup (ds.map dayD)), .own (.lst (ns2.map D.str)), .fz (.int j), .fz (dayD es), z5, z6], hset, ?_, j + 1, rs, ns2, .fz (.int j), .fz (dayD es), z5, z6, (fun o => nofun), (fun o => nofun), t1, t2, ⟨by simp at e4; omega, rfl, fun x hx => e4b x (List.mem_cons_of_mem _ hx)⟩, t3, t4, rfl⟩
        unfold dayD at t5 ⊢
        simp [hj, hj', t5])
    (numbered 0 (ds.map dayD)) [.fz (.int parts), .fz (.tup (ds.map dayD)), .own (.lst []), .non, .non, .non, .non] ⟨0, ds, [], .non, .non, .non, .non, (fun o => nofun), (fun o => nofun), (fun o => nofun), (fun o => nofun), ⟨by have := ok.most; omega, rfl, ok.ev⟩, by simp, (fun n hn => by simp at hn), rfl⟩
  subst e7
  simp [hne, e8]
end MP
set_option Elab.async false
set_option linter.all false
set_option maxRecDepth 100000
set_option maxHeartbeats 2000000
namespace MP
open PySem PySem.Spec L2
def sParts : Str := "parts"
def sDays : Str := "days"
def logO (parts : Int) (ds : List (List Ev)) : O := .ins 0 [sParts, sDays] [.int parts, daysD ds]
def logD (parts : Int) (ds : List (List Ev)) : D := .ins 0 [sParts, sDays] [.int parts, daysD ds]
@[simp] theorem e_mkO {c : Nat} {ns : List Str} {vs : List D} {os : List Val} : mkO c (.own (.ins c ns vs) :: os) = some (.ins c ns vs, os) := by simp [mkO]
@[simp] theorem e_isN : isN (.fz .non) = true := id rfl
theorem log_view {parts : Int} {ds : List (List Ev)} : (logO parts ds).view = logD parts ds := rfl
theorem pd_ne : sParts ≠ sDays := by decide +kernel
theorem dp_ne : sDays ≠ sParts := by decide +kernel
theorem log_init {parts : Int} {ws : List Str} {ds : List (List Ev)} (ok : okLog parts ws ds) : R_Log_init [.own (.ins 0 [] []), .fz (.int parts), .fz (daysD ds)] = .ret (.fz .non) [.own (logO parts ds), .fz (.int parts), .fz (daysD ds)] := by
  have i1 := is_within (i := parts) (lo := 2) (hi := 12) ok.p2 ok.p12
  have i2 := check_days ok
  have n1 := pd_ne
  have e1 : Str.ofString "parts" = sParts := rfl
  have e2 : Str.ofString "days" = sDays := rfl
  unfold R_Log_init b_Log_init logO
  rw [e1, e2]
  generalize sParts = A at n1
  generalize sDays = B at n1
  generalize daysD ds = T at i2
  simp [i1, i2, putN, MP.putA, n1]
theorem look_p {d e : D} : lookD [sParts, sDays] [d, e] sParts = some d := by simp [lookD]
theorem look_d {d e : D} : lookD [sParts, sDays] [d, e] sDays = some e := by simp [lookD, dp_ne]
theorem log_len {parts : Int} {ds : List (List Ev)} {v : Val} (hv : v = .fz (logD parts ds) ∨ v = .own (logO parts ds)) : R_Log_len [v] = .ret (.fz (.int ds.length)) [v] := by
  have e2 : Str.ofString "days" = sDays := rfl
  unfold R_Log_len b_Log_len
  rw [e2]
  rcases hv with rfl | rfl
  · unfold logD daysD; simp [look_d]
  · unfold logO daysD; simp [look_d]
theorem check_log {parts : Int} {ds : List (List Ev)} {v : Val} (hv : v = .fz (logD parts ds) ∨ v = .own (logO parts ds)) : R_check_log [v] = .ret (.fz .non) [v] := by
  unfold R_check_log b_check_log
  rcases hv with rfl | rfl
  · unfold logD; simp
  · unfold logO; simp
theorem check_same {p : Int} {d1 d2 : List (List Ev)} : R_check_same_parts [.own (logO p d1), .fz (logD p d2)] = .ret (.fz .non) [.own (logO p d1), .fz (logD p d2)] := by
  have e1 : Str.ofString "parts" = sParts := rfl
  have i1 := check_log (parts := p) (ds := d1) (.inr rfl)
  have i2 := check_log (parts := p) (ds := d2) (.inl rfl)
  unfold R_check_same_parts b_check_same_parts
  rw [e1]
  unfold logO at i1 ⊢
  unfold logD at i2 ⊢
  simp [i1, i2, look_p]
theorem check_stretch {p : Int} {ds : List (List Ev)} {a b : Nat} (h1 : a < b) (h2 : b ≤ ds.length) : R_check_stretch [.own (logO p ds), .fz (.int a), .fz (.int b)] = .ret (.fz .non) [.own (logO p ds), .fz (.int a), .fz (.int b)] := by
  have e2 : Str.ofString "days" = sDays := rfl
  have i1 := check_log (parts := p) (ds := ds) (.inr rfl)
  have i2 := is_within (i := (a : Int)) (lo := 0) (hi := (ds.length : Int) - 1) (by omega) (by omega)
  have i3 := is_within (i := (b : Int)) (lo := (a : Int) + 1) (hi := (ds.length : Int)) (by omega) (by omega)
  unfold R_check_stretch b_check_stretch
  rw [e2]
  unfold logO daysD at i1 ⊢
  simp [i1, i2, i3, look_d]
theorem cutD_nat {α : Type} (xs : List α) (a b : Nat) : cutD xs (some (a : Int)) (some (b : Int)) = (xs.drop (min a xs.length)).take (min b xs.length - min a xs.length) := by
  unfold cutD
  rw [HT.sIx_nat, HT.sIx_nat]
theorem okLog.sub {p : Int} {ws : List Str} {ds es : List (List Ev)} (ok : okLog p ws ds) (h : ∀ x ∈ es, x ∈ ds) (h1 : 1 ≤ es.length) (h2 : es.length ≤ 200) : okLog p ws es :=
  ⟨ok.p2, ok.p12, ok.nm, ok.few, h1, h2, fun x hx => ok.ev x (h x hx)⟩
theorem cut {p : Int} {ws : List Str} {ds : List (List Ev)} (ok : okLog p ws ds) {a b : Nat} (h1 : a < b) (h2 : b ≤ ds.length) : R_cut [.own (logO p ds), .fz (.int a), .fz (.int b)] = .ret (.own (logO p ((ds.drop a).take (b - a)))) [.own (logO p ds), .fz (.int a), .fz (.int b)] := by
  have e1 : Str.ofString "parts" = sParts := rfl
  have e2 : Str.ofString "days" = sDays := rfl
  have i1 := check_stretch (p := p) h1 h2
  have ok2 : okLog p ws ((ds.drop a).take (b - a)) := ok.sub (fun x hx => List.mem_of_mem_drop (List.mem_of_mem_take hx)) (by rw [List.length_take, List.length_drop]; omega) (by rw [List.length_take, List.length_drop]; have := ok.most; omega)
  have i2 := log_init ok2
  have hc : cutD (ds.map dayD) (some (a : Int)) (some (b : Int)) = ((ds.drop a).take (b - a)).map dayD := by
    rw [cutD_nat, List.length_map, Nat.min_eq_left (by omega), Nat.min_eq_left (by omega), List.map_take, List.map_drop]
  unfold R_cut b_cut
  rw [e1, e2]
  unfold logO daysD at i1 i2 ⊢
  rw [← hc] at i2 ⊢
  simp [i1, i2, look_p, look_d]
theorem behind {p : Int} {ws : List Str} {d1 d2 : List (List Ev)} (ok : okLog p ws (d1 ++ d2)) : R_behind [.own (logO p d1), .fz (logD p d2)] = .ret (.own (logO p (d1 ++ d2))) [.own (logO p d1), .fz (logD p d2)] := by
  have e1 : Str.ofString "parts" = sParts := rfl
  have e2 : Str.ofString "days" = sDays := rfl
  have i1 := check_same (p := p) (d1 := d1) (d2 := d2)
  have i2 := log_init ok
  have hl : d1.length + d2.length ≤ 16777216 := by have := ok.most; simp at this; omega
  unfold R_behind b_behind
  rw [e1, e2]
  unfold logO logD daysD at i1
  unfold logO daysD at i2
  unfold logO logD daysD
  simp at i2
  simp [i1, i2, look_p, look_d, hl]
end MP
set_option Elab.async false
set_option linter.all false
set_option maxRecDepth 100000
set_option maxHeartbeats 2000000
namespace MP
open PySem PySem.Spec L2
def TL2 : D := .tup [.ty "tuple", .ty "list"]
@[simp] theorem is2_t {xs : List D} : isiG [0] (.tup xs) (.tup [.ty "tuple", .ty "list"]) = some (.fz (.bl true)) := id rfl
@[simp] theorem is2_l {xs : List D} : isiG [0] (.lst xs) (.tup [.ty "tuple", .ty "list"]) = some (.fz (.bl true)) := id rfl
@[simp] theorem is2_i {i : Int} : isiG [0] (.int i) (.tup [.ty "tuple", .ty "list"]) = some (.fz (.bl false)) := id rfl
@[simp] theorem is2_s {i : Str} : isiG [0] (.str i) (.tup [.ty "tuple", .ty "list"]) = some (.fz (.bl false)) := id rfl
@[simp] theorem is2_b {i : Bool} : isiG [0] (.bl i) (.tup [.ty "tuple", .ty "list"]) = some (.fz (.bl false)) := id rfl
@[simp] theorem is_lt {i : List D} : isiG [0] (.lst i) (.ty "tuple") = some (.fz (.bl false)) := id rfl
@[simp] theorem is_ll {i : List D} : isiG [0] (.lst i) (.ty "list") = some (.fz (.bl true)) := id rfl
@[simp] theorem is_tl {i : List D} : isiG [0] (.tup i) (.ty "list") = some (.fz (.bl false)) := id rfl
@[simp] theorem is_sb {i : Str} : isiG [0] (.str i) (.ty "bool") = some (.fz (.bl false)) := id rfl
@[simp] theorem is_si {i : Str} : isiG [0] (.str i) (.ty "int") = some (.fz (.bl false)) := id rfl
@[simp] theorem is_is {i : Int} : isiG [0] (.int i) (.ty "str") = some (.fz (.bl false)) := id rfl
@[simp] theorem is_bb {i : Bool} : isiG [0] (.bl i) (.ty "bool") = some (.fz (.bl true)) := id rfl
@[simp] theorem is_bi {i : Bool} : isiG [0] (.bl i) (.ty "int") = some (.fz (.bl true)) := id rfl
@[simp] theorem is_bs {i : Bool} : isiG [0] (.bl i) (.ty "str") = some (.fz (.bl false)) := id rfl
@[simp] theorem nn_t {xs : List D} : isNon (.tup xs) = false := id rfl
@[simp] theorem nn_l {xs : List D} : isNon (.lst xs) = false := id rfl
@[simp] theorem nn_i {xs : Int} : isNon (.int xs) = false := id rfl
@[simp] theorem nn_s {xs : Str} : isNon (.str xs) = false := id rfl
@[simp] theorem nn_b {xs : Bool} : isNon (.bl xs) = false := id rfl
/-- x is itself, says the law's own comparison, at level n -/
def IsIt (n : Nat) (x : D) : Prop := R_law_is n [.fz x, .fz x] = .ret (.fz (.bl true)) [.fz x, .fz x]
theorem is_int (n : Nat) (i : Int) : IsIt (n + 1) (.int i) := by
  unfold IsIt R_law_is b_law_is
  simp
theorem is_str (n : Nat) (i : Str) : IsIt (n + 1) (.str i) := by
  unfold IsIt R_law_is b_law_is
  simp
theorem is_bl (n : Nat) (i : Bool) : IsIt (n + 1) (.bl i) := by
  unfold IsIt R_law_is b_law_is
  simp
theorem zip_mem : ∀ {xs : List D} {d : D}, d ∈ zipD xs xs → ∃ y, y ∈ xs ∧ d = .tup [y, y]
  | [], d, h => by simp [zipD] at h
  | x :: xs, d, h => by
    unfold zipD at h
    rcases List.mem_cons.mp h with h | h
    · exact ⟨x, List.mem_cons_self .., h⟩
    · obtain ⟨y, h1, h2⟩ := zip_mem h
      exact ⟨y, List.mem_cons_of_mem _ h1, h2⟩
theorem zip_len : ∀ {xs : List D}, (zipD xs xs).length = xs.length
  | [] => rfl
  | x :: xs => by unfold zipD; simp [zip_len (xs := xs)]
theorem is_tup (n : Nat) {xs : List D} (hl : xs.length ≤ 16777216) (h : ∀ y ∈ xs, IsIt n y) : IsIt (n + 1) (.tup xs) := by
  unfold IsIt R_law_is b_law_is
  have hm := lcL_map (tg := gT 2 (gsC (gN 2) (gsC (gN 3) gsN))) (el := sCall (R_law_is n) (sCons (sFz (sVar 2)) (sCons (sFz (sVar 3)) sNil))) (vs := [2, 3]) (fr := [.fz (.tup xs), .fz (.tup xs), .non, .non]) (fun _ => .bl true) (ds := zipD xs xs) (fun d hd => by
    obtain ⟨y, h1, rfl⟩ := zip_mem hd
    have hy := h y h1
    unfold IsIt at hy
    exact ⟨[.fz (.tup xs), .fz (.tup xs), .fz y, .fz y], .vl (.fz (.bl true)), [.fz (.tup xs), .fz (.tup xs), .fz y, .fz y], [.fz (.tup xs), .fz (.tup xs), .fz y, .fz y], rfl, by simp [hy], rfl, rfl, rfl⟩) [] (by simp [zip_len, hl])
  have ha := all_true (zipD xs xs)
  rw [List.nil_append] at hm
  generalize (zipD xs xs).map (fun _ => D.bl true) = C at hm ha
  simp [zipOf, hm, ha]
theorem is_lst (n : Nat) {xs : List D} (hl : xs.length ≤ 16777216) (h : ∀ y ∈ xs, IsIt n y) : IsIt (n + 1) (.lst xs) := by
  unfold IsIt R_law_is b_law_is
  have hm := lcL_map (tg := gT 2 (gsC (gN 2) (gsC (gN 3) gsN))) (el := sCall (R_law_is n) (sCons (sFz (sVar 2)) (sCons (sFz (sVar 3)) sNil))) (vs := [2, 3]) (fr := [.fz (.lst xs), .fz (.lst xs), .non, .non]) (fun _ => .bl true) (ds := zipD xs xs) (fun d hd => by
    obtain ⟨y, h1, rfl⟩ := zip_mem hd
    have hy := h y h1
    unfold IsIt at hy
    exact ⟨[.fz (.lst xs), .fz (.lst xs), .fz y, .fz y], .vl (.fz (.bl true)), [.fz (.lst xs), .fz (.lst xs), .fz y, .fz y], [.fz (.lst xs), .fz (.lst xs), .fz y, .fz y], rfl, by simp [hy], rfl, rfl, rfl⟩) [] (by simp [zip_len, hl])
  have ha := all_true (zipD xs xs)
  rw [List.nil_append] at hm
  generalize (zipD xs xs).map (fun _ => D.bl true) = C at hm ha
  simp [zipOf, hm, ha]
theorem is_ev (n : Nat) (e : Ev) : IsIt (n + 2) e.d := by
  cases e with
  | seen a k =>
      refine is_tup (n + 1) (by simp) fun y hy => ?_
      simp only [List.mem_cons, List.not_mem_nil, or_false] at hy
      rcases hy with rfl | rfl | rfl
      · exact is_str n _
      · exact is_str n _
      · exact is_int n _
  | pair a b k =>
      refine is_tup (n + 1) (by simp) fun y hy => ?_
      simp only [List.mem_cons, List.not_mem_nil, or_false] at hy
      rcases hy with rfl | rfl | rfl | rfl
      · exact is_str n _
      · exact is_str n _
      · exact is_str n _
      · exact is_int n _
theorem is_days (n : Nat) {p : Int} {ws : List Str} {ds : List (List Ev)} (ok : okLog p ws ds) : IsIt (n + 4) (daysD ds) := is_tup (n + 3) (by have := ok.most; simp; omega) fun y hy => by
  obtain ⟨es, h1, rfl⟩ := List.mem_map.mp hy
  exact is_tup (n + 2) (by have := (ok.ev es h1).1; simp; omega) fun z hz => by
    obtain ⟨e, h2, rfl⟩ := List.mem_map.mp hz
    exact is_ev n e
/-! ### == of the days -/
/-- data that is compared: its depth, its own equal -/
def EqIt (n : Nat) (x : D) : Prop := ∃ P, toP x = some P ∧ P.canLay0 = true ∧ P.depth ≤ n ∧ PyData.eqv P P = true
theorem eq_int (i : Int) : EqIt 0 (.int i) := ⟨.int i, rfl, rfl, Nat.le_refl _, by simp [PyData.eqv]⟩
theorem eq_str {z : Str} (h : ∀ c ∈ z.cps.toList, c < 0x110000) : EqIt 0 (.str z) := ⟨.str z, rfl, by
  unfold PyData.canLay0 PyData.strOk
  rw [Array.all_eq_true_iff_forall_mem]
  intro c hc
  simpa using h c (by simpa using hc), Nat.le_refl _, by simp [PyData.eqv]⟩
theorem eq_all (n : Nat) : ∀ {xs : List D}, (∀ y ∈ xs, EqIt n y) → ∃ Ps, toPs xs = some Ps ∧ PyData.canLayAll0 Ps = true ∧ PyData.depthAll Ps ≤ n ∧ PyData.eqvAll Ps Ps = true
  | [], h => ⟨[], rfl, rfl, Nat.zero_le _, rfl⟩
  | x :: xs, h => by
    obtain ⟨P, p1, p2, p3, p4⟩ := h x (List.mem_cons_self ..)
    obtain ⟨Ps, q1, q2, q3, q4⟩ := eq_all n (xs := xs) fun y hy => h y (List.mem_cons_of_mem _ hy)
    refine ⟨P :: Ps, by unfold toPs; rw [p1, q1], by unfold PyData.canLayAll0; rw [p2, q2]; rfl, by unfold PyData.depthAll; omega, by unfold PyData.eqvAll; rw [p4, q4]; rfl⟩
theorem eq_tup (n : Nat) {xs : List D} (h : ∀ y ∈ xs, EqIt n y) : EqIt (n + 1) (.tup xs) := by
  obtain ⟨Ps, q1, q2, q3, q4⟩ := eq_all n h
  exact ⟨.tuple Ps, by unfold toP; rw [q1]; rfl, by unfold PyData.canLay0; exact q2, by unfold PyData.depth; omega, by unfold PyData.eqv; exact q4⟩
theorem EqIt.mono {n m : Nat} {x : D} (h : EqIt n x) (hm : n ≤ m) : EqIt m x := by
  obtain ⟨P, a, b, c, d⟩ := h
  exact ⟨P, a, b, by omega, d⟩
theorem eqG_it {xs : List D} (h : EqIt 64 (.tup xs)) : eqG (.tup xs) (.tup xs) = some (.fz (.bl true)) := by
  obtain ⟨P, a, b, c, d⟩ := h
  have sh : SeqAt.shaped P = true := by unfold SeqAt.shaped; rw [b]; simpa using c
  unfold eqG orG eqS eqSc eqDG eqD
  simp only [Option.map_none, a, sh, and_self, if_true, d, Option.map_some]
theorem lets_small {z : Str} (h : lets z) : ∀ c ∈ z.cps.toList, c < 0x110000 := fun c hc => by
  have := h c hc
  rw [abc_cs] at this
  simp only [List.mem_cons, List.not_mem_nil, or_false] at this
  omega
theorem seen_small : ∀ c ∈ sSeen.cps.toList, c < 0x110000 := by decide +kernel
theorem pair_small : ∀ c ∈ sPair.cps.toList, c < 0x110000 := by decide +kernel
theorem eq_ev {p : Int} {ws : List Str} {e : Ev} (hw : ∀ w ∈ ws, nameOk w) (h : okEv p ws e) : EqIt 1 e.d := by
  cases e with
  | seen a k =>
      refine eq_tup 0 fun y hy => ?_
      simp only [List.mem_cons, List.not_mem_nil, or_false] at hy
      rcases hy with rfl | rfl | rfl
      · exact eq_str seen_small
      · exact eq_str (lets_small (hw a h.1).2.2)
      · exact eq_int _
  | pair a b k =>
      refine eq_tup 0 fun y hy => ?_
      simp only [List.mem_cons, List.not_mem_nil, or_false] at hy
      rcases hy with rfl | rfl | rfl | rfl
      · exact eq_str pair_small
      · exact eq_str (lets_small (hw a h.1).2.2)
      · exact eq_str (lets_small (hw b h.2.1).2.2)
      · exact eq_int _
theorem eq_days {p : Int} {ws : List Str} {ds : List (List Ev)} (ok : okLog p ws ds) : eqG (daysD ds) (daysD ds) = some (.fz (.bl true)) := by
  refine eqG_it (EqIt.mono (eq_tup 2 fun y hy => ?_) (by decide))
  obtain ⟨es, h1, rfl⟩ := List.mem_map.mp hy
  refine eq_tup 1 fun z hz => ?_
  obtain ⟨e, h2, rfl⟩ := List.mem_map.mp hz
  exact eq_ev ok.nm ((ok.ev es h1).2 e h2)
theorem log_eq {p : Int} {ws : List Str} {ds : List (List Ev)} (ok : okLog p ws ds) : R_Log_eq [.fz (logD p ds), .fz (logD p ds)] = .ret (.fz (.bl true)) [.fz (logD p ds), .fz (logD p ds)] := by
  have e1 : Str.ofString "parts" = sParts := rfl
  have e2 : Str.ofString "days" = sDays := rfl
  have i1 := eq_days ok
  unfold R_Log_eq b_Log_eq
  rw [e1, e2]
  unfold logD
  generalize daysD ds = T at i1
  simp [look_p, look_d, i1]
end MP
set_option Elab.async false
set_option linter.all false
set_option maxRecDepth 100000
set_option maxHeartbeats 2000000
namespace MP
open PySem PySem.Spec L2
def num (k : Int) : Str := Str.ofString (toString k)
def sSp : Str := " "
def sNl : Str := "\n"
def sDay : Str := "day"
def sLock : Str := "lock"
def sLockSp : Str := "lock "
def sE : Str := ""
def Ev.words : Ev → List Str
  | .seen n k => [sSeen, n, num k]
  | .pair a b k => [sPair, a, b, num k]
def line (es : List Ev) : Str := Txt.join sSp (sDay :: es.flatMap Ev.words)
def lockL (p : Int) : Str := sLockSp ++ num p
def lines (p : Int) (ds : List (List Ev)) : List Str := lockL p :: ds.map line
def text (p : Int) (ds : List (List Ev)) : Str := Txt.join sE ((lines p ds).map (· ++ sNl))
theorem num_len (k : Nat) (h : k < 13) : (num k).length ≤ 2 := by
  have : ∀ k, k < 13 → (num (k : Nat)).length ≤ 2 := by decide +kernel
  exact this k h
theorem joinL_len (S : List Nat) : ∀ l : List (List Nat), (TL.joinL S l).length ≤ (l.map List.length).sum + l.length * S.length
  | [] => by simp [TL.joinL]
  | [x] => by simp [TL.joinL]
  | x :: y :: l => by
    have ih := joinL_len S (y :: l)
    show (x ++ (S ++ TL.joinL S (y :: l))).length ≤ _
    simp only [List.length_append, List.map_cons, List.sum_cons, List.length_cons, Nat.add_mul, Nat.one_mul] at ih ⊢
    omega
theorem join_len (a : Str) (ys : List Str) : (Txt.join a ys).length ≤ (ys.map (·.length)).sum + ys.length * a.length := by
  rw [← len_tl, TL.join_eq]
  show (TL.tl (Str.join a ys)).length ≤ _
  rw [TL.tl_join]
  refine Nat.le_trans (joinL_len _ _) ?_
  rw [List.map_map, List.length_map]
  have : (ys.map (List.length ∘ TL.tl)) = ys.map (·.length) := by
    apply List.map_congr_left
    intro y _
    exact len_tl y
  rw [this]
  have e : (TL.tl a).length = a.length := len_tl a
  rw [e]
  exact Nat.le_refl _
theorem sum_le (b : Nat) : ∀ {ys : List Str}, (∀ y ∈ ys, y.length ≤ b) → (ys.map (·.length)).sum ≤ ys.length * b
  | [], h => by simp
  | y :: ys, h => by
    have h1 := h y (List.mem_cons_self ..)
    have h2 := sum_le b (ys := ys) fun z hz => h z (List.mem_cons_of_mem _ hz)
    simp only [List.map_cons, List.sum_cons, List.length_cons, Nat.add_mul, Nat.one_mul]
    omega
theorem word_len {p : Int} {ws : List Str} {e : Ev} (hw : ∀ w ∈ ws, nameOk w) (hp : p ≤ 12) (h : okEv p ws e) : e.words.length ≤ 4 ∧ ∀ w ∈ e.words, w.length ≤ 8 := by
  have l1 : sSeen.length = 4 := by decide +kernel
  have l2 : sPair.length = 4 := by decide +kernel
  cases e with
  | seen a k =>
    have := num_len k (by have := h.2; omega)
    refine ⟨by simp [Ev.words], fun w hm => ?_⟩
    simp only [Ev.words, List.mem_cons, List.not_mem_nil, or_false] at hm
    rcases hm with rfl | rfl | rfl
    · omega
    · exact (hw _ h.1).2.1
    · omega
  | pair a b k =>
    have := num_len k (by have := h.2.2.2; omega)
    refine ⟨by simp [Ev.words], fun w hm => ?_⟩
    simp only [Ev.words, List.mem_cons, List.not_mem_nil, or_false] at hm
    rcases hm with rfl | rfl | rfl | rfl
    · omega
    · exact (hw _ h.1).2.1
    · exact (hw _ h.2.1).2.1
    · omega
theorem words_len {p : Int} {ws : List Str} (hw : ∀ w ∈ ws, nameOk w) (hp : p ≤ 12) : ∀ {es : List Ev}, (∀ e ∈ es, okEv p ws e) → (es.flatMap Ev.words).length ≤ es.length * 4 ∧ ∀ w ∈ es.flatMap Ev.words, w.length ≤ 8
  | [], h => by simp
  | e :: es, h => by
    obtain ⟨a1, a2⟩ := word_len hw hp (h e (List.mem_cons_self ..))
    obtain ⟨b1, b2⟩ := words_len hw hp (es := es) fun x hx => h x (List.mem_cons_of_mem _ hx)
    refine ⟨by simp only [List.flatMap_cons, List.length_append, List.length_cons]; omega, fun w hm => ?_⟩
    simp only [List.flatMap_cons, List.mem_append] at hm
    exact hm.elim (a2 w) (b2 w)
theorem line_len {p : Int} {ws : List Str} {es : List Ev} (hw : ∀ w ∈ ws, nameOk w) (hp : p ≤ 12) (hl : es.length ≤ 12) (h : ∀ e ∈ es, okEv p ws e) : ((sDay :: es.flatMap Ev.words).map (·.length)).sum + (sDay :: es.flatMap Ev.words).length * sSp.length ≤ 1000 := by
  obtain ⟨b1, b2⟩ := words_len hw hp h
  have l1 : sDay.length = 3 := by decide +kernel
  have l2 : sSp.length = 1 := by decide +kernel
  have := sum_le 8 (ys := sDay :: es.flatMap Ev.words) fun y hy => by
    rcases List.mem_cons.mp hy with rfl | hy
    · omega
    · exact b2 y hy
  rw [l2]
  simp only [List.length_cons] at this ⊢
  omega
theorem lines_len {p : Int} {ws : List Str} {ds : List (List Ev)} (ok : okLog p ws ds) : (∀ l ∈ lines p ds, l.length ≤ 1000) := by
  intro l hl
  rcases List.mem_cons.mp hl with rfl | hl
  · obtain ⟨k, rfl⟩ := ints_ex (r := p) (by have := ok.p2; omega)
    have := num_len k (by have := ok.p12; omega)
    have l1 : sLockSp.length = 5 := by decide +kernel
    unfold lockL
    rw [len_app]
    omega
  · obtain ⟨es, h1, rfl⟩ := List.mem_map.mp hl
    exact Nat.le_trans (join_len _ _) (line_len ok.nm ok.p12 (ok.ev es h1).1 (ok.ev es h1).2)
/-- the end of both: the lines, each with a line feed -/
theorem text_len {p : Int} {ws : List Str} {ds : List (List Ev)} (ok : okLog p ws ds) : (((lines p ds).map (· ++ sNl)).map (·.length)).sum + ((lines p ds).map (· ++ sNl)).length * sE.length ≤ 16777216 := by
  have l1 : sNl.length = 1 := by decide +kernel
  have l2 : sE.length = 0 := by decide +kernel
  have := sum_le 1001 (ys := (lines p ds).map (· ++ sNl)) fun y hy => by
    obtain ⟨l, h1, rfl⟩ := List.mem_map.mp hy
    have := lines_len ok l h1
    show (l ++ sNl).length ≤ 1001
    rw [len_app]
    omega
  have hl : ((lines p ds).map (· ++ sNl)).length ≤ 201 := by have := ok.most; simp [lines]; omega
  rw [l2]
  omega
end MP
set_option Elab.async false
set_option linter.all false
set_option maxRecDepth 100000
set_option maxHeartbeats 2000000
namespace MP
open PySem PySem.Spec L2
theorem log2_small {k : Int} (h0 : 0 ≤ k) (h1 : k < 13) : k.natAbs.log2 < 1920 := by
  have : ∀ n, n < 13 → Nat.log2 n < 1920 := by decide +kernel
  exact this k.natAbs (by omega)
theorem str_num {k : Int} (h0 : 0 ≤ k) (h1 : k < 13) : strD (.int k) = some (.fz (.str (num k))) := by
  rw [e_str_i, if_pos (log2_small h0 h1)]
  rfl
theorem fmt_num {k : Int} (h0 : 0 ≤ k) (h1 : k < 13) : fmtD (.int k) = some (.fz (.str (num k))) := by
  rw [e_fmt_i, if_pos (log2_small h0 h1)]
  rfl
/-- the items of an event -/
def Ev.items (e : Ev) : List D := match e with
  | .seen n k => [.str sSeen, .str n, .int k]
  | .pair a b k => [.str sPair, .str a, .str b, .int k]
theorem ev_items (e : Ev) : e.d = .tup e.items := by cases e <;> rfl
/-- what str makes of an item -/
def strOf : D → D
  | .int k => .str (num k)
  | d => d
theorem items_words (e : Ev) : e.items.map strOf = e.words.map D.str := by cases e <;> rfl
theorem items_str {p : Int} {ws : List Str} {e : Ev} (hp : p ≤ 12) (h : okEv p ws e) : ∀ d ∈ e.items, strD d = some (.fz (strOf d)) := by
  intro d hd
  cases e with
  | seen a k =>
    simp only [Ev.items, List.mem_cons, List.not_mem_nil, or_false] at hd
    rcases hd with rfl | rfl | rfl
    · rfl
    · rfl
    · exact str_num (by omega) (by have := h.2; omega)
  | pair a b k =>
    simp only [Ev.items, List.mem_cons, List.not_mem_nil, or_false] at hd
    rcases hd with rfl | rfl | rfl | rfl
    · rfl
    · rfl
    · rfl
    · exact str_num (by omega) (by have := h.2.2.2; omega)
/-- the last comprehension of both texts -/
theorem nl_map (i v : Nat) {fr frv : Fm} {ls : List Str} (hf : ∀ s : Str, gN v (.str s) fr = some (frv.set v (.fz (.str s))) ∧ (frv.set v (.fz (.str s)))[v]? = some (.fz (.str s)) ∧ noBor (frv.set v (.fz (.str s))) [v] = true ∧ wipeF (frv.set v (.fz (.str s))) [v] = fr) (hl : ∀ l ∈ ls, l.length ≤ 1000) (hn : ls.length ≤ 1000) :
    lcL (gN v) sYes (sBin addD (sVar v) (sC (.str sNl))) [v] (ls.map D.str) [] fr = .ok ((ls.map (· ++ sNl)).map D.str) fr := by
  have l1 : sNl.length = 1 := by decide +kernel
  have := lcL_map (tg := gN v) (el := sBin addD (sVar v) (sC (.str sNl))) (vs := [v]) (fr := fr) (fun d => match d with | .str s => .str (s ++ sNl) | d => d) (ds := ls.map D.str) (fun d hd => by
    obtain ⟨s, h1, rfl⟩ := List.mem_map.mp hd
    obtain ⟨a1, a2, a3, a4⟩ := hf s
    have hs := hl s h1
    have hz : s.length + sNl.length ≤ 16777216 := by omega
    refine ⟨_, .vl (.fz (.str (s ++ sNl))), frv.set v (.fz (.str s)), frv.set v (.fz (.str s)), a1, ?_, rfl, a3, a4⟩
    generalize sNl = N at hz
    generalize frv.set v (.fz (.str s)) = g at a2
    simp [a2, hz]) [] (by simp; omega)
  rw [this, List.nil_append, List.map_map, List.map_map]
  rfl
end MP
set_option Elab.async false
set_option linter.all false
set_option maxRecDepth 100000
set_option maxHeartbeats 2000000
namespace MP
open PySem PySem.Spec L2
theorem lt_events {p : Int} {ws : List Str} {P T : D} {ls : List D} {x3 x5 : Sl} (hw : ∀ w ∈ ws, nameOk w) (hp : p ≤ 12) (h5 : ∀ o, x5 ≠ .bor o) (es : List Ev) (he : ∀ e ∈ es, okEv p ws e) (hl : es.length ≤ 12) :
    ∃ x5' : Sl, (∀ o, x5' ≠ .bor o) ∧ forL (gN 5) (sExpr (sW "list" extG (sVar 4) (sCons (sLc (iAnyF (sVar 5)) (gN 6) sYes (sB (gOne strD) (sCons (sVar 6) sNil)) [6]) sNil))) (es.map Ev.d)
      [.fz P, .fz T, .own (.lst ls), x3, .own (.lst [.str sDay]), x5, .non, .non] = .nx [.fz P, .fz T, .own (.lst ls), x3, .own (.lst ((sDay :: es.flatMap Ev.words).map D.str)), x5', .non, .non] := by
  obtain ⟨fr, ⟨done, rs, x5', e0, e1, e2, e3⟩, e4⟩ := forL_P (tg := gN 5) (body := sExpr (sW "list" extG (sVar 4) (sCons (sLc (iAnyF (sVar 5)) (gN 6) sYes (sB (gOne strD) (sCons (sVar 6) sNil)) [6]) sNil)))
    (fun rest fr => ∃ (done rs : List Ev) (x5' : Sl), (∀ o, x5' ≠ .bor o) ∧ rest = rs.map Ev.d ∧ done ++ rs = es ∧ fr = [.fz P, .fz T, .own (.lst ls), x3, .own (.lst ((sDay :: done.flatMap Ev.words).map D.str)), x5', .non, .non])
    (fun d rest fr ⟨done, rs, x5', e0, e1, e2, e3⟩ => by
      subst e3
      cases rs with
      | nil => cases e1
      | cons e rs =>
        cases e1
        have oke : okEv p ws e := he e (by rw [← e2]; simp)
        have hset : gN 5 e.d [.fz P, .fz T, .own (.lst ls), x3, .own (.lst ((sDay :: done.flatMap Ev.words).map D.str)), x5', .non, .non] = some [.fz P, .fz T, .own (.lst ls), x3, .own (.lst ((sDay :: done.flatMap Ev.words).map D.str)), .fz e.d, .non, .non] := by
          cases x5' with
          | bor o => exact absurd rfl (e0 o)
          | _ => simp
        have it := items_str hp oke
        have iw := items_words e
        have wl := (word_len hw hp oke).1
        have il : e.items.length ≤ 4 := by rw [← List.length_map (f := strOf), iw, List.length_map]; exact wl
        have dl := (words_len hw hp (es := done) fun x hx => he x (by rw [← e2]; simp [hx])).1
        have dl2 : done.length ≤ 12 := by have := congrArg List.length e2; simp at this; omega
        refine ⟨_, [.fz P, .fz T, .own (.lst ls), x3, .own (.lst ((sDay :: (done ++ [e]).flatMap Ev.words).map D.str)), .fz e.d, .non, .non], hset, ?_, done ++ [e], rs, .fz e.d, (fun o => nofun), rfl, by rw [← e2]; simp, rfl⟩
        rw [ev_items]
        have hz : (done.flatMap Ev.words).length + 1 + e.items.length ≤ 16777216 := by omega
        have ht : (sDay :: (done ++ [e]).flatMap Ev.words).map D.str = (sDay :: done.flatMap Ev.words).map D.str ++ e.items.map strOf := by
          rw [iw, ← List.map_append]
          congr 1
          simp
        rw [ht]
        have hwl : ((sDay :: done.flatMap Ev.words).map D.str).length + e.items.length ≤ 16777216 := by simp only [List.length_map, List.length_cons]; omega
        generalize (sDay :: done.flatMap Ev.words).map D.str = Wd at hwl
        have hm := lcL_map (tg := gN 6) (el := sB (gOne strD) (sCons (sVar 6) sNil)) (vs := [6]) (fr := [.fz P, .fz T, .own (.lst ls), x3, .own (.lst Wd), .fz (.tup e.items), .non, .non]) strOf (ds := e.items) (fun d hd =>
          ⟨[.fz P, .fz T, .own (.lst ls), x3, .own (.lst Wd), .fz (.tup e.items), .fz d, .non], .vl (.fz (strOf d)), [.fz P, .fz T, .own (.lst ls), x3, .own (.lst Wd), .fz (.tup e.items), .fz d, .non], [.fz P, .fz T, .own (.lst ls), x3, .own (.lst Wd), .fz (.tup e.items), .fz d, .non], rfl, by simp [it d hd], rfl, rfl, rfl⟩) [] (by simp; omega)
        rw [List.nil_append] at hm
        simp [hm, hwl])
    (es.map Ev.d) [.fz P, .fz T, .own (.lst ls), x3, .own (.lst [.str sDay]), x5, .non, .non] ⟨[], es, x5, h5, rfl, rfl, rfl⟩
  have : rs = [] := by simpa using e1.symm
  subst this e3
  rw [List.append_nil] at e2
  subst e2
  exact ⟨x5', e0, e4⟩
end MP
set_option Elab.async false
set_option linter.all false
set_option maxRecDepth 100000
set_option maxHeartbeats 2000000
namespace MP
open PySem PySem.Spec L2
theorem day_items (es : List Ev) : dayD es = .tup (es.map Ev.d) := rfl
theorem lt_days {p : Int} {ws : List Str} {ds : List (List Ev)} {T : D} (ok : okLog p ws ds) :
    ∃ x3 x4 x5 : Sl, (∀ o, x3 ≠ .bor o) ∧ (∀ o, x4 ≠ .bor o) ∧ (∀ o, x5 ≠ .bor o) ∧ forL (gN 3) (sSeq (sSet 4 (sLst (sCons (sC (.str sDay)) sNil))) (sSeq (sFor (iAnyF (sVar 3)) (gN 5) (sExpr (sW "list" extG (sVar 4) (sCons (sLc (iAnyF (sVar 5)) (gN 6) sYes (sB (gOne strD) (sCons (sVar 6) sNil)) [6]) sNil)))) (sExpr (sW "list" appG (sVar 2) (sCons (sM "str" joinG (sC (.str sSp)) (sCons (sVar 4) sNil)) sNil))))) (ds.map dayD)
      [.fz (.int p), .fz T, .own (.lst [.str (lockL p)]), .non, .non, .non, .non, .non] = .nx [.fz (.int p), .fz T, .own (.lst ((lines p ds).map D.str)), x3, x4, x5, .non, .non] := by
  obtain ⟨fr, ⟨done, rs, x3, x4, x5, e0, e1, e2, e3, e4, e5⟩, e6⟩ := forL_P (tg := gN 3) (body := sSeq (sSet 4 (sLst (sCons (sC (.str sDay)) sNil))) (sSeq (sFor (iAnyF (sVar 3)) (gN 5) (sExpr (sW "list" extG (sVar 4) (sCons (sLc (iAnyF (sVar 5)) (gN 6) sYes (sB (gOne strD) (sCons (sVar 6) sNil)) [6]) sNil)))) (sExpr (sW "list" appG (sVar 2) (sCons (sM "str" joinG (sC (.str sSp)) (sCons (sVar 4) sNil)) sNil)))))
    (fun rest fr => ∃ (done rs : List (List Ev)) (x3 x4 x5 : Sl), (∀ o, x3 ≠ .bor o) ∧ (∀ o, x4 ≠ .bor o) ∧ (∀ o, x5 ≠ .bor o) ∧ rest = rs.map dayD ∧ done ++ rs = ds ∧ fr = [.fz (.int p), .fz T, .own (.lst ((lines p done).map D.str)), x3, x4, x5, .non, .non])
    (fun d rest fr ⟨done, rs, x3, x4, x5, e0, e1, e2, e3, e4, e5⟩ => by
      subst e5
      cases rs with
      | nil => cases e3
      | cons es rs =>
        cases e3
        obtain ⟨o1, o2⟩ := ok.ev es (by rw [← e4]; simp)
        obtain ⟨x5', f0, f1⟩ := lt_events (P := .int p) (T := T) (ls := (lines p done).map D.str) (x3 := .fz (dayD es)) ok.nm ok.p12 e2 es o2 o1
        have hset : gN 3 (dayD es) [.fz (.int p), .fz T, .own (.lst ((lines p done).map D.str)), x3, x4, x5, .non, .non] = some [.fz (.int p), .fz T, .own (.lst ((lines p done).map D.str)), .fz (dayD es), x4, x5, .non, .non] := by
          cases x3 with
          | bor o => exact absurd rfl (e0 o)
          | _ => simp
        have hset4 : setS [.fz (.int p), .fz T, .own (.lst ((lines p done).map D.str)), .fz (dayD es), x4, x5, .non, .non] 4 (.own (.lst [.str sDay])) = some [.fz (.int p), .fz T, .own (.lst ((lines p done).map D.str)), .fz (dayD es), .own (.lst [.str sDay]), x5, .non, .non] := by
          cases x4 with
          | bor o => exact absurd rfl (e1 o)
          | _ => simp
        have hj := e_join_l (a := sSp) (ys := sDay :: es.flatMap Ev.words) (Nat.le_trans (line_len ok.nm ok.p12 o1 o2) (by decide))
        have hln : Txt.join sSp (sDay :: es.flatMap Ev.words) = line es := rfl
        rw [hln] at hj
        have ht : (lines p (done ++ [es])).map D.str = (lines p done).map D.str ++ [.str (line es)] := by simp [lines]
        have dl : (lines p done).length < 16777216 := by have := congrArg List.length e4; have := ok.most; simp [lines] at *; omega
        refine ⟨_, [.fz (.int p), .fz T, .own (.lst ((lines p (done ++ [es])).map D.str)), .fz (dayD es), .own (.lst ((sDay :: es.flatMap Ev.words).map D.str)), x5', .non, .non], hset, ?_, done ++ [es], rs, .fz (dayD es), .own (.lst ((sDay :: es.flatMap Ev.words).map D.str)), x5', (fun o => nofun), (fun o => nofun), f0, rfl, by rw [← e4]; simp, rfl⟩
        rw [ht]
        generalize line es = Ln at hj
        have dl' : ((lines p done).map D.str).length < 16777216 := by rw [List.length_map]; exact dl
        generalize (lines p done).map D.str = LS at f1 dl' hset4
        generalize (sDay :: es.flatMap Ev.words).map D.str = WD at f1 hj
        generalize sSp = SP at hj
        unfold dayD at f1 hset4 ⊢
        generalize sDay = DY at f1 hset4
        simp [hset4, f1, hj, dl', -e_setS])
    (ds.map dayD) [.fz (.int p), .fz T, .own (.lst [.str (lockL p)]), .non, .non, .non, .non, .non] ⟨[], ds, .non, .non, .non, (fun o => nofun), (fun o => nofun), (fun o => nofun), rfl, rfl, rfl⟩
  have : rs = [] := by simpa using e3.symm
  subst this e5
  rw [List.append_nil] at e4
  subst e4
  exact ⟨x3, x4, x5, e0, e1, e2, e6⟩
theorem law_text {p : Int} {ws : List Str} {ds : List (List Ev)} (ok : okLog p ws ds) : R_law_text [.fz (.int p), .fz (daysD ds)] = .ret (.fz (.str (text p ds))) [.fz (.int p), .fz (daysD ds)] := by
  obtain ⟨x3, x4, x5, e0, e1, e2, e3⟩ := lt_days (T := daysD ds) ok
  have hp := str_num (k := p) (by have := ok.p2; omega) (by have := ok.p12; omega)
  have hll := lines_len ok (lockL p) (List.mem_cons_self ..)
  have hla : sLockSp.length + (num p).length ≤ 16777216 := by have : (lockL p).length = sLockSp.length + (num p).length := len_app _ _; omega
  have hj := e_join_l (a := sE) (ys := (lines p ds).map (· ++ sNl)) (text_len ok)
  have htx : Txt.join sE ((lines p ds).map (· ++ sNl)) = text p ds := rfl
  rw [htx] at hj
  have hn := nl_map 2 7 (fr := [.fz (.int p), .fz (daysD ds), .fz (.lst ((lines p ds).map D.str)), x3, x4, x5, .non, .non]) (frv := [.fz (.int p), .fz (daysD ds), .fz (.lst ((lines p ds).map D.str)), x3, x4, x5, .non, .non]) (ls := lines p ds) (fun s => ⟨rfl, rfl, rfl, rfl⟩) (lines_len ok) (by have := ok.most; simp [lines]; omega)
  have c1 : D.str (Str.ofString "lock ") = D.str sLockSp := rfl
  have c2 : D.str (Str.ofString "day") = D.str sDay := rfl
  have c3 : D.str (Str.ofString " ") = D.str sSp := rfl
  have c4 : D.str (Str.ofString "") = D.str sE := rfl
  have c5 : D.str (Str.ofString "\n") = D.str sNl := rfl
  unfold R_law_text b_law_text
  rw [c1, c2, c3, c4, c5]
  have hdd : itemsOf (daysD ds) = some (ds.map dayD) := rfl
  generalize daysD ds = T at e3 hn hdd ⊢
  generalize ((lines p ds).map (· ++ sNl)).map D.str = LN at hn hj
  generalize (lines p ds).map D.str = LS at hn e3
  have hlk : sLockSp ++ num p = lockL p := rfl
  generalize text p ds = TX at hj ⊢
  generalize lockL p = LK at e3 hlk
  generalize num p = NP at hp hla hlk
  generalize sLockSp = LSP at hla hlk ⊢
  generalize sDay = DY at e3 ⊢
  generalize sSp = SP at e3 ⊢
  generalize sE = EE at hj ⊢
  generalize sNl = NL at hn ⊢
  simp [hp, hla, hlk, hdd, e3, hn, hj, -e_str_i]
end MP
set_option Elab.async false
set_option linter.all false
set_option maxRecDepth 100000
set_option maxHeartbeats 2000000
namespace MP
open PySem PySem.Spec L2
theorem lg_words {p : Int} {ws : List Str} {S0 S1 S2 S5 : Sl} (hw : ∀ w ∈ ws, nameOk w) (hp : p ≤ 12) : ∀ (es : List Ev) (acc : List D), (∀ e ∈ es, okEv p ws e) → acc.length + es.length * 4 ≤ 16777216 →
    lc2L (gN 3) sYes (iAnyF (sVar 3)) (gN 4) sYes (sB (gOne strD) (sCons (sVar 4) sNil)) [3, 4] [4] (es.map Ev.d) acc [S0, S1, S2, .non, .non, S5] = .ok (acc ++ (es.flatMap Ev.words).map D.str) [S0, S1, S2, .non, .non, S5]
  | [], acc, he, hz => by simp [lc2L]
  | e :: es, acc, he, hz => by
    have oke := he e (List.mem_cons_self ..)
    have it := items_str hp oke
    have iw := items_words e
    have wl := (word_len hw hp oke).1
    have il : e.items.length ≤ 4 := by rw [← List.length_map (f := strOf), iw, List.length_map]; exact wl
    have il2 : e.words.length = e.items.length := by rw [← List.length_map (f := D.str), ← iw, List.length_map]
    have hm := lcL_map (tg := gN 4) (el := sB (gOne strD) (sCons (sVar 4) sNil)) (vs := [4]) (fr := [S0, S1, S2, .fz (.tup e.items), .non, S5]) strOf (ds := e.items) (fun d hd =>
      ⟨[S0, S1, S2, .fz (.tup e.items), .fz d, S5], .vl (.fz (strOf d)), [S0, S1, S2, .fz (.tup e.items), .fz d, S5], [S0, S1, S2, .fz (.tup e.items), .fz d, S5], rfl, by simp [it d hd], rfl, rfl, rfl⟩) acc (by simp at hz ⊢; omega)
    have ih := lg_words (S0 := S0) (S1 := S1) (S2 := S2) (S5 := S5) hw hp es (acc ++ e.items.map strOf) (fun x hx => he x (List.mem_cons_of_mem _ hx)) (by simp at hz ⊢; omega)
    rw [List.map_cons, ev_items]
    unfold lc2L
    have e1 : gN 3 (.tup e.items) [S0, S1, S2, .non, .non, S5] = some [S0, S1, S2, .fz (.tup e.items), .non, S5] := rfl
    have e2 : iAnyF (sVar 3) [S0, S1, S2, .fz (.tup e.items), .non, S5] = .ok e.items [S0, S1, S2, .fz (.tup e.items), .non, S5] := rfl
    have e3 : noBor [S0, S1, S2, .fz (.tup e.items), .non, S5] [4] = true := rfl
    have e4 : wipeF [S0, S1, S2, .fz (.tup e.items), .non, S5] [4] = [S0, S1, S2, .fz (.tup e.items), .non, S5] := rfl
    have e5 : noBor [S0, S1, S2, .fz (.tup e.items), .non, S5] [3, 4] = true := rfl
    have e6 : wipeF [S0, S1, S2, .fz (.tup e.items), .non, S5] [3, 4] = [S0, S1, S2, .non, .non, S5] := rfl
    have e0 : ∀ f, sYes f = .ok true f := fun f => rfl
    simp only [e1, e0, e2, e3, if_true, e4, hm, e5, e6, ih]
    simp [iw]
theorem lg_days {p : Int} {ws : List Str} {ds : List (List Ev)} {S0 : Sl} (ok : okLog p ws ds) :
    ∃ x2 : Sl, (∀ o, x2 ≠ .bor o) ∧ forL (gN 2) (sExpr (sW "list" appG (sVar 1) (sCons (sM "str" joinG (sC (.str sSp)) (sCons (sBin addD (sLst (sCons (sC (.str sDay)) sNil)) (sLc2 (iAnyF (sVar 2)) (gN 3) sYes (iAnyF (sVar 3)) (gN 4) sYes (sB (gOne strD) (sCons (sVar 4) sNil)) [3, 4] [4])) sNil)) sNil))) (ds.map dayD)
      [S0, .own (.lst [.str (lockL p)]), .non, .non, .non, .non] = .nx [S0, .own (.lst ((lines p ds).map D.str)), x2, .non, .non, .non] := by
  obtain ⟨fr, ⟨done, rs, x2, e0, e3, e4, e5⟩, e6⟩ := forL_P (tg := gN 2) (body := sExpr (sW "list" appG (sVar 1) (sCons (sM "str" joinG (sC (.str sSp)) (sCons (sBin addD (sLst (sCons (sC (.str sDay)) sNil)) (sLc2 (iAnyF (sVar 2)) (gN 3) sYes (iAnyF (sVar 3)) (gN 4) sYes (sB (gOne strD) (sCons (sVar 4) sNil)) [3, 4] [4])) sNil)) sNil)))
    (fun rest fr => ∃ (done rs : List (List Ev)) (x2 : Sl), (∀ o, x2 ≠ .bor o) ∧ rest = rs.map dayD ∧ done ++ rs = ds ∧ fr = [S0, .own (.lst ((lines p done).map D.str)), x2, .non, .non, .non])
    (fun d rest fr ⟨done, rs, x2, e0, e3, e4, e5⟩ => by
      subst e5
      cases rs with
      | nil => cases e3
      | cons es rs =>
        cases e3
        obtain ⟨o1, o2⟩ := ok.ev es (by rw [← e4]; simp)
        have hset : gN 2 (dayD es) [S0, .own (.lst ((lines p done).map D.str)), x2, .non, .non, .non] = some [S0, .own (.lst ((lines p done).map D.str)), .fz (dayD es), .non, .non, .non] := by
          cases x2 with
          | bor o => exact absurd rfl (e0 o)
          | _ => simp
        have hj := e_join_l (a := sSp) (ys := sDay :: es.flatMap Ev.words) (Nat.le_trans (line_len ok.nm ok.p12 o1 o2) (by decide))
        have hln : Txt.join sSp (sDay :: es.flatMap Ev.words) = line es := rfl
        rw [hln, List.map_cons] at hj
        have hc := lg_words (S0 := S0) (S1 := .own (.lst ((lines p done).map D.str))) (S2 := .fz (dayD es)) (S5 := .non) ok.nm ok.p12 es [] o2 (by simp; omega)
        rw [List.nil_append] at hc
        have wl := (words_len ok.nm ok.p12 o2).1
        have hz : 1 + ((es.flatMap Ev.words).map D.str).length ≤ 16777216 := by rw [List.length_map]; omega
        have ht : (lines p (done ++ [es])).map D.str = (lines p done).map D.str ++ [.str (line es)] := by simp [lines]
        have dl : (lines p done).length < 16777216 := by have := congrArg List.length e4; have := ok.most; simp [lines] at *; omega
        refine ⟨_, [S0, .own (.lst ((lines p (done ++ [es])).map D.str)), .fz (dayD es), .non, .non, .non], hset, ?_, done ++ [es], rs, .fz (dayD es), (fun o => nofun), rfl, by rw [← e4]; simp, rfl⟩
        rw [ht]
        generalize line es = Ln at hj
        have dl' : ((lines p done).map D.str).length < 16777216 := by rw [List.length_map]; exact dl
        generalize (lines p done).map D.str = LS at hc dl'
        generalize (es.flatMap Ev.words).map D.str = WD at hc hj hz
        generalize sSp = SP at hj
        have hdd : itemsOf (dayD es) = some (es.map Ev.d) := rfl
        generalize dayD es = DD at hc hdd
        generalize sDay = DY at hj
        have hz' : WD.length + 1 ≤ 16777216 := by omega
        simp [hdd, hc, hj, dl', hz, hz'])
    (ds.map dayD) [S0, .own (.lst [.str (lockL p)]), .non, .non, .non, .non] ⟨[], ds, .non, (fun o => nofun), rfl, rfl, rfl⟩
  have : rs = [] := by simpa using e3.symm
  subst this e5
  rw [List.append_nil] at e4
  subst e4
  exact ⟨x2, e0, e6⟩
@[simp] theorem e_jL_nil {acc : Str} {fr : Fm} : jL acc [] fr = .ok (.vl (.fz (.str acc))) fr := id rfl
@[simp] theorem e_jL_cons {acc : Str} {f : Fm → Out Opn} {fs : List (Fm → Out Opn)} {fr : Fm} : jL acc (f :: fs) fr = (f fr).bind fun p fr1 => match cont fr1 p with
    | some (.str y) => if (acc ++ y).length ≤ sizeLine then jL (acc ++ y) fs fr1 else .bad
    | _ => .bad := id rfl
theorem lock_eq (n : Str) : ((Str.empty ++ sLock) ++ sSp) ++ n = sLockSp ++ n := by
  apply tl_ext
  rw [tl_app, tl_app, tl_app, tl_app]
  congr 1
theorem log_text {p : Int} {ws : List Str} {ds : List (List Ev)} (ok : okLog p ws ds) {v : Val} (hv : v = .fz (logD p ds) ∨ v = .own (logO p ds)) : R_log_text [v] = .ret (.fz (.str (text p ds))) [v] := by
  obtain ⟨x2, e0, e3⟩ := lg_days (S0 := slOf v) ok
  have i1 := check_log hv
  have hp := fmt_num (k := p) (by have := ok.p2; omega) (by have := ok.p12; omega)
  have hll := lines_len ok (lockL p) (List.mem_cons_self ..)
  have hlk : ((Str.empty ++ sLock) ++ sSp) ++ num p = lockL p := lock_eq (num p)
  have l5 : (lockL p).length ≤ 16777216 := by omega
  have l1 : (((Str.empty ++ sLock) ++ sSp) ++ num p).length ≤ 16777216 := by rw [hlk]; omega
  have l2 : ((Str.empty ++ sLock) ++ sSp).length ≤ 16777216 := by rw [len_app] at l1; omega
  have l3 : (Str.empty ++ sLock).length ≤ 16777216 := by rw [len_app] at l2; omega
  have l4 : sLock.length ≤ 16777216 := by rw [len_app] at l3; omega
  have hj := e_join_l (a := sE) (ys := (lines p ds).map (· ++ sNl)) (text_len ok)
  have htx : Txt.join sE ((lines p ds).map (· ++ sNl)) = text p ds := rfl
  rw [htx] at hj
  have hn := nl_map 1 5 (fr := [slOf v, .fz (.lst ((lines p ds).map D.str)), x2, .non, .non, .non]) (frv := [slOf v, .fz (.lst ((lines p ds).map D.str)), x2, .non, .non, .non]) (ls := lines p ds) (fun s => ⟨rfl, rfl, rfl, rfl⟩) (lines_len ok) (by have := ok.most; simp [lines]; omega)
  have c1 : D.str (Str.ofString "lock") = D.str sLock := rfl
  have c2 : D.str (Str.ofString "day") = D.str sDay := rfl
  have c3 : D.str (Str.ofString " ") = D.str sSp := rfl
  have c4 : D.str (Str.ofString "") = D.str sE := rfl
  have c5 : D.str (Str.ofString "\n") = D.str sNl := rfl
  have c6 : Str.ofString "parts" = sParts := rfl
  have c7 : Str.ofString "days" = sDays := rfl
  unfold R_log_text b_log_text
  rw [c1, c2, c3, c4, c5, c6, c7]
  have hdd : itemsOf (daysD ds) = some (ds.map dayD) := rfl
  generalize ((lines p ds).map (· ++ sNl)).map D.str = LN at hn hj
  generalize (lines p ds).map D.str = LS at hn e3
  generalize text p ds = TX at hj ⊢
  generalize lockL p = LK at e3 hlk l5
  generalize num p = NP at hp hlk l1
  generalize sLock = SL at hlk l1 l2 l3 l4 ⊢
  generalize sSp = SP at e3 hlk l1 l2 ⊢
  generalize Str.empty = ST at hlk l1 l2 l3 ⊢
  generalize sDay = DY at e3 ⊢
  generalize sE = EE at hj ⊢
  generalize sNl = NL at hn ⊢
  have lp : lookD [sParts, sDays] [.int p, daysD ds] sParts = some (.int p) := look_p
  have ld : lookD [sParts, sDays] [.int p, daysD ds] sDays = some (daysD ds) := look_d
  rcases hv with rfl | rfl
  · unfold logD at i1 e3 hn ⊢
    generalize sParts = PA at lp ld i1 e3 hn ⊢
    generalize sDays = DA at lp ld i1 e3 hn ⊢
    generalize daysD ds = T at lp ld i1 e3 hn hdd ⊢
    simp at i1 e3 hn
    simp [i1, hp, l1, l2, l3, l4, l5, hlk, lp, ld, hdd, e3, hn, hj, -e_fmt_i]
  · unfold logO at i1 e3 hn ⊢
    generalize sParts = PA at lp ld i1 e3 hn ⊢
    generalize sDays = DA at lp ld i1 e3 hn ⊢
    generalize daysD ds = T at lp ld i1 e3 hn hdd ⊢
    simp at i1 e3 hn
    simp [i1, hp, l1, l2, l3, l4, l5, hlk, lp, ld, hdd, e3, hn, hj, -e_fmt_i]
end MP
set_option Elab.async false
set_option linter.all false
set_option maxRecDepth 100000
set_option maxHeartbeats 2000000
namespace MP
open PySem PySem.Spec L2
def sDig : Str := "0123456789"
def sZero : Str := "0"
theorem num_facts : ∀ k : Nat, k < 13 → 1 ≤ (num k).length ∧ (num k).length ≤ 2 ∧ ((num k).cps.toList.all fun c => sDig.cps.toList.contains c) = true ∧ (((num k).cps.toList.head?.map sg == some sZero) && decide (1 < (num k).length)) = false ∧ PySem.intText? (num k) = some (k : Int) := by decide +kernel
theorem integer_of {k : Nat} (h : k < 13) : R_integer_of [.fz (.str (num k))] = .ret (.fz (.int k)) [.fz (.str (num k))] := by
  obtain ⟨f1, f2, f3, f4, f5⟩ := num_facts k h
  generalize num k = z at f1 f2 f3 f4 f5
  have c1 : D.str (Str.ofString "0123456789") = D.str sDig := rfl
  have c2 : D.str (Str.ofString "0") = D.str sZero := rfl
  unfold R_integer_of b_integer_of
  rw [c1, c2]
  have hS : ∀ d ∈ signs z, ∃ c, inG false d (.str sDig) = some (.fz (.bl true)) ∧ d = .str (sg c) := fun d hd => by
    obtain ⟨c, h1, rfl⟩ := signs_mem hd
    refine ⟨c, in_sg ?_, rfl⟩
    have := List.all_eq_true.mp f3 c h1
    simpa using this
  have hl : (signs z).length ≤ 2 := by unfold signs; rw [List.length_map, len_tl]; exact f2
  generalize sDig = L at hS ⊢
  have hm := lcL_map (tg := gN 1) (el := sBin (inG false) (sVar 1) (sC (.str L))) (vs := [1]) (fr := [.fz (.str z), .non]) (fun _ => .bl true) (ds := signs z) (fun d hd => by
    obtain ⟨c, h1, rfl⟩ := hS d hd
    exact ⟨[.fz (.str z), .fz (.str (sg c))], .vl (.fz (.bl true)), [.fz (.str z), .fz (.str (sg c))], [.fz (.str z), .fz (.str (sg c))], rfl, by simp [h1], rfl, rfl, rfl⟩) [] (by simp; omega)
  have ha := all_true (signs z)
  rw [List.nil_append] at hm
  generalize (signs z).map (fun _ => D.bl true) = C at hm ha
  have h1 : (1 : Int) ≤ z.length := by omega
  have h1' : 1 ≤ z.length := f1
  have h2 : (z.length : Int) ≤ 9 := by omega
  have h2' : z.length ≤ 9 := by omega
  have h3 : z.length ≤ 16777216 := by omega
  have hi : intD (.str z) = some (.fz (.int k)) := by
    show (if z.length ≤ 640 then (PySem.intText? z).map fun n => Val.fz (.int n) else none) = _
    rw [if_pos (by omega), f5]
    rfl
  obtain ⟨c, hc⟩ : ∃ c, z.cps.toList[0]? = some c := ⟨z.cps.toList[0]'(by rw [len_tl]; omega), List.getElem?_eq_getElem _⟩
  have hx : ixG (.str z) (.int 0) = some (.fz (.str (sg c))) := by
    rw [e_ix_s, if_pos (by rw [z_line]; exact h3), atI_0, hc]
    rfl
  rw [List.head?_eq_getElem?, hc, Option.map_some] at f4
  by_cases e : sg c = sZero
  · have hlen : ¬ 1 < z.length := by
      intro q
      rw [e] at f4
      simp [q] at f4
    have hlen' : ¬ (1 : Int) < z.length := by omega
    generalize sg c = t at hx e
    generalize sZero = Z at e ⊢
    simp [h1, h1', h2, h2', h3, hm, ha, hx, e, hlen, hlen', hi, -e_ix_s]
  · generalize sg c = t at hx e
    generalize sZero = Z at e ⊢
    simp [h1, h1', h2, h2', h3, hm, ha, hx, e, hi, -e_ix_s]
end MP
set_option Elab.async false
set_option linter.all false
set_option maxRecDepth 100000
set_option maxHeartbeats 2000000
namespace MP
open PySem PySem.Spec L2
/-- how many words an event has -/
def Ev.many : Ev → Nat
  | .seen _ _ => 3
  | .pair _ _ _ => 4
theorem seen_len : (Str.ofString "seen") = sSeen := rfl
theorem read_event {p : Int} {ws : List Str} {e : Ev} (hw : ∀ w ∈ ws, nameOk w) (hp : p ≤ 12) (h : okEv p ws e) (rest : List Str) {v : Val} (hv : v = .own (.lst ((e.words ++ rest).map D.str))) : R_read_event [v] = .ret (.fz (.tup [e.d, .int e.many])) [v] := by
  subst hv
  have c1 : D.str (Str.ofString "seen") = D.str sSeen := rfl
  have c2 : D.str (Str.ofString "pair") = D.str sPair := rfl
  have ne : ¬ sSeen = sPair := by decide +kernel
  unfold R_read_event b_read_event
  rw [c1, c2]
  cases e with
  | seen a k =>
    have i1 := is_name (hw a h.1)
    have i2 := integer_of (k := k) (by have := h.2; omega)
    unfold Ev.words Ev.d Ev.many
    generalize sSeen = SE at ne ⊢
    generalize sPair = PA at ne ⊢
    have hl : (3 : Int) ≤ (rest.length : Int) + 1 + 1 + 1 := by omega
    simp [i1, i2, ne, hl]
  | pair a b k =>
    have i1 := is_name (hw a h.1)
    have i3 := is_name (hw b h.2.1)
    have i2 := integer_of (k := k) (by have := h.2.2.2; omega)
    unfold Ev.words Ev.d Ev.many
    generalize sSeen = SE at ne ⊢
    generalize sPair = PA at ne ⊢
    have hl : (4 : Int) ≤ (rest.length : Int) + 1 + 1 + 1 + 1 := by omega
    simp [i1, i2, i3, hl]
end MP
set_option Elab.async false
set_option linter.all false
set_option maxRecDepth 100000
set_option maxHeartbeats 2000000
namespace MP
open PySem PySem.Spec L2
/-- no blank, no line feed -/
def plain (z : Str) : Prop := 32 ∉ z.cps.toList ∧ 10 ∉ z.cps.toList
theorem plain_lets {z : Str} (h : lets z) : plain z := by
  constructor
  · intro hc
    have := h _ hc
    rw [abc_cs] at this
    simp at this
  · intro hc
    have := h _ hc
    rw [abc_cs] at this
    simp at this
theorem plain_num {k : Nat} (h : k < 13) : plain (num k) := by
  have : ∀ k : Nat, k < 13 → ((num k).cps.toList.contains 32 || (num k).cps.toList.contains 10) = false := by decide +kernel
  have := this k h
  rw [Bool.or_eq_false_iff] at this
  constructor
  · intro hc; have h1 := this.1; simp at h1; exact h1 (by simpa using hc)
  · intro hc; have h1 := this.2; simp at h1; exact h1 (by simpa using hc)
theorem plain_seen : plain sSeen := by unfold plain; decide +kernel
theorem plain_pair : plain sPair := by unfold plain; decide +kernel
theorem plain_day : plain sDay := by unfold plain; decide +kernel
theorem plain_lock : plain sLock := by unfold plain; decide +kernel
theorem plain_words {p : Int} {ws : List Str} {e : Ev} (hw : ∀ w ∈ ws, nameOk w) (hp : p ≤ 12) (h : okEv p ws e) : ∀ w ∈ e.words, plain w := by
  intro w hm
  cases e with
  | seen a k =>
    simp only [Ev.words, List.mem_cons, List.not_mem_nil, or_false] at hm
    rcases hm with rfl | rfl | rfl
    · exact plain_seen
    · exact plain_lets (hw _ h.1).2.2
    · exact plain_num (by have := h.2; omega)
  | pair a b k =>
    simp only [Ev.words, List.mem_cons, List.not_mem_nil, or_false] at hm
    rcases hm with rfl | rfl | rfl | rfl
    · exact plain_pair
    · exact plain_lets (hw _ h.1).2.2
    · exact plain_lets (hw _ h.2.1).2.2
    · exact plain_num (by have := h.2.2.2; omega)
theorem sp_tl : TL.tl sSp = [32] := by decide +kernel
theorem nl_tl : TL.tl sNl = [10] := by decide +kernel
theorem split_sp {ys : List Str} (hn : ys ≠ []) (h : ∀ y ∈ ys, plain y) : Txt.split (Txt.join sSp ys) sSp = ys :=
  TL.split_join sp_tl (by decide +kernel) hn fun y hy => (h y hy).1
theorem split_nl {ys : List Str} (hn : ys ≠ []) (h : ∀ y ∈ ys, 10 ∉ y.cps.toList) : Txt.split (Txt.join sNl ys) sNl = ys :=
  TL.split_join nl_tl (by decide +kernel) hn fun y hy => h y hy
theorem cut_from {α : Type} (xs ys : List α) (n : Nat) (h : n = xs.length) : cutD (xs ++ ys) (some (n : Int)) none = ys := by
  unfold cutD
  rw [HT.sIx_nat, HT.sIx_none, h, List.length_append, Nat.min_eq_left (by omega), List.drop_left, Nat.add_sub_cancel_left, List.take_length]
theorem many_len (e : Ev) : e.many = (e.words.map D.str).length := by cases e <;> rfl
theorem read_day {p : Int} {ws : List Str} {es : List Ev} (hw : ∀ w ∈ ws, nameOk w) (hp : p ≤ 12) (h : ∀ e ∈ es, okEv p ws e) (hl : es.length ≤ 12) : R_read_day [.fz (.str (line es))] = .ret (.fz (dayD es)) [.fz (.str (line es))] := by
  have hpl : ∀ y ∈ sDay :: es.flatMap Ev.words, plain y := fun y hy => by
    rcases List.mem_cons.mp hy with rfl | hy
    · exact plain_day
    · obtain ⟨e, h1, h2⟩ := List.mem_flatMap.mp hy
      exact plain_words hw hp (h e h1) y h2
  have hs : Txt.split (line es) sSp = sDay :: es.flatMap Ev.words := split_sp (by simp) hpl
  have hll := Nat.le_trans (join_len sSp (sDay :: es.flatMap Ev.words)) (line_len hw hp hl h)
  have hsl : sSp.length = 1 := by decide +kernel
  have hg : splitG (.str (line es)) [.str sSp] = some (.own (.lst ((sDay :: es.flatMap Ev.words).map D.str))) := by
    show (if sSp.length ≠ 0 ∧ (line es).length + 2 ≤ sizeLine then some (Val.own (.lst ((Txt.split (line es) sSp).map D.str))) else none) = _
    rw [if_pos ⟨by omega, by rw [z_line]; exact Nat.le_trans (Nat.add_le_add_right hll 2) (by decide)⟩, hs]
  have hc : cutD ((sDay :: es.flatMap Ev.words).map D.str) (some 1) none = (es.flatMap Ev.words).map D.str := cut_from [D.str sDay] _ 1 rfl
  have c1 : D.str (Str.ofString " ") = D.str sSp := rfl
  have c2 : D.str (Str.ofString "day") = D.str sDay := rfl
  unfold R_read_day b_read_day
  rw [c1, c2]
  have hw0 : ((sDay :: es.flatMap Ev.words).map D.str)[0]? = some (.str sDay) := rfl
  generalize (sDay :: es.flatMap Ev.words).map D.str = WD at hg hc hw0
  generalize line es = LN at hg ⊢
  generalize sSp = SP at hg ⊢
  generalize sDay = DY at hw0 ⊢
  obtain ⟨fr, ⟨done, rs, x4, e0, e1, e2, e3⟩, e4⟩ := whL_P (c := sTst (sBin (gI0 fun i j => .bl (decide (j < i))) (sB (gOne lenD) (sCons (sVar 2) sNil)) (sC (.int 0)))) (body := sSeq (sSet 4 (sCall R_read_event (sCons (sVar 2) sNil))) (sSeq (sIfS (sTst (sBin (gIs false) (sVar 4) (sC .non))) (sRet (sC .non)) sSkip) (sSeq (sExpr (sW "list" appG (sVar 3) (sCons (sBin ixG (sVar 4) (sC (.int 0))) sNil))) (sSet 2 (sSl slG (sVar 2) (sP1 (sBin ixG (sVar 4) (sC (.int 1)))) sP0)))))
    (fun n fr => ∃ (done rs : List Ev) (x4 : Sl), (x4 = .non ∨ ∃ d, x4 = .fz d) ∧ done ++ rs = es ∧ rs.length = n ∧ fr = [.fz (.str LN), .own (.lst WD), .own (.lst ((rs.flatMap Ev.words).map D.str)), .own (.lst (done.map Ev.d)), x4])
    (fun n fr ⟨done, rs, x4, e0, e1, e2, e3⟩ => by
      subst e3
      cases rs with
      | nil => exact .inl ⟨[.fz (.str LN), .own (.lst WD), .own (.lst []), .own (.lst (done.map Ev.d)), x4], by simp, done, [], x4, e0, e1, rfl, rfl⟩
      | cons e rs =>
        have oke := h e (by rw [← e1]; simp)
        have re := read_event hw hp oke (rs.flatMap Ev.words) (v := .own (.lst (((e :: rs).flatMap Ev.words).map D.str))) (by simp)
        have hcut : cutD (((e :: rs).flatMap Ev.words).map D.str) (some (e.many : Int)) none = (rs.flatMap Ev.words).map D.str := by
          rw [List.flatMap_cons, List.map_append]
          exact cut_from _ _ _ (many_len e)
        have hpos : 0 < (((e :: rs).flatMap Ev.words).map D.str).length := by cases e <;> simp [Ev.words]
        have dl : (done.map Ev.d).length < 16777216 := by have := congrArg List.length e1; simp at this ⊢; omega
        have hset : setS [.fz (.str LN), .own (.lst WD), .own (.lst (((e :: rs).flatMap Ev.words).map D.str)), .own (.lst (done.map Ev.d)), x4] 4 (.fz (.tup [e.d, .int e.many])) = some [.fz (.str LN), .own (.lst WD), .own (.lst (((e :: rs).flatMap Ev.words).map D.str)), .own (.lst (done.map Ev.d)), .fz (.tup [e.d, .int e.many])] := by
          rcases e0 with rfl | ⟨d, rfl⟩ <;> simp
        have hbk : ∀ os, back1 [.sl 2] os 4 x4 = x4 := fun os => by
          rcases e0 with rfl | ⟨d, rfl⟩ <;> rfl
        refine .inr ⟨[.fz (.str LN), .own (.lst WD), .own (.lst (((e :: rs).flatMap Ev.words).map D.str)), .own (.lst (done.map Ev.d)), x4], [.fz (.str LN), .own (.lst WD), .own (.lst ((rs.flatMap Ev.words).map D.str)), .own (.lst ((done ++ [e]).map Ev.d)), .fz (.tup [e.d, .int e.many])], rs.length, ?_, ?_, by simp at e2; omega, done ++ [e], rs, .fz (.tup [e.d, .int e.many]), .inr ⟨_, rfl⟩, by rw [← e1]; simp, rfl, rfl⟩
        · generalize ((e :: rs).flatMap Ev.words).map D.str = Q at hpos
          have hp' : (0 : Int) < Q.length := by omega
          have hq : Q ≠ [] := List.length_pos_iff.mp hpos
          simp [hpos, hq]
        · have ht : (done ++ [e]).map Ev.d = done.map Ev.d ++ [e.d] := by simp
          rw [ht]
          generalize ((e :: rs).flatMap Ev.words).map D.str = Q at re hcut hset
          generalize (rs.flatMap Ev.words).map D.str = Q2 at hcut ⊢
          generalize done.map Ev.d = DN at dl hset ⊢
          generalize e.d = ED at re hset ⊢
          generalize e.many = EM at re hcut hset ⊢
          have hset2 : setS [.fz (.str LN), .own (.lst WD), .own (.lst Q), .own (.lst (DN ++ [ED])), .fz (.tup [ED, .int EM])] 2 (.own (.lst Q2)) = some [.fz (.str LN), .own (.lst WD), .own (.lst Q2), .own (.lst (DN ++ [ED])), .fz (.tup [ED, .int EM])] := by simp
          simp [re, hbk, hset, hset2, dl, hcut, -e_setS])
    100 es.length [.fz (.str LN), .own (.lst WD), .own (.lst ((es.flatMap Ev.words).map D.str)), .own (.lst []), .non] (by omega) ⟨[], es, .non, .inl rfl, rfl, rfl, rfl⟩
  subst e3
  have : rs = [] := List.length_eq_zero_iff.mp e2
  subst this
  rw [List.append_nil] at e1
  subst e1
  generalize (done.flatMap Ev.words).map D.str = Q at hc e4
  unfold dayD
  simp [hg, hw0, hc, e4]
end MP
set_option Elab.async false
set_option linter.all false
set_option maxRecDepth 100000
set_option maxHeartbeats 2000000
namespace MP
open PySem PySem.Spec L2
theorem locksp : TL.tl sLockSp = TL.tl sLock ++ [32] := by decide +kernel
theorem lockL_join (p : Int) : lockL p = Txt.join sSp [sLock, num p] := by
  apply tl_ext
  unfold lockL
  rw [tl_app, TL.join_eq]
  show TL.tl sLockSp ++ TL.tl (num p) = TL.tl (Str.join sSp [sLock, num p])
  rw [TL.tl_join, locksp, sp_tl]
  show (TL.tl sLock ++ [32]) ++ TL.tl (num p) = TL.tl sLock ++ ([32] ++ TL.tl (num p))
  rw [List.append_assoc]
theorem read_lock {k : Nat} (h : k < 13) : R_read_lock [.fz (.str (lockL k))] = .ret (.fz (.int k)) [.fz (.str (lockL k))] := by
  have hs : Txt.split (lockL k) sSp = [sLock, num k] := by
    rw [lockL_join]
    exact split_sp (by simp) fun y hy => by
      simp only [List.mem_cons, List.not_mem_nil, or_false] at hy
      rcases hy with rfl | rfl
      · exact plain_lock
      · exact plain_num h
  have hsl : sSp.length = 1 := by decide +kernel
  have hlk : sLockSp.length = 5 := by decide +kernel
  have hnl := num_len k h
  have hll : (lockL k).length + 2 ≤ 16777216 := by
    have : (lockL k).length = sLockSp.length + (num k).length := len_app _ _
    omega
  have hg : splitG (.str (lockL k)) [.str sSp] = some (.own (.lst [.str sLock, .str (num k)])) := by
    show (if sSp.length ≠ 0 ∧ (lockL k).length + 2 ≤ sizeLine then some (Val.own (.lst ((Txt.split (lockL k) sSp).map D.str))) else none) = _
    rw [if_pos ⟨by omega, by rw [z_line]; exact hll⟩, hs]
    rfl
  have i1 := integer_of h
  have c1 : D.str (Str.ofString " ") = D.str sSp := rfl
  have c2 : D.str (Str.ofString "lock") = D.str sLock := rfl
  unfold R_read_lock b_read_lock
  rw [c1, c2]
  generalize lockL k = LK at hg ⊢
  generalize sSp = SP at hg ⊢
  generalize sLock = SL at hg ⊢
  simp [hg, i1]
theorem joinL_nl : ∀ ls : List (List Nat), TL.joinL [10] (ls ++ [[]]) = (ls.map (· ++ [10])).flatten
  | [] => rfl
  | [x] => by simp [TL.joinL]
  | x :: y :: ls => by
    have ih := joinL_nl (y :: ls)
    show x ++ ([10] ++ TL.joinL [10] (y :: (ls ++ [[]]))) = _
    have e : y :: (ls ++ [[]]) = (y :: ls) ++ [[]] := rfl
    rw [e, ih]
    simp
theorem text_join (p : Int) (ds : List (List Ev)) : text p ds = Txt.join sNl (lines p ds ++ [sE]) := by
  apply tl_ext
  unfold text
  have e0 := join_empty ((lines p ds).map (· ++ sNl))
  have : Txt.join sE ((lines p ds).map (· ++ sNl)) = Txt.join (Str.ofString "") ((lines p ds).map (· ++ sNl)) := rfl
  rw [this, e0, TL.join_eq]
  show _ = TL.tl (Str.join sNl (lines p ds ++ [sE]))
  have es : TL.tl sE = [] := by decide +kernel
  rw [TL.tl_join, nl_tl, List.map_append, List.map_cons, List.map_nil, es, joinL_nl, List.map_map, List.map_map]
  congr 1
  apply List.map_congr_left
  intro l _
  show (l ++ sNl).cps.toList = TL.tl l ++ [10]
  rw [tl_app]
  have := nl_tl
  unfold TL.tl at this ⊢
  rw [this]
theorem plain10_join {ys : List Str} (h : ∀ y ∈ ys, plain y) : 10 ∉ (Txt.join sSp ys).cps.toList := by
  rw [TL.join_eq]
  show 10 ∉ TL.tl (Str.join sSp ys)
  rw [TL.tl_join, sp_tl]
  induction ys with
  | nil => simp [TL.joinL]
  | cons y ys ih =>
    cases ys with
    | nil => simpa [TL.joinL] using (h y (by simp)).2
    | cons z zs =>
      have := ih fun w hw => h w (List.mem_cons_of_mem _ hw)
      have hy := (h y (List.mem_cons_self ..)).2
      show 10 ∉ TL.tl y ++ ([32] ++ TL.joinL [32] ((z :: zs).map TL.tl))
      intro hm
      rcases List.mem_append.mp hm with hm | hm
      · exact hy hm
      · rcases List.mem_append.mp hm with hm | hm
        · simp at hm
        · exact this hm
theorem text_small {p : Int} {ws : List Str} {ds : List (List Ev)} (ok : okLog p ws ds) : (text p ds).length ≤ 300000 := by
  refine Nat.le_trans (join_len _ _) ?_
  have l1 : sNl.length = 1 := by decide +kernel
  have l2 : sE.length = 0 := by decide +kernel
  have := sum_le 1001 (ys := (lines p ds).map (· ++ sNl)) fun y hy => by
    obtain ⟨l, h1, rfl⟩ := List.mem_map.mp hy
    have := lines_len ok l h1
    show (l ++ sNl).length ≤ 1001
    rw [len_app]
    omega
  have hl : ((lines p ds).map (· ++ sNl)).length ≤ 201 := by have := ok.most; simp [lines]; omega
  rw [l2]
  omega
theorem text_split {p : Int} {ws : List Str} {ds : List (List Ev)} (ok : okLog p ws ds) : splitG (.str (text p ds)) [.str sNl] = some (.own (.lst ((lines p ds ++ [sE]).map D.str))) := by
  have hsl : sNl.length = 1 := by decide +kernel
  have hs : Txt.split (text p ds) sNl = lines p ds ++ [sE] := by
    rw [text_join]
    refine split_nl (by simp) fun y hy => ?_
    rcases List.mem_append.mp hy with hy | hy
    · rcases List.mem_cons.mp hy with rfl | hy
      · obtain ⟨k, rfl⟩ := ints_ex (r := p) (by have := ok.p2; omega)
        rw [lockL_join]
        exact plain10_join fun y hy => by
          simp only [List.mem_cons, List.not_mem_nil, or_false] at hy
          rcases hy with rfl | rfl
          · exact plain_lock
          · exact plain_num (by have := ok.p12; omega)
      · obtain ⟨es, h1, rfl⟩ := List.mem_map.mp hy
        exact plain10_join fun y hy => by
          rcases List.mem_cons.mp hy with rfl | hy
          · exact plain_day
          · obtain ⟨e, h2, h3⟩ := List.mem_flatMap.mp hy
            exact plain_words ok.nm ok.p12 ((ok.ev es h1).2 e h2) y h3
    · rw [List.mem_singleton.mp hy]
      have es : TL.tl sE = [] := by decide +kernel
      show 10 ∉ TL.tl sE
      rw [es]
      simp
  show (if sNl.length ≠ 0 ∧ (text p ds).length + 2 ≤ sizeLine then some (Val.own (.lst ((Txt.split (text p ds) sNl).map D.str))) else none) = _
  rw [if_pos ⟨by omega, by rw [z_line]; have := text_small ok; omega⟩, hs]
end MP
set_option Elab.async false
set_option linter.all false
set_option maxRecDepth 100000
set_option maxHeartbeats 2000000
namespace MP
open PySem PySem.Spec L2
def NF (x : Sl) : Prop := x = .non ∨ ∃ d, x = .fz d
theorem read_log {p : Int} {ws : List Str} {ds : List (List Ev)} (ok : okLog p ws ds) : R_read_log [.fz (.str (text p ds))] = .ret (.own (logO p ds)) [.fz (.str (text p ds))] := by
  obtain ⟨k, rfl⟩ := ints_ex (r := p) (by have := ok.p2; omega)
  have hk : k < 13 := by have := ok.p12; omega
  have hg := text_split ok
  have rl := read_lock hk
  have li := log_init ok
  have hpop : popG (.lst ((lines k ds ++ [sE]).map D.str)) [] = some (.fz (.str sE), .lst ((lines k ds).map D.str)) := by
    rw [e_pop, List.map_append]
    simp
  have hcut : cutD ((lines k ds).map D.str) (some 1) none = (ds.map line).map D.str := cut_from [D.str (lockL k)] _ 1 rfl
  have h0 : ((lines k ds).map D.str)[0]? = some (.str (lockL k)) := rfl
  have hne : ¬ ((lines k ds).map D.str).length = 0 := by simp [lines]
  have hne' : (lines k ds).map D.str ≠ [] := by simp [lines]
  have c1 : D.str (Str.ofString "\n") = D.str sNl := rfl
  have c2 : D.str (Str.ofString "") = D.str sE := rfl
  unfold R_read_log b_read_log
  rw [c1, c2]
  generalize (lines k ds ++ [sE]).map D.str = L0 at hg hpop
  generalize (lines k ds).map D.str = LS at hpop hcut h0 hne hne'
  generalize text k ds = TX at hg ⊢
  generalize sNl = NL at hg ⊢
  generalize sE = EE at hpop ⊢
  generalize lockL k = LK at rl h0
  obtain ⟨fr, ⟨j, done, rs, x4, x5, x6, e0, e1, e2, e3, e4, e5⟩, e6⟩ := forL_P (tg := gT 2 (gsC (gN 4) (gsC (gN 5) gsN))) (body := sSeq (sSet 6 (sCall R_read_day (sCons (sVar 5) sNil))) (sSeq (sIfS (sTst (sBin (gIs false) (sVar 6) (sC .non))) sBad sSkip) (sExpr (sW "list" appG (sVar 3) (sCons (sVar 6) sNil)))))
    (fun rest fr => ∃ (j : Nat) (done rs : List (List Ev)) (x4 x5 x6 : Sl), NF x4 ∧ NF x5 ∧ NF x6 ∧ rest = numbered j ((rs.map line).map D.str) ∧ done ++ rs = ds ∧ fr = [.fz (.str TX), .own (.lst LS), .fz (.str EE), .own (.lst (done.map dayD)), x4, x5, x6])
    (fun d rest fr ⟨j, done, rs, x4, x5, x6, e0, e1, e2, e3, e4, e5⟩ => by
      subst e5
      cases rs with
      | nil => cases e3
      | cons es rs =>
        rw [List.map_cons, List.map_cons] at e3
        unfold numbered at e3
        cases e3
        obtain ⟨o1, o2⟩ := ok.ev es (by rw [← e4]; simp)
        have rd := read_day ok.nm ok.p12 o2 o1
        have hset : gT 2 (gsC (gN 4) (gsC (gN 5) gsN)) (.tup [.int j, .str (line es)]) [.fz (.str TX), .own (.lst LS), .fz (.str EE), .own (.lst (done.map dayD)), x4, x5, x6] = some [.fz (.str TX), .own (.lst LS), .fz (.str EE), .own (.lst (done.map dayD)), .fz (.int j), .fz (.str (line es)), x6] := by
          rcases e0 with rfl | ⟨d, rfl⟩ <;> rcases e1 with rfl | ⟨d, rfl⟩ <;> simp
        have dl : (done.map dayD).length < 16777216 := by have := congrArg List.length e4; have := ok.most; simp at *; omega
        have ht : (done ++ [es]).map dayD = done.map dayD ++ [dayD es] := by simp
        refine ⟨_, [.fz (.str TX), .own (.lst LS), .fz (.str EE), .own (.lst ((done ++ [es]).map dayD)), .fz (.int j), .fz (.str (line es)), .fz (dayD es)], hset, ?_, j + 1, done ++ [es], rs, .fz (.int j), .fz (.str (line es)), .fz (dayD es), .inr ⟨_, rfl⟩, .inr ⟨_, rfl⟩, .inr ⟨_, rfl⟩, rfl, by rw [← e4]; simp, rfl⟩
        rw [ht]
        generalize line es = LN at rd ⊢
        have hnn : isNon (dayD es) = false := rfl
        generalize dayD es = DD at rd hnn ⊢
        generalize done.map dayD = DN at dl ⊢
        rcases e2 with rfl | ⟨d, rfl⟩ <;> simp [rd, dl, hnn])
    (numbered 0 ((ds.map line).map D.str)) [.fz (.str TX), .own (.lst LS), .fz (.str EE), .own (.lst []), .non, .non, .non] ⟨0, [], ds, .non, .non, .non, .inl rfl, .inl rfl, .inl rfl, rfl, rfl, rfl⟩
  subst e5
  have : rs = [] := by
    cases rs with
    | nil => rfl
    | cons a b => cases e3
  subst this
  rw [List.append_nil] at e4
  subst e4
  unfold logO daysD at li
  generalize (done.map line).map D.str = LD at hcut e6
  unfold logO daysD
  generalize done.map dayD = DN at li e6 ⊢
  simp [hg, hpop, hne, hne', h0, rl, hcut, e6, li, -e_pop]
end MP
set_option Elab.async false
set_option linter.all false
set_option maxRecDepth 100000
set_option maxHeartbeats 2000000
namespace MP
open PySem PySem.Spec L2
theorem eq_own {p : Int} {ws : List Str} {ds : List (List Ev)} (ok : okLog p ws ds) : eqOV [0] R_Log_eq 0 (logD p ds) (logD p ds) = some (.fz (.bl true)) ∧ neOV [0] R_Log_eq 0 (logD p ds) (logD p ds) = some (.fz (.bl false)) := by
  have h := log_eq ok
  have e : eqOG [0] R_Log_eq 0 (logD p ds) (logD p ds) = some true := by
    unfold eqOG
    unfold logD at h ⊢
    simp only
    rw [if_pos ⟨trivial, rfl⟩, h]
    rfl
  exact ⟨by unfold eqOV; rw [e]; rfl, by unfold neOV; rw [e]; rfl⟩
theorem len_own {p : Int} {ws : List Str} {ds : List (List Ev)} (ok : okLog p ws ds) : lenOG R_Log_len 0 (logD p ds) = some (.fz (.int ds.length)) := by
  have h := log_len (parts := p) (ds := ds) (v := .fz (logD p ds)) (.inl rfl)
  unfold lenOG
  unfold logD at h ⊢
  simp only
  rw [if_pos trivial, h]
  show (if (0 : Int) ≤ ds.length ∧ (ds.length : Int) < 2 ^ 63 then some (Val.fz (.int ds.length)) else none) = _
  rw [if_pos ⟨by omega, by have := ok.most; omega⟩]
theorem rd_l1 {EQ NE : D → D → Option Val} {LE : D → Option Val} {P T TX : D} {ns : List Str} {vs : List D} {n : Int} (a6 : EQ (.ins 0 ns vs) (.ins 0 ns vs) = some (.fz (.bl true))) (a7 : NE (.ins 0 ns vs) (.ins 0 ns vs) = some (.fz (.bl false))) (a8 : LE (.ins 0 ns vs) = some (.fz (.int n))) :
    sLst (sCons (sBin EQ (sVar 3) (sVar 4)) (sCons (sBin NE (sVar 3) (sVar 4)) (sCons (sB (gOne LE) (sCons (sVar 3) sNil)) sNil))) [.fz P, .fz T, .fz TX, .own (.ins 0 ns vs), .own (.ins 0 ns vs)] = .ok (.vl (.own (.lst [.bl true, .bl false, .int n]))) [.fz P, .fz T, .fz TX, .own (.ins 0 ns vs), .own (.ins 0 ns vs)] := by
  simp [a6, a7, a8]
theorem rd_l2 {P T TX : D} {A B : O} {n : Int} (dl : lenD T = some (.fz (.int n))) :
    sLst (sCons (sC (.bl true)) (sCons (sC (.bl false)) (sCons (sB (gOne lenD) (sCons (sVar 1) sNil)) sNil))) [.fz P, .fz T, .fz TX, .own A, .own B] = .ok (.vl (.own (.lst [.bl true, .bl false, .int n]))) [.fz P, .fz T, .fz TX, .own A, .own B] := by
  simp [dl]
theorem rd_c2 {EQ NE : D → D → Option Val} {LE : D → Option Val} {RI RX : List Val → Rs} {P T TX : D} {ns : List Str} {vs : List D} {n : Int} (a6 : EQ (.ins 0 ns vs) (.ins 0 ns vs) = some (.fz (.bl true))) (a7 : NE (.ins 0 ns vs) (.ins 0 ns vs) = some (.fz (.bl false))) (a8 : LE (.ins 0 ns vs) = some (.fz (.int n)))
    (dl : lenD T = some (.fz (.int n))) (i2 : RI [.fz TX, .fz TX] = .ret (.fz (.bl true)) [.fz TX, .fz TX]) (i3 : RI [.fz (.lst [.bl true, .bl false, .int n]), .fz (.lst [.bl true, .bl false, .int n])] = .ret (.fz (.bl true)) [.fz (.lst [.bl true, .bl false, .int n]), .fz (.lst [.bl true, .bl false, .int n])])
    (a3 : RX [.own (.ins 0 ns vs)] = .ret (.fz TX) [.own (.ins 0 ns vs)]) :
    sOr (sNot (sTru (sCall RI (sCons (sCall RX (sCons (sVar 4) sNil)) (sCons (sFz (sVar 2)) sNil))))) (sNot (sTru (sCall RI (sCons (sLst (sCons (sBin EQ (sVar 3) (sVar 4)) (sCons (sBin NE (sVar 3) (sVar 4)) (sCons (sB (gOne LE) (sCons (sVar 3) sNil)) sNil)))) (sCons (sLst (sCons (sC (.bl true)) (sCons (sC (.bl false)) (sCons (sB (gOne lenD) (sCons (sVar 1) sNil)) sNil)))) sNil)))))
      [.fz P, .fz T, .fz TX, .own (.ins 0 ns vs), .own (.ins 0 ns vs)] = .ok false [.fz P, .fz T, .fz TX, .own (.ins 0 ns vs), .own (.ins 0 ns vs)] := by
  have l1 := rd_l1 (P := P) (T := T) (TX := TX) a6 a7 a8
  have l2 := rd_l2 (P := P) (TX := TX) (A := .ins 0 ns vs) (B := .ins 0 ns vs) dl
  simp [a3, i2, l1, l2, i3, -e_sLst]
theorem rd_c1 {RI RX : List Val → Rs} {P T TX : D} {PA DA : Str} {vs : List D} (lp : lookD [PA, DA] vs PA = some P) (ld : lookD [PA, DA] vs DA = some T)
    (i1 : RI [.fz (.lst [P, T]), .fz (.lst [P, T])] = .ret (.fz (.bl true)) [.fz (.lst [P, T]), .fz (.lst [P, T])]) (i2 : RI [.fz TX, .fz TX] = .ret (.fz (.bl true)) [.fz TX, .fz TX]) (a3 : RX [.own (.ins 0 [PA, DA] vs)] = .ret (.fz TX) [.own (.ins 0 [PA, DA] vs)]) :
    sOr (sNot (sTru (sCall RI (sCons (sLst (sCons (MP.sFld [0] PA (sVar 3)) (sCons (MP.sFld [0] DA (sVar 3)) sNil))) (sCons (sLst (sCons (sVar 0) (sCons (sVar 1) sNil))) sNil))))) (sNot (sTru (sCall RI (sCons (sCall RX (sCons (sVar 3) sNil)) (sCons (sFz (sVar 2)) sNil)))))
      [.fz P, .fz T, .fz TX, .own (.ins 0 [PA, DA] vs), .non] = .ok false [.fz P, .fz T, .fz TX, .own (.ins 0 [PA, DA] vs), .non] := by
  simp [lp, ld, i1, i2, a3]
theorem is_read {p : Int} {ws : List Str} {ds : List (List Ev)} (ok : okLog p ws ds) : R_law_is_read [.fz (.int p), .fz (daysD ds)] = .ret (.fz (.bl true)) [.fz (.int p), .fz (daysD ds)] := by
  have a1 := law_text ok
  have a2 := read_log ok
  have a3 := log_text ok (v := .own (logO p ds)) (.inr rfl)
  have a4 := log_text ok (v := .fz (logD p ds)) (.inl rfl)
  have a5 := log_init ok
  obtain ⟨a6, a7⟩ := eq_own ok
  have a8 := len_own ok
  have i1 : IsIt 7 (.lst [.int p, daysD ds]) := is_lst 6 (by simp) fun y hy => by
    simp only [List.mem_cons, List.not_mem_nil, or_false] at hy
    rcases hy with rfl | rfl
    · exact is_int 5 _
    · exact is_days 2 ok
  have i2 : IsIt 7 (.str (text p ds)) := is_str 6 _
  have i3 : IsIt 7 (.lst [.bl true, .bl false, .int ds.length]) := is_lst 6 (by simp) fun y hy => by
    simp only [List.mem_cons, List.not_mem_nil, or_false] at hy
    rcases hy with rfl | rfl | rfl
    · exact is_bl 5 _
    · exact is_bl 5 _
    · exact is_int 5 _
  unfold IsIt at i1 i2 i3
  have dl : lenD (daysD ds) = some (.fz (.int ds.length)) := by unfold daysD; simp
  have e1 : Str.ofString "parts" = sParts := rfl
  have e2 : Str.ofString "days" = sDays := rfl
  have lp : lookD [sParts, sDays] [.int p, daysD ds] sParts = some (.int p) := look_p
  have ld : lookD [sParts, sDays] [.int p, daysD ds] sDays = some (daysD ds) := look_d
  unfold R_law_is_read b_law_is_read
  rw [e1, e2]
  generalize text p ds = TX at a1 a2 a3 a4 i2
  unfold logO at a2 a3 a5
  unfold logD at a4 a6 a7 a8
  generalize daysD ds = T at a1 a2 a3 a4 a5 a6 a7 a8 i1 dl lp ld ⊢
  generalize sParts = PA at a2 a3 a4 a5 a6 a7 a8 lp ld ⊢
  generalize sDays = DA at a2 a3 a4 a5 a6 a7 a8 lp ld ⊢
  generalize eqOV [0] R_Log_eq 0 = EQ at a6 ⊢
  generalize neOV [0] R_Log_eq 0 = NE at a7 ⊢
  generalize lenOG R_Log_len 0 = LE at a8 ⊢
  generalize R_law_is 7 = RI at i1 i2 i3 ⊢
  generalize R_law_text = RT at a1 ⊢
  generalize R_read_log = RL at a2 ⊢
  generalize R_log_text = RX at a3 a4 ⊢
  generalize R_Log_init = RN at a5 ⊢
  have q1 := rd_c1 lp ld i1 i2 a3
  have q2 := rd_c2 (P := .int p) a6 a7 a8 dl i2 i3 a3
  simp [a1, a2, q1, q2, a5, a3, a4, i2, -e_sOr]
end MP
set_option Elab.async false
set_option linter.all false
set_option maxRecDepth 100000
set_option maxHeartbeats 2000000
namespace MP
open PySem PySem.Spec L2
theorem law_hand (ns : List Int) (h : ns.length ≤ 63) : ∃ h', Hand h' ∧ R_law_hand [.fz (.scr ns)] = .ret (.own h') [.fz (.scr ns)] := by
  have hl : (cutD (ns.map D.int) none (some 63)).length ≤ 63 := by unfold cutD; rw [List.length_take, List.length_drop, List.length_map]; omega
  have hi : ∀ d ∈ cutD (ns.map D.int) none (some 63), ∃ i, d = .int i := fun d hd => by
    unfold cutD at hd
    obtain ⟨i, _, h2⟩ := List.mem_map.mp (List.mem_of_mem_drop (List.mem_of_mem_take hd))
    exact ⟨i, h2.symm⟩
  have sl : slG (.scr ns) none (some 63) = some (.own (.lst (cutD (ns.map D.int) none (some 63)))) := rfl
  generalize cutD (ns.map D.int) none (some 63) = C at hl hi sl
  have hm := lcL_map (tg := gN 2) (el := sB (gOne absD) (sCons (sB (gOne intD) (sCons (sVar 2) sNil)) sNil)) (vs := [2]) (fr := [.fz (.scr ns), .non, .non]) (fun d => match d with | .int i => .int (if i < 0 then -i else i) | d => d) (ds := C) (fun d hd => by
    obtain ⟨i, rfl⟩ := hi d hd
    exact ⟨[.fz (.scr ns), .non, .fz (.int i)], .vl (.fz (.int (if i < 0 then -i else i))), [.fz (.scr ns), .non, .fz (.int i)], [.fz (.scr ns), .non, .fz (.int i)], rfl, by simp, rfl, rfl, rfl⟩) [] (by simp; omega)
  rw [List.nil_append] at hm
  obtain ⟨cs, hc, hcl⟩ : ∃ cs : List Int, C.map (fun d => match d with | .int i => D.int (if i < 0 then -i else i) | d => d) = cs.map D.int ∧ cs.length ≤ 63 := by
    clear hm sl
    induction C with
    | nil => exact ⟨[], rfl, by simp⟩
    | cons d C ih =>
      obtain ⟨i, rfl⟩ := hi d (List.mem_cons_self ..)
      obtain ⟨cs, h1, h2⟩ := ih (by simp at hl; omega) fun d hd => hi d (List.mem_cons_of_mem _ hd)
      have : C.length = cs.length := by have := congrArg List.length h1; simpa using this
      exact ⟨(if i < 0 then -i else i) :: cs, by rw [List.map_cons, h1]; rfl, by simp at hl ⊢; omega⟩
  rw [hc] at hm
  have hmul : mulC 7 (cs.length : Int) = true := mulC_l rfl
  refine ⟨hnd cs 0 0 (61 + 7 * cs.length) 0, ⟨_, _, _, _, _, rfl⟩, ?_⟩
  unfold R_law_hand b_law_hand hnd
  simp [sl, hm, hmul, -e_sl_r]
end MP
set_option Elab.async false
set_option linter.all false
set_option maxRecDepth 100000
set_option maxHeartbeats 2000000
namespace MP
open PySem PySem.Spec L2
/-- the text of a log without its first line -/
def tail (ds : List (List Ev)) : List Nat := (ds.map fun es => (line es).cps.toList ++ [10]).flatten
theorem text_tl (p : Int) (ds : List (List Ev)) : (text p ds).cps.toList = ((lockL p).cps.toList ++ [10]) ++ tail ds := by
  unfold text
  have e0 := join_empty ((lines p ds).map (· ++ sNl))
  have : Txt.join sE ((lines p ds).map (· ++ sNl)) = Txt.join (Str.ofString "") ((lines p ds).map (· ++ sNl)) := rfl
  have hnl : sNl.cps.toList = [10] := nl_tl
  rw [this, e0]
  unfold lines tail
  simp only [List.map_cons, List.flatten_cons, List.map_map]
  rw [tl_app, hnl]
  congr 2
  apply List.map_congr_left
  intro es _
  show (line es ++ sNl).cps.toList = _
  rw [tl_app, hnl]
/-- what the law puts together -/
theorem text_put (p : Int) (d1 d2 : List (List Ev)) : text p d1 ++ Txt.slice (text p d2) (some (((sLockSp ++ num p) ++ sNl).length : Int)) none = text p (d1 ++ d2) := by
  apply tl_ext
  have hnl : sNl.cps.toList = [10] := nl_tl
  have hl : ((sLockSp ++ num p) ++ sNl).length = ((lockL p).cps.toList ++ [10]).length := by
    rw [← len_tl, tl_app, hnl]
    rfl
  rw [tl_app, tl_slice, text_tl, text_tl, text_tl, hl, cut_from _ _ _ rfl]
  unfold tail
  simp
end MP
set_option Elab.async false
set_option linter.all false
set_option maxRecDepth 100000
set_option maxHeartbeats 2000000
namespace MP
open PySem PySem.Spec L2
theorem cut_take {α : Type} (xs : List α) (n : Nat) (h : n ≤ xs.length) : cutD xs none (some (n : Int)) = xs.take n := by
  unfold cutD
  rw [HT.sIx_nat, HT.sIx_none, Nat.min_eq_left h]
  simp
theorem cut_drop {α : Type} (xs : List α) (n : Nat) (h : n ≤ xs.length) : cutD xs (some (n : Int)) none = xs.drop n := by
  unfold cutD
  rw [HT.sIx_nat, HT.sIx_none, Nat.min_eq_left h]
  rw [List.take_of_length_le]
  rw [List.length_drop]
  exact Nat.le_refl _
theorem lines_right {h : O} {p : Int} {ws : List Str} {ds : List (List Ev)} (hh : Hand h) (ok : okLog p ws ds) (hd : ds.length ≤ 100) : ∃ h', Hand h' ∧ R_law_lines_right [.own h, .fz (.int p), .fz (daysD ds)] = .ret (.fz (.bl true)) [.own h', .fz (.int p), .fz (daysD ds)] := by
  obtain ⟨r, h', h1, h2, h3⟩ := draw (m := (ds.length : Int)) hh (by have := ok.pos; omega) (by omega)
  have hr : r < ds.length := by omega
  have a1 := log_init ok
  have c1 := cut ok (a := 0) (b := r + 1) (by omega) (by omega)
  have c2 := cut ok (a := r) (b := ds.length) (by omega) (Nat.le_refl _)
  have k1 : (ds.drop 0).take (r + 1 - 0) = ds.take (r + 1) := by simp
  have k2 : (ds.drop r).take (ds.length - r) = ds.drop r := by rw [List.take_of_length_le]; rw [List.length_drop]; exact Nat.le_refl _
  rw [k1] at c1
  rw [k2] at c2
  have ok1 : okLog p ws (ds.take (r + 1)) := ok.sub (fun x hx => List.mem_of_mem_take hx) (by rw [List.length_take]; omega) (by rw [List.length_take]; omega)
  have ok2 : okLog p ws (ds.drop r) := ok.sub (fun x hx => List.mem_of_mem_drop hx) (by rw [List.length_drop]; omega) (by rw [List.length_drop]; omega)
  have ok3 : okLog p ws (ds ++ ds.drop r) := ok.sub (fun x hx => (List.mem_append.mp hx).elim id List.mem_of_mem_drop) (by rw [List.length_append]; omega) (by rw [List.length_append, List.length_drop]; omega)
  have t1 := log_text ok1 (v := .fz (logD p (ds.take (r + 1)))) (.inl rfl)
  have t2 := law_text ok1
  have t3 := law_text ok
  have t4 := law_text ok2
  have t5 := behind ok3
  have t6 := log_text ok3 (v := .fz (logD p (ds ++ ds.drop r))) (.inl rfl)
  have e1 : IsIt 7 (.str (text p (ds.take (r + 1)))) := is_str 6 _
  have e2 : IsIt 7 (.str (text p (ds ++ ds.drop r))) := is_str 6 _
  have tp := text_put p ds (ds.drop r)
  unfold IsIt at e1 e2
  have ar : ((r + 1 : Nat) : Int) = 1 + r := by omega
  rw [ar] at c1
  have z0 : ((0 : Nat) : Int) = 0 := rfl
  rw [z0] at c1
  have sl1 : slG (daysD ds) none (some (1 + (r : Int))) = some (.fz (daysD (ds.take (r + 1)))) := by
    rw [← ar]
    unfold daysD
    rw [e_sl_t, cut_take _ _ (by rw [List.length_map]; omega), List.map_take]
  have sl2 : slG (daysD ds) (some (r : Int)) none = some (.fz (daysD (ds.drop r))) := by
    unfold daysD
    rw [e_sl_t, cut_drop _ _ (by rw [List.length_map]; omega), List.map_drop]
  have dl : lenD (daysD ds) = some (.fz (.int ds.length)) := by unfold daysD; simp
  have hp := str_num (k := p) (by have := ok.p2; omega) (by have := ok.p12; omega)
  have hll := lines_len ok (lockL p) (List.mem_cons_self ..)
  have hla : sLockSp.length + (num p).length ≤ 16777216 := by have : (lockL p).length = sLockSp.length + (num p).length := len_app _ _; omega
  have hlb : (sLockSp ++ num p).length + sNl.length ≤ 16777216 := by
    have l1 : sNl.length = 1 := by decide +kernel
    have : (lockL p).length = (sLockSp ++ num p).length := rfl
    omega
  have hlc : ((sLockSp ++ num p) ++ sNl).length ≤ 16777216 := by rw [len_app]; exact hlb
  have ts := text_small ok
  have ts2 := text_small ok2
  have tz : (text p (ds.drop r)).length ≤ 16777216 := by omega
  have tsl : (text p ds).length + (Txt.slice (text p (ds.drop r)) (some (((sLockSp ++ num p) ++ sNl).length : Int)) none).length ≤ 16777216 := by
    rw [len_slice]
    omega
  have q1 : D.str (Str.ofString "lock ") = D.str sLockSp := rfl
  have q2 : D.str (Str.ofString "\n") = D.str sNl := rfl
  have sb : (1 + (r : Int)) - 1 = r := by omega
  refine ⟨h', h1, ?_⟩
  unfold R_law_lines_right b_law_lines_right
  rw [q1, q2]
  generalize ds.take (r + 1) = DA at c1 t1 t2 e1 sl1
  generalize ds ++ ds.drop r = DB at t5 t6 e2 tp
  generalize ds.drop r = DC at c2 t4 t5 sl2 tp tz tsl
  unfold logO at a1 c1 c2 t5
  unfold logD at t1 t5 t6
  generalize daysD ds = T at *
  generalize daysD DA = TA at *
  generalize daysD DB = TB at *
  generalize daysD DC = TC at *
  generalize text p ds = X0 at *
  generalize text p DA = XA at *
  generalize text p DB = XB at *
  generalize text p DC = XC at *
  generalize num p = NP at *
  generalize sLockSp = LS at *
  generalize sNl = NL at *
  simp [h3, sb, dl, a1, c1, t1, sl1, t2, e1, t3, sl2, t4, hp, hla, hlb, hlc, c2, t5, t6, tz, tsl, tp, e2, -e_str_i]
end MP
set_option Elab.async false
set_option linter.all false
set_option maxRecDepth 100000
set_option maxHeartbeats 2000000
namespace MP
open PySem PySem.Spec L2
def oddS : List Str := ["day", "pair", "seen", "lock"]
theorem odd_ok : ∀ z ∈ oddS, nameOk z := by
  have h : oddS.all (fun z => decide (1 ≤ z.length) && decide (z.length ≤ 8) && z.cps.toList.all fun c => abc.cps.toList.contains c) = true := by decide +kernel
  intro z hz
  have := List.all_eq_true.mp h z hz
  simp only [Bool.and_eq_true, decide_eq_true_eq, List.all_eq_true, List.contains_iff_mem] at this
  exact ⟨this.1.1, this.1.2, this.2⟩
theorem odd_map : oddS.map D.str = [.str (Str.ofString "day"), .str (Str.ofString "pair"), .str (Str.ofString "seen"), .str (Str.ofString "lock")] := rfl
theorem odd_len : oddS.length = 4 := rfl
theorem odd_flat : (oddS.map D.str).all flatD = true := rfl
/-- the hand and what is drawn for one small log -/
theorem law_words {h : O} (hh : Hand h) : ∃ (r n k m : Nat) (zs : List Str) (e : Nat) (ds : List (List Ev)) (h1 h2 h3 h4 h5 h6 h7 : O),
    Hand h7 ∧ okLog (2 + r) (zs ++ oddS.take k) ds ∧ ds.length ≤ 100 ∧ k ≤ 4 ∧ zs.length ≤ 100 ∧
    R_law_draw [.own h, .fz (.int 11)] = .ret (.fz (.int r)) [.own h1, .fz (.int 11)] ∧
    R_law_draw [.own h1, .fz (.int 6)] = .ret (.fz (.int n)) [.own h2, .fz (.int 6)] ∧
    R_law_names [.own h2, .fz (.int (1 + n)), .own (.lst (oddS.map D.str))] = .ret (.fz (.tup (zs.map D.str))) [.own h3, .fz (.int (1 + n)), .own (.lst (oddS.map D.str))] ∧
    R_law_draw [.own h3, .fz (.int 5)] = .ret (.fz (.int k)) [.own h4, .fz (.int 5)] ∧
    R_law_draw [.own h4, .fz (.int 12)] = .ret (.fz (.int m)) [.own h5, .fz (.int 12)] ∧
    R_law_any [.own h5, .fz (.lst [.int 0, .int 2, .int 12])] = .ret (.fz (.int e)) [.own h6, .fz (.lst [.int 0, .int 2, .int 12])] ∧
    R_law_days [.own h6, .fz (.int (2 + r)), .fz (.lst ((zs ++ oddS.take k).map D.str)), .fz (.int (1 + m)), .fz (.int e), .fz (.int 2)]
      = .ret (.fz (daysD ds)) [.own h7, .fz (.int (2 + r)), .fz (.lst ((zs ++ oddS.take k).map D.str)), .fz (.int (1 + m)), .fz (.int e), .fz (.int 2)] := by
  obtain ⟨r, h1, a1, a2, a3⟩ := draw (m := 11) hh (by omega) (by omega)
  obtain ⟨n, h2, b1, b2, b3⟩ := draw (m := 6) a1 (by omega) (by omega)
  obtain ⟨zs, h3, c1, c2, c3, c4⟩ := names (tk := oddS.map D.str) b1 odd_flat (by rw [List.length_map, odd_len]; omega) (n + 1) (by omega)
  obtain ⟨k, h4, d1, d2, d3⟩ := draw (m := 5) c1 (by omega) (by omega)
  obtain ⟨m, h5, e1, e2, e3⟩ := draw (m := 12) d1 (by omega) (by omega)
  obtain ⟨d, h6, f1, f2, f3⟩ := any_l (ds := [.int 0, .int 2, .int 12]) e1 (by simp) (by simp)
  obtain ⟨e, he, rfl⟩ : ∃ e : Nat, e ≤ 12 ∧ d = .int e := by
    simp only [List.mem_cons, List.not_mem_nil, or_false] at f2
    rcases f2 with rfl | rfl | rfl
    · exact ⟨0, by omega, rfl⟩
    · exact ⟨2, by omega, rfl⟩
    · exact ⟨12, by omega, rfl⟩
  have wl : (zs ++ oddS.take k).length ≤ 60 := by
    rw [List.length_append, List.length_take, odd_len]
    omega
  have wn : zs ++ oddS.take k ≠ [] := by
    intro h0
    have := congrArg List.length h0
    rw [List.length_append, c2] at this
    simp at this
  obtain ⟨ds, h7, g1, g2, g3, g4⟩ := days (parts := 2 + r) f1 (by omega) (by omega) (ws := zs ++ oddS.take k) (by omega) wn (m + 1) e (by omega) he
  have q1 : ((n + 1 : Nat) : Int) = 1 + n := by omega
  have q2 : ((m + 1 : Nat) : Int) = 1 + m := by omega
  rw [q1] at c4
  rw [q2] at g4
  refine ⟨r, n, k, m, zs, e, ds, h1, h2, h3, h4, h5, h6, h7, g1, ⟨by omega, by omega, fun w hw => ?_, wl, by omega, by omega, g3⟩, by omega, by omega, by omega, a3, b3, c4, d3, e3, f3, g4⟩
  rcases List.mem_append.mp hw with hw | hw
  · exact c3 w hw
  · exact odd_ok w (List.mem_of_mem_take hw)
end MP
set_option Elab.async false
set_option linter.all false
set_option maxRecDepth 100000
set_option maxHeartbeats 2000000
namespace MP
open PySem PySem.Spec L2
/-- the slots 2 … 6 of the law's first loop, before or after a turn -/
inductive Tn : Sl → Sl → Sl → Sl → Sl → Prop
  | first : Tn .non .non .non .non .non
  | later (a b : Int) (c d : List D) (e : D) : Tn (.fz (.int a)) (.fz (.int b)) (.own (.lst c)) (.fz (.lst d)) (.fz e)
theorem or_ff {f g : Fm → Out Bool} {a b c : Fm} (h1 : f a = .ok false b) (h2 : g b = .ok false c) : sOr f g a = .ok false c := by
  unfold sOr
  rw [h1]
  exact h2
theorem turn_1 {RI : List Val → Rs} {P T d0 d2 d5 : D} {h7 d4 : O} (ir : RI [.fz P, .fz T] = .ret (.fz (.bl true)) [.fz P, .fz T]) :
    sNot (sTru (sCall RI (sCons (sFz (sVar 3)) (sCons (sFz (sVar 6)) sNil)))) [.fz d0, .own h7, .fz d2, .fz P, .own d4, .fz d5, .fz T, .non, .non, .non, .non, .non]
      = .ok false [.fz d0, .own h7, .fz d2, .fz P, .own d4, .fz d5, .fz T, .non, .non, .non, .non, .non] := by
  simp [ir]
theorem turn_2 {RL : List Val → Rs} {P T d0 d2 d5 : D} {h7 h8 d4 : O} (lr : RL [.own h7, .fz P, .fz T] = .ret (.fz (.bl true)) [.own h8, .fz P, .fz T]) :
    sNot (sTru (sCall RL (sCons (sVar 1) (sCons (sFz (sVar 3)) (sCons (sFz (sVar 6)) sNil))))) [.fz d0, .own h7, .fz d2, .fz P, .own d4, .fz d5, .fz T, .non, .non, .non, .non, .non]
      = .ok false [.fz d0, .own h8, .fz d2, .fz P, .own d4, .fz d5, .fz T, .non, .non, .non, .non, .non] := by
  simp [lr]
theorem seq_nx {f g : Fm → OutS} {a b : Fm} {r : OutS} (h : f a = .nx b) (k : g b = r) : sSeq f g a = r := by
  unfold sSeq
  rw [h]
  exact k
theorem st1 {R1 : List Val → Rs} {S0 x2 : D} {x3 x4 x5 x6 : Sl} {t1 t2 t3 t4 : Str} {h h1 : O} {r : Int} (c1 : R1 [.own h, .fz (.int 11)] = .ret (.fz (.int r)) [.own h1, .fz (.int 11)])
   (k3 : x3 = .non ∨ ∃ d, x3 = .fz d) (k4 : x4 = .non ∨ ∃ d, x4 = .own d)  (k5 : x5 = .non ∨ ∃ d, x5 = .fz d) (k6 : x6 = .non ∨ ∃ d, x6 = .fz d) :
  sPar [3, 4] (sCons (sBin addD (sC (.int 2)) (sCall R1 (sCons (sVar 1) (sCons (sC (.int 11)) sNil)))) (sCons (sLst (sCons (sC (.str t1)) (sCons (sC (.str t2)) (sCons (sC (.str t3)) (sCons (sC (.str t4)) sNil))))) sNil))
   [.fz S0, .own h, .fz x2, x3, x4, x5, x6, .non, .non, .non, .non, .non] = .nx [.fz S0, .own h1, .fz x2, .fz (.int (2 + r)), .own (.lst [.str t1, .str t2, .str t3, .str t4]), x5, x6, .non, .non, .non, .non, .non] := by
  rcases k3 with rfl | ⟨d3, rfl⟩ <;> rcases k4 with rfl | ⟨d4, rfl⟩ <;> rcases k5 with rfl | ⟨d5, rfl⟩ <;> rcases k6 with rfl | ⟨d6, rfl⟩ <;> simp [c1]
theorem st2 {R1 R2 : List Val → Rs} {S0 x2 p : D} {x5 x6 : Sl} {L Z OK W : List D} {h h1 h2 h3 : O} {n k : Int} (c2 : R1 [.own h, .fz (.int 6)] = .ret (.fz (.int n)) [.own h1, .fz (.int 6)])
   (c4 : R2 [.own h1, .fz (.int (1 + n)), .own (.lst L)] = .ret (.fz (.tup Z)) [.own h2, .fz (.int (1 + n)), .own (.lst L)]) (c5 : R1 [.own h2, .fz (.int 5)] = .ret (.fz (.int k)) [.own h3, .fz (.int 5)])
   (sl : slG (.lst L) none (some k) = some (.own (.lst OK))) (ad : addD (.lst Z) (.lst OK) = some (.own (.lst W)))
   (k5 : x5 = .non ∨ ∃ d, x5 = .fz d) (k6 : x6 = .non ∨ ∃ d, x6 = .fz d) :
  sSet 5 (sBin addD (sB (gOne lstD) (sCons (sCall R2 (sCons (sVar 1) (sCons (sBin addD (sC (.int 1)) (sCall R1 (sCons (sVar 1) (sCons (sC (.int 6)) sNil)))) (sCons (sVar 4) sNil)))) sNil)) (sSl slG (sVar 4) sP0 (sP1 (sCall R1 (sCons (sVar 1) (sCons (sC (.int 5)) sNil))))))
   [.fz S0, .own h, .fz x2, .fz p, .own (.lst L), x5, x6, .non, .non, .non, .non, .non] = .nx [.fz S0, .own h3, .fz x2, .fz p, .own (.lst L), .own (.lst W), x6, .non, .non, .non, .non, .non] := by
  rcases k5 with rfl | ⟨d5, rfl⟩ <;> rcases k6 with rfl | ⟨d6, rfl⟩ <;> simp [c2, c4, c5, sl, ad, -e_addL, -e_sl_l]
theorem st3 {R1 R2 R3 : List Val → Rs} {S0 x2 p T : D} {x6 : Sl} {L W : List D} {h h1 h2 h3 : O} {m e : Int} (c5 : R1 [.own h, .fz (.int 12)] = .ret (.fz (.int m)) [.own h1, .fz (.int 12)])
   (c6 : R2 [.own h1, .fz (.lst [.int 0, .int 2, .int 12])] = .ret (.fz (.int e)) [.own h2, .fz (.lst [.int 0, .int 2, .int 12])])
   (c7 : R3 [.own h2, .fz p, .fz (.lst W), .fz (.int (1 + m)), .fz (.int e), .fz (.int 2)] = .ret (.fz T) [.own h3, .fz p, .fz (.lst W), .fz (.int (1 + m)), .fz (.int e), .fz (.int 2)])
   (k6 : x6 = .non ∨ ∃ d, x6 = .fz d) :
  sSet 6 (sCall R3 (sCons (sVar 1) (sCons (sVar 3) (sCons (sFz (sVar 5)) (sCons (sBin addD (sC (.int 1)) (sCall R1 (sCons (sVar 1) (sCons (sC (.int 12)) sNil)))) (sCons (sCall R2 (sCons (sVar 1) (sCons (sLst (sCons (sC (.int 0)) (sCons (sC (.int 2)) (sCons (sC (.int 12)) sNil)))) sNil))) (sCons (sC (.int 2)) sNil)))))))
   [.fz S0, .own h, .fz x2, .fz p, .own (.lst L), .own (.lst W), x6, .non, .non, .non, .non, .non] = .nx [.fz S0, .own h3, .fz x2, .fz p, .own (.lst L), .fz (.lst W), .fz T, .non, .non, .non, .non, .non] := by
  rcases k6 with rfl | ⟨d6, rfl⟩ <;> simp [c5, c6, c7]
theorem ifs_f {c : Fm → Out Bool} {f g : Fm → OutS} {a b : Fm} (h : c a = .ok false b) : sIfS c f g a = g b := by
  unfold sIfS
  rw [h]
  rfl
theorem turn {S0 : D} {h : O} {x2 x3 x4 x5 x6 : Sl} (hh : Hand h) (t : Tn x2 x3 x4 x5 x6) (j : Int) : ∃ (h' : O) (y3 y4 y5 y6 : Sl) (fr1 : Fm), Hand h' ∧ Tn (.fz (.int j)) y3 y4 y5 y6 ∧
    gN 2 (.int j) [.fz S0, .own h, x2, x3, x4, x5, x6, .non, .non, .non, .non, .non] = some fr1 ∧
    (sSeq (sPar [3, 4] (sCons (sBin addD (sC (.int 2)) (sCall R_law_draw (sCons (sVar 1) (sCons (sC (.int 11)) sNil)))) (sCons (sLst (sCons (sC (.str "day")) (sCons (sC (.str "pair")) (sCons (sC (.str "seen")) (sCons (sC (.str "lock")) sNil))))) sNil))) (sSeq (sSet 5 (sBin addD (sB (gOne lstD) (sCons (sCall R_law_names (sCons (sVar 1) (sCons (sBin addD (sC (.int 1)) (sCall R_law_draw (sCons (sVar 1) (sCons (sC (.int 6)) sNil)))) (sCons (sVar 4) sNil)))) sNil)) (sSl slG (sVar 4) sP0 (sP1 (sCall R_law_draw (sCons (sVar 1) (sCons (sC (.int 5)) sNil))))))) (sSeq (sSet 6 (sCall R_law_days (sCons (sVar 1) (sCons (sVar 3) (sCons (sFz (sVar 5)) (sCons (sBin addD (sC (.int 1)) (sCall R_law_draw (sCons (sVar 1) (sCons (sC (.int 12)) sNil)))) (sCons (sCall R_law_any (sCons (sVar 1) (sCons (sLst (sCons (sC (.int 0)) (sCons (sC (.int 2)) (sCons (sC (.int 12)) sNil)))) sNil))) (sCons (sC (.int 2)) sNil)))))))) (sIfS (sOr (sNot (sTru (sCall R_law_is_read (sCons (sFz (sVar 3)) (sCons (sFz (sVar 6)) sNil))))) (sNot (sTru (sCall R_law_lines_right (sCons (sVar 1) (sCons (sFz (sVar 3)) (sCons (sFz (sVar 6)) sNil))))))) (sRet (sC (.bl false))) sSkip)))) fr1
      = .nx [.fz S0, .own h', .fz (.int j), y3, y4, y5, y6, .non, .non, .non, .non, .non] := by
  obtain ⟨r, n, k, m, zs, e, ds, h1, h2, h3, h4, h5, h6, h7, hh7, ok, dl, hk, hz, c1, c2, c3, c4, c5, c6, c7⟩ := law_words hh
  obtain ⟨h8, hh8, lr⟩ := lines_right hh7 ok dl
  have ir := is_read ok
  have sl : slG (.lst (oddS.map D.str)) none (some (k : Int)) = some (.own (.lst ((oddS.take k).map D.str))) := by
    rw [e_sl_l, cut_take _ _ (by rw [List.length_map, odd_len]; exact hk), List.map_take]
  have ad : addD (.lst (zs.map D.str)) (.lst ((oddS.take k).map D.str)) = some (.own (.lst ((zs ++ oddS.take k).map D.str))) := by
    rw [e_addL, if_pos, List.map_append]
    show _ ≤ 16777216
    rw [List.length_map, List.length_map, List.length_take, odd_len]
    omega
  have hset : ∃ fr1, gN 2 (.int j) [.fz S0, .own h, x2, x3, x4, x5, x6, .non, .non, .non, .non, .non] = some fr1 ∧ fr1 = [.fz S0, .own h, .fz (.int j), x3, x4, x5, x6, .non, .non, .non, .non, .non] := by
    cases t <;> exact ⟨_, rfl, rfl⟩
  obtain ⟨fr1, hs1, hs2⟩ := hset
  refine ⟨h8, .fz (.int (2 + r)), .own (.lst (oddS.map D.str)), .fz (.lst ((zs ++ oddS.take k).map D.str)), .fz (daysD ds), fr1, hh8, .later _ _ _ _ _, hs1, ?_⟩
  subst hs2
  rw [odd_map] at c3 sl ⊢
  generalize Str.ofString "day" = t1 at *
  generalize Str.ofString "pair" = t2 at *
  generalize Str.ofString "seen" = t3 at *
  generalize Str.ofString "lock" = t4 at *
  generalize (oddS.take k).map D.str = OK at *
  generalize (zs ++ oddS.take k).map D.str = W at *
  generalize zs.map D.str = Z at *
  generalize daysD ds = T at *
  have tt := or_ff (turn_1 (d0 := S0) (d2 := .int j) (d5 := .lst W) (h7 := h7) (d4 := .lst [.str t1, .str t2, .str t3, .str t4]) ir) (turn_2 lr)
  have k3 : x3 = .non ∨ ∃ d, x3 = .fz d := by cases t <;> first | exact .inl rfl | exact .inr ⟨_, rfl⟩
  have k4 : x4 = .non ∨ ∃ d, x4 = .own d := by cases t <;> first | exact .inl rfl | exact .inr ⟨_, rfl⟩
  have k5 : x5 = .non ∨ ∃ d, x5 = .fz d := by cases t <;> first | exact .inl rfl | exact .inr ⟨_, rfl⟩
  have k6 : x6 = .non ∨ ∃ d, x6 = .fz d := by cases t <;> first | exact .inl rfl | exact .inr ⟨_, rfl⟩
  refine seq_nx (st1 c1 k3 k4 k5 k6) (seq_nx (st2 c2 c3 c4 sl ad k5 k6) (seq_nx (st3 c5 c6 c7 k6) ?_))
  rw [ifs_f tt]
  rfl
end MP
set_option Elab.async false
set_option linter.all false
set_option maxRecDepth 100000
set_option maxHeartbeats 2000000
namespace MP
open PySem PySem.Spec L2
/-- the slots of one row's turn, before or after it -/
inductive Tr : Sl → Sl → Sl → Sl → Prop
  | first : Tr .non .non .non .non
  | later (a b c : D) (d : List D) : Tr (.fz a) (.fz b) (.fz c) (.own (.lst d))
section
variable {R1 R2 : List Val → Rs} {S0 t d5 : D} {o4 h h1 : O} {L C row : List D} {a b : Str} {p j r k : Int} {s9 s10 s11 : Sl}
theorem rowA (c1 : R1 [.own h, .fz (.int 9)] = .ret (.fz (.int r)) [.own h1, .fz (.int 9)]) (i1 : ixG (.tup C) (.int (j % 60)) = some (.fz (.str a))) (i2 : ixG (.tup C) (.int ((7 * j + 1 + r) % 60)) = some (.fz (.str b))) (hm : mulC 7 j = true)
    (k9 : s9 = .non ∨ ∃ d, s9 = .fz d) (k10 : s10 = .non ∨ ∃ d, s10 = .fz d) (k11 : s11 = .non ∨ ∃ d, s11 = .own d) :
    sPar [9, 10] (sCons (sBin ixG (sVar 7) (sBin (gI (fun _ j => decide (0 < j)) fun i j => .int (i % j)) (sB (gOne intD) (sCons (sVar 8) sNil)) (sC (.int 60)))) (sCons (sBin ixG (sVar 7) (sBin (gI (fun _ j => decide (0 < j)) fun i j => .int (i % j)) (sB (gOne intD) (sCons (sBin addD (sBin addD (sBin mulD (sC (.int 7)) (sVar 8)) (sC (.int 1))) (sCall R1 (sCons (sVar 1) (sCons (sC (.int 9)) sNil)))) sNil)) (sC (.int 60)))) sNil))
      [.fz S0, .own h, .fz t, .fz (.int p), .own o4, .fz d5, .own (.lst L), .fz (.tup C), .fz (.int j), s9, s10, s11] = .nx [.fz S0, .own h1, .fz t, .fz (.int p), .own o4, .fz d5, .own (.lst L), .fz (.tup C), .fz (.int j), .fz (.str a), .fz (.str b), s11] := by
  rcases k9 with rfl | ⟨d9, rfl⟩ <;> rcases k10 with rfl | ⟨d10, rfl⟩ <;> rcases k11 with rfl | ⟨d11, rfl⟩ <;> simp [c1, i1, i2, hm, -e_ix_t]
theorem rowB (hp : 0 < p) (k11 : s11 = .non ∨ ∃ d, s11 = .own d) {z : Str} :
    sSet 11 (sLst (sCons (sTup (sCons (sC (.str z)) (sCons (sVar 10) (sCons (sBin (gI (fun _ j => decide (0 < j)) fun i j => .int (i % j)) (sB (gOne intD) (sCons (sVar 8) sNil)) (sVar 3)) sNil)))) sNil))
      [.fz S0, .own h, .fz t, .fz (.int p), .own o4, .fz d5, .own (.lst L), .fz (.tup C), .fz (.int j), .fz (.str a), .fz (.str b), s11] = .nx [.fz S0, .own h, .fz t, .fz (.int p), .own o4, .fz d5, .own (.lst L), .fz (.tup C), .fz (.int j), .fz (.str a), .fz (.str b), .own (.lst [.tup [.str z, .str b, .int (j % p)]])] := by
  rcases k11 with rfl | ⟨d11, rfl⟩ <;> simp [hp]
theorem rowC1 (ne : a ≠ b) {z : Str} {d : D} (c1 : R1 [.own h, .fz (.int p)] = .ret (.fz (.int r)) [.own h1, .fz (.int p)]) :
    sIfS (sTst (sBin neG (sVar 9) (sVar 10))) (sExpr (sW "list" appG (sVar 11) (sCons (sTup (sCons (sC (.str z)) (sCons (sVar 9) (sCons (sVar 10) (sCons (sCall R1 (sCons (sVar 1) (sCons (sVar 3) sNil))) sNil))))) sNil))) sSkip
      [.fz S0, .own h, .fz t, .fz (.int p), .own o4, .fz d5, .own (.lst L), .fz (.tup C), .fz (.int j), .fz (.str a), .fz (.str b), .own (.lst [d])] = .nx [.fz S0, .own h1, .fz t, .fz (.int p), .own o4, .fz d5, .own (.lst L), .fz (.tup C), .fz (.int j), .fz (.str a), .fz (.str b), .own (.lst [d, .tup [.str z, .str a, .str b, .int r]])] := by
  simp [ne, c1]
theorem rowC2 {z : Str} {d : D} :
    sIfS (sTst (sBin neG (sVar 9) (sVar 10))) (sExpr (sW "list" appG (sVar 11) (sCons (sTup (sCons (sC (.str z)) (sCons (sVar 9) (sCons (sVar 10) (sCons (sCall R1 (sCons (sVar 1) (sCons (sVar 3) sNil))) sNil))))) sNil))) sSkip
      [.fz S0, .own h, .fz t, .fz (.int p), .own o4, .fz d5, .own (.lst L), .fz (.tup C), .fz (.int j), .fz (.str b), .fz (.str b), .own (.lst [d])] = .nx [.fz S0, .own h, .fz t, .fz (.int p), .own o4, .fz d5, .own (.lst L), .fz (.tup C), .fz (.int j), .fz (.str b), .fz (.str b), .own (.lst [d])] := by
  simp
theorem rowD (c1 : R1 [.own h, .fz (.lst [.int 0, .int 1, .int 6])] = .ret (.fz (.int k)) [.own h1, .fz (.lst [.int 0, .int 1, .int 6])]) {row2 : List D} (hm : mulD (.lst row) (.int k) = some (.own (.lst row2))) (hl : L.length < 16777216) :
    sExpr (sW "list" appG (sVar 6) (sCons (sB (gOne tupD) (sCons (sBin mulD (sVar 11) (sCall R1 (sCons (sVar 1) (sCons (sLst (sCons (sC (.int 0)) (sCons (sC (.int 1)) (sCons (sC (.int 6)) sNil)))) sNil)))) sNil)) sNil))
      [.fz S0, .own h, .fz t, .fz (.int p), .own o4, .fz d5, .own (.lst L), .fz (.tup C), .fz (.int j), .fz (.str a), .fz (.str b), .own (.lst row)] = .nx [.fz S0, .own h1, .fz t, .fz (.int p), .own o4, .fz d5, .own (.lst (L ++ [.tup row2])), .fz (.tup C), .fz (.int j), .fz (.str a), .fz (.str b), .own (.lst row)] := by
  simp [c1, hm, hl, -e_mulL]
end
end MP
set_option Elab.async false
set_option linter.all false
set_option maxRecDepth 100000
set_option maxHeartbeats 2000000
namespace MP
open PySem PySem.Spec L2
theorem mul_7 (j : Int) : mulC 7 j = true := mulC_l rfl
theorem repN_map {α β : Type} (g : α → β) (k : Int) (xs : List α) : repN k (xs.map g) = (repN k xs).map g := by
  unfold repN
  rw [List.map_flatten, List.map_replicate]
theorem repN_mem {α : Type} {k : Int} {xs : List α} {x : α} (h : x ∈ repN k xs) : x ∈ xs := by
  unfold repN at h
  obtain ⟨l, h1, h2⟩ := List.mem_flatten.mp h
  rw [(List.mem_replicate.mp h1).2] at h2
  exact h2
theorem repN_len {α : Type} (k : Nat) (xs : List α) : (repN (k : Int) xs).length = k * xs.length := by
  unfold repN
  simp
theorem crew_ix {zs : List Str} (hl : zs.length = 60) (i : Int) (h0 : 0 ≤ i) (h1 : i < 60) : ∃ z ∈ zs, ixG (.tup (zs.map D.str)) (.int i) = some (.fz (.str z)) := by
  obtain ⟨n, rfl⟩ := ints_ex h0
  have hn : n < zs.length := by omega
  exact ⟨zs[n], List.getElem_mem hn, by simp [hn]⟩
/-- one day of the great log -/
theorem row_turn {S0 d5 : D} {h o4 : O} {t : D} {s8 s9 s10 s11 : Sl} {zs : List Str} {ds : List (List Ev)} {P : Nat} (hh : Hand h) (hz : zs.length = 60) (hp : 0 < P) (hp2 : P < 1000) (hd : ds.length < 1000) (tr : Tr s8 s9 s10 s11) (j : Nat) :
    ∃ (h' : O) (es : List Ev) (fr1 : Fm) (ya yb : D) (row : List D), Hand h' ∧ (es.length ≤ 12 ∧ ∀ e ∈ es, okEv (P : Int) zs e) ∧
    gN 8 (.int j) [.fz S0, .own h, .fz t, .fz (.int P), .own o4, .fz d5, .own (.lst (ds.map dayD)), .fz (.tup (zs.map D.str)), s8, s9, s10, s11] = some fr1 ∧
    (sSeq (sPar [9, 10] (sCons (sBin ixG (sVar 7) (sBin (gI (fun _ j => decide (0 < j)) fun i j => .int (i % j)) (sB (gOne intD) (sCons (sVar 8) sNil)) (sC (.int 60)))) (sCons (sBin ixG (sVar 7) (sBin (gI (fun _ j => decide (0 < j)) fun i j => .int (i % j)) (sB (gOne intD) (sCons (sBin addD (sBin addD (sBin mulD (sC (.int 7)) (sVar 8)) (sC (.int 1))) (sCall R_law_draw (sCons (sVar 1) (sCons (sC (.int 9)) sNil)))) sNil)) (sC (.int 60)))) sNil))) (sSeq (sSet 11 (sLst (sCons (sTup (sCons (sC (.str "seen")) (sCons (sVar 10) (sCons (sBin (gI (fun _ j => decide (0 < j)) fun i j => .int (i % j)) (sB (gOne intD) (sCons (sVar 8) sNil)) (sVar 3)) sNil)))) sNil))) (sSeq (sIfS (sTst (sBin neG (sVar 9) (sVar 10))) (sExpr (sW "list" appG (sVar 11) (sCons (sTup (sCons (sC (.str "pair")) (sCons (sVar 9) (sCons (sVar 10) (sCons (sCall R_law_draw (sCons (sVar 1) (sCons (sVar 3) sNil))) sNil))))) sNil))) sSkip) (sExpr (sW "list" appG (sVar 6) (sCons (sB (gOne tupD) (sCons (sBin mulD (sVar 11) (sCall R_law_any (sCons (sVar 1) (sCons (sLst (sCons (sC (.int 0)) (sCons (sC (.int 1)) (sCons (sC (.int 6)) sNil)))) sNil)))) sNil)) sNil)))))) fr1
      = .nx [.fz S0, .own h', .fz t, .fz (.int P), .own o4, .fz d5, .own (.lst ((ds ++ [es]).map dayD)), .fz (.tup (zs.map D.str)), .fz (.int j), .fz ya, .fz yb, .own (.lst row)] := by
  obtain ⟨r, h1, a1, a2, a3⟩ := draw (m := 9) hh (by omega) (by omega)
  obtain ⟨a, ha, ia⟩ := crew_ix hz ((j : Int) % 60) (by omega) (by omega)
  obtain ⟨b, hb, ib⟩ := crew_ix hz ((7 * (j : Int) + 1 + r) % 60) (by omega) (by omega)
  have hdl : (ds.map dayD).length < 16777216 := by rw [List.length_map]; omega
  have jp : ((j : Int) % (P : Int)) = ((j % P : Nat) : Int) := by omega
  have lt : (((j % P : Nat)) : Int) < P := by have := Nat.mod_lt j hp; omega
  have k9 : s9 = .non ∨ ∃ d, s9 = .fz d := by cases tr <;> first | exact .inl rfl | exact .inr ⟨_, rfl⟩
  have k10 : s10 = .non ∨ ∃ d, s10 = .fz d := by cases tr <;> first | exact .inl rfl | exact .inr ⟨_, rfl⟩
  have k11 : s11 = .non ∨ ∃ d, s11 = .own d := by cases tr <;> first | exact .inl rfl | exact .inr ⟨_, rfl⟩
  have hset : gN 8 (.int j) [.fz S0, .own h, .fz t, .fz (.int P), .own o4, .fz d5, .own (.lst (ds.map dayD)), .fz (.tup (zs.map D.str)), s8, s9, s10, s11] = some [.fz S0, .own h, .fz t, .fz (.int P), .own o4, .fz d5, .own (.lst (ds.map dayD)), .fz (.tup (zs.map D.str)), .fz (.int j), s9, s10, s11] := by
    cases tr <;> rfl
  have fin : ∀ (h2 : O) (es0 : List Ev), Hand h2 → es0.length ≤ 2 → (∀ e ∈ es0, okEv (P : Int) zs e) → ∃ (h3 : O) (k : Nat), Hand h3 ∧ (repN (k : Int) es0).length ≤ 12 ∧ (∀ e ∈ repN (k : Int) es0, okEv (P : Int) zs e) ∧
      sExpr (sW "list" appG (sVar 6) (sCons (sB (gOne tupD) (sCons (sBin mulD (sVar 11) (sCall R_law_any (sCons (sVar 1) (sCons (sLst (sCons (sC (.int 0)) (sCons (sC (.int 1)) (sCons (sC (.int 6)) sNil)))) sNil)))) sNil)) sNil))
        [.fz S0, .own h2, .fz t, .fz (.int P), .own o4, .fz d5, .own (.lst (ds.map dayD)), .fz (.tup (zs.map D.str)), .fz (.int j), .fz (.str a), .fz (.str b), .own (.lst (es0.map Ev.d))] = .nx [.fz S0, .own h3, .fz t, .fz (.int P), .own o4, .fz d5, .own (.lst ((ds ++ [repN (k : Int) es0]).map dayD)), .fz (.tup (zs.map D.str)), .fz (.int j), .fz (.str a), .fz (.str b), .own (.lst (es0.map Ev.d))] := by
    intro h2 es0 hh2 hl he
    obtain ⟨d, h3, b1, b2, b3⟩ := any_l (ds := [.int 0, .int 1, .int 6]) hh2 (by simp) (by simp)
    obtain ⟨k, hk, rfl⟩ : ∃ k : Nat, k ≤ 6 ∧ d = .int k := by
      simp only [List.mem_cons, List.not_mem_nil, or_false] at b2
      rcases b2 with rfl | rfl | rfl
      · exact ⟨0, by omega, rfl⟩
      · exact ⟨1, by omega, rfl⟩
      · exact ⟨6, by omega, rfl⟩
    have kl : k * es0.length ≤ 12 := Nat.le_trans (Nat.mul_le_mul hk hl) (by omega)
    refine ⟨h3, k, b1, by rw [repN_len]; exact kl, fun e h => he e (repN_mem h), ?_⟩
    have hm : mulD (.lst (es0.map Ev.d)) (.int k) = some (.own (.lst ((repN (k : Int) es0).map Ev.d))) := by
      rw [e_mulL, if_pos, repN_map]
      refine ⟨?_, ?_⟩
      · unfold w63
        simp only [Bool.and_eq_true, decide_eq_true_eq]
        omega
      · rw [List.length_map, z_line]
        show es0.length * k ≤ _
        rw [Nat.mul_comm]
        omega
    rw [List.map_append]
    exact rowD b3 hm hdl
  by_cases ne : a = b
  · subst ne
    obtain ⟨h3, k, f1, f2, f3, f4⟩ := fin h1 [.seen a (j % P)] a1 (by simp) (fun e h => by
      simp only [List.mem_cons, List.not_mem_nil, or_false] at h
      subst h
      exact ⟨ha, lt⟩)
    refine ⟨h3, _, _, .str a, .str a, [Ev.seen a (j % P)].map Ev.d, f1, ⟨f2, f3⟩, hset, ?_⟩
    refine seq_nx (rowA a3 ia ib (mul_7 j) k9 k10 k11) (seq_nx (rowB (by omega) k11) (seq_nx rowC2 ?_))
    rw [jp]
    exact f4
  · obtain ⟨q, h2, c1, c2, c3⟩ := draw (m := (P : Int)) a1 (by omega) (by omega)
    obtain ⟨h3, k, f1, f2, f3, f4⟩ := fin h2 [.seen b (j % P), .pair a b q] c1 (by simp) (fun e h => by
      simp only [List.mem_cons, List.not_mem_nil, or_false] at h
      rcases h with rfl | rfl
      · exact ⟨hb, lt⟩
      · exact ⟨ha, hb, ne, c2⟩)
    refine ⟨h3, _, _, .str a, .str b, [Ev.seen b (j % P), .pair a b q].map Ev.d, f1, ⟨f2, f3⟩, hset, ?_⟩
    refine seq_nx (rowA a3 ia ib (mul_7 j) k9 k10 k11) (seq_nx (rowB (by omega) k11) (seq_nx (rowC1 ne c3) ?_))
    rw [jp]
    exact f4
end MP
set_option Elab.async false
set_option linter.all false
set_option maxRecDepth 100000
set_option maxHeartbeats 2000000
namespace MP
open PySem PySem.Spec L2
theorem forL_range {tg : D → Fm → Option Fm} {body : Fm → OutS} (P : Nat → Fm → Prop) (N : Nat) (h : ∀ (j : Nat) fr, j < N → P j fr → ∃ fr1 fr2, tg (.int j) fr = some fr1 ∧ body fr1 = .nx fr2 ∧ P (j + 1) fr2) :
    ∀ (n j : Nat) (fr : Fm), j + n ≤ N → P j fr → ∃ fr', P (j + n) fr' ∧ forL tg body (rangeD j n) fr = .nx fr'
  | 0, j, fr, _, p => ⟨fr, p, rfl⟩
  | n + 1, j, fr, hj, p => by
    obtain ⟨fr1, fr2, h1, h2, h3⟩ := h j fr (by omega) p
    obtain ⟨fr', h4, h5⟩ := forL_range P N h n (j + 1) fr2 (by omega) h3
    refine ⟨fr', by rw [show j + (n + 1) = j + 1 + n by omega]; exact h4, ?_⟩
    have e : rangeD (j : Int) (n + 1) = .int j :: rangeD ((j + 1 : Nat) : Int) n := rfl
    rw [e]
    unfold forL
    rw [h1]
    simp only [h2]
    exact h5
theorem for_nx {fi : Fm → Out (List D)} {tg : D → Fm → Option Fm} {g : Fm → OutS} {a b : Fm} {ds : List D} (h : fi a = .ok ds a) (k : forL tg g ds a = .nx b) : sFor fi tg g a = .nx b := by
  unfold sFor
  rw [h]
  exact k
theorem rowS {R1 R2 : List Val → Rs} {S0 : D} {h h1 h2 : O} {r : Int} {C : List D} {x2 x3 x5 x6 : D} {o4 : O} (c1 : R1 [.own h, .fz (.int 11)] = .ret (.fz (.int r)) [.own h1, .fz (.int 11)]) (c2 : R2 [.own h1, .fz (.int 60)] = .ret (.fz (.tup C)) [.own h2, .fz (.int 60)]) :
    sPar [3, 7, 6] (sCons (sBin addD (sC (.int 2)) (sCall R1 (sCons (sVar 1) (sCons (sC (.int 11)) sNil)))) (sCons (sCall R2 (sCons (sVar 1) (sCons (sC (.int 60)) sNil))) (sCons (sLst sNil) sNil)))
      [.fz S0, .own h, .fz x2, .fz x3, .own o4, .fz x5, .fz x6, .non, .non, .non, .non, .non] = .nx [.fz S0, .own h2, .fz x2, .fz (.int (2 + r)), .own o4, .fz x5, .own (.lst []), .fz (.tup C), .non, .non, .non, .non] := by
  simp [c1, c2]
theorem rowE {R : List Val → Rs} {S0 : D} {h o4 : O} {t d5 : D} {p : Int} {L C : List D} {x8 x9 x10 : D} {o11 : O} (c1 : R [.fz (.int p), .fz (.tup L)] = .ret (.fz (.bl true)) [.fz (.int p), .fz (.tup L)]) (c2 : R [.fz (.int p), .fz (.tup [.tup []])] = .ret (.fz (.bl true)) [.fz (.int p), .fz (.tup [.tup []])]) :
    sRet (sAndV (sCall R (sCons (sFz (sVar 3)) (sCons (sB (gOne tupD) (sCons (sVar 6) sNil)) sNil))) (sCall R (sCons (sFz (sVar 3)) (sCons (sTup (sCons (sTup sNil) sNil)) sNil))))
      [.fz S0, .own h, .fz t, .fz (.int p), .own o4, .fz d5, .own (.lst L), .fz (.tup C), .fz x8, .fz x9, .fz x10, .own o11] = .rt (.fz (.bl true)) [.fz S0, .own h, .fz t, .fz (.int p), .own o4, .fz d5, .own (.lst L), .fz (.tup C), .fz x8, .fz x9, .fz x10, .own o11] := by
  simp [c1, c2]
theorem pure_law (ns : List Int) (hn : ns.length ≤ 63) : ∃ os, R_law [.fz (.scr ns)] = .ret (.fz (.bl true)) os := by
  obtain ⟨h0, hh0, e0⟩ := law_hand ns hn
  have s1 : sSet 1 (sCall R_law_hand (sCons (sVar 0) sNil)) [.fz (.scr ns), .non, .non, .non, .non, .non, .non, .non, .non, .non, .non, .non] = .nx [.fz (.scr ns), .own h0, .non, .non, .non, .non, .non, .non, .non, .non, .non, .non] := by
    simp [e0]
  obtain ⟨fr4, ⟨h4, x2, x3, x4, x5, x6, hh4, t4, hp4, rfl⟩, l4⟩ := forL_range (tg := gN 2) (body := sSeq (sPar [3, 4] (sCons (sBin addD (sC (.int 2)) (sCall R_law_draw (sCons (sVar 1) (sCons (sC (.int 11)) sNil)))) (sCons (sLst (sCons (sC (.str "day")) (sCons (sC (.str "pair")) (sCons (sC (.str "seen")) (sCons (sC (.str "lock")) sNil))))) sNil))) (sSeq (sSet 5 (sBin addD (sB (gOne lstD) (sCons (sCall R_law_names (sCons (sVar 1) (sCons (sBin addD (sC (.int 1)) (sCall R_law_draw (sCons (sVar 1) (sCons (sC (.int 6)) sNil)))) (sCons (sVar 4) sNil)))) sNil)) (sSl slG (sVar 4) sP0 (sP1 (sCall R_law_draw (sCons (sVar 1) (sCons (sC (.int 5)) sNil))))))) (sSeq (sSet 6 (sCall R_law_days (sCons (sVar 1) (sCons (sVar 3) (sCons (sFz (sVar 5)) (sCons (sBin addD (sC (.int 1)) (sCall R_law_draw (sCons (sVar 1) (sCons (sC (.int 12)) sNil)))) (sCons (sCall R_law_any (sCons (sVar 1) (sCons (sLst (sCons (sC (.int 0)) (sCons (sC (.int 2)) (sCons (sC (.int 12)) sNil)))) sNil))) (sCons (sC (.int 2)) sNil)))))))) (sIfS (sOr (sNot (sTru (sCall R_law_is_read (sCons (sFz (sVar 3)) (sCons (sFz (sVar 6)) sNil))))) (sNot (sTru (sCall R_law_lines_right (sCons (sVar 1) (sCons (sFz (sVar 3)) (sCons (sFz (sVar 6)) sNil))))))) (sRet (sC (.bl false))) sSkip))))
    (fun j fr => ∃ (h : O) (x2 x3 x4 x5 x6 : Sl), Hand h ∧ Tn x2 x3 x4 x5 x6 ∧ (0 < j → x2 ≠ .non) ∧ fr = [.fz (.scr ns), .own h, x2, x3, x4, x5, x6, .non, .non, .non, .non, .non])
    4 (fun j fr _ ⟨h, x2, x3, x4, x5, x6, hh, t, hp, e⟩ => by
      subst e
      obtain ⟨h', y3, y4, y5, y6, fr1, k1, k2, k3, k4⟩ := turn (S0 := .scr ns) hh t (j : Int)
      exact ⟨fr1, _, k3, k4, h', _, y3, y4, y5, y6, k1, k2, fun _ z => (nomatch z), rfl⟩)
    4 0 [.fz (.scr ns), .own h0, .non, .non, .non, .non, .non, .non, .non, .non, .non, .non] (by omega) ⟨h0, _, _, _, _, _, hh0, .first, fun z => absurd z (by omega), rfl⟩
  cases t4 with
  | first => exact absurd rfl (hp4 (by omega))
  | later a b c d e =>
    obtain ⟨r, h5, a1, a2, a3⟩ := draw (m := 11) hh4 (by omega) (by omega)
    obtain ⟨zs, h6, b1, b2, b3, b4⟩ := crew a1 60 (by omega)
    have s3 := rowS (S0 := .scr ns) (x2 := .int a) (x3 := .int b) (x5 := .lst d) (x6 := e) (o4 := .lst c) a3 b4
    obtain ⟨fr7, ⟨h7, ds, y8, y9, y10, y11, hh7, t7, hp7, dl, de, rfl⟩, l7⟩ := forL_range (tg := gN 8) (body := sSeq (sPar [9, 10] (sCons (sBin ixG (sVar 7) (sBin (gI (fun _ j => decide (0 < j)) fun i j => .int (i % j)) (sB (gOne intD) (sCons (sVar 8) sNil)) (sC (.int 60)))) (sCons (sBin ixG (sVar 7) (sBin (gI (fun _ j => decide (0 < j)) fun i j => .int (i % j)) (sB (gOne intD) (sCons (sBin addD (sBin addD (sBin mulD (sC (.int 7)) (sVar 8)) (sC (.int 1))) (sCall R_law_draw (sCons (sVar 1) (sCons (sC (.int 9)) sNil)))) sNil)) (sC (.int 60)))) sNil))) (sSeq (sSet 11 (sLst (sCons (sTup (sCons (sC (.str "seen")) (sCons (sVar 10) (sCons (sBin (gI (fun _ j => decide (0 < j)) fun i j => .int (i % j)) (sB (gOne intD) (sCons (sVar 8) sNil)) (sVar 3)) sNil)))) sNil))) (sSeq (sIfS (sTst (sBin neG (sVar 9) (sVar 10))) (sExpr (sW "list" appG (sVar 11) (sCons (sTup (sCons (sC (.str "pair")) (sCons (sVar 9) (sCons (sVar 10) (sCons (sCall R_law_draw (sCons (sVar 1) (sCons (sVar 3) sNil))) sNil))))) sNil))) sSkip) (sExpr (sW "list" appG (sVar 6) (sCons (sB (gOne tupD) (sCons (sBin mulD (sVar 11) (sCall R_law_any (sCons (sVar 1) (sCons (sLst (sCons (sC (.int 0)) (sCons (sC (.int 1)) (sCons (sC (.int 6)) sNil)))) sNil)))) sNil)) sNil))))))
      (fun j fr => ∃ (h : O) (ds : List (List Ev)) (x8 x9 x10 x11 : Sl), Hand h ∧ Tr x8 x9 x10 x11 ∧ (0 < j → x8 ≠ .non) ∧ ds.length = j ∧ (∀ es ∈ ds, es.length ≤ 12 ∧ ∀ e ∈ es, okEv (((2 + r : Nat)) : Int) zs e) ∧
        fr = [.fz (.scr ns), .own h, .fz (.int a), .fz (.int ((2 + r : Nat) : Int)), .own (.lst c), .fz (.lst d), .own (.lst (ds.map dayD)), .fz (.tup (zs.map D.str)), x8, x9, x10, x11])
      200 (fun j fr hj ⟨h, ds, x8, x9, x10, x11, hh, t, hp, dl, de, e⟩ => by
        subst e
        obtain ⟨h', es, fr1, ya, yb, row, k1, k2, k4, k5⟩ := row_turn (S0 := .scr ns) (d5 := .lst d) (o4 := .lst c) (t := .int a) (zs := zs) (ds := ds) (P := 2 + r) hh b2 (by omega) (by omega) (by omega) t j
        refine ⟨fr1, _, k4, k5, h', ds ++ [es], _, _, _, _, k1, .later _ _ _ _, fun _ z => (nomatch z), by rw [List.length_append, dl]; rfl, fun q hq => ?_, rfl⟩
        rcases List.mem_append.mp hq with hq | hq
        · exact de q hq
        · rw [List.mem_singleton] at hq
          subst hq
          exact k2)
      200 0 [.fz (.scr ns), .own h6, .fz (.int a), .fz (.int ((2 + r : Nat) : Int)), .own (.lst c), .fz (.lst d), .own (.lst []), .fz (.tup (zs.map D.str)), .non, .non, .non, .non] (by omega) ⟨h6, [], _, _, _, _, b1, .first, fun z => absurd z (by omega), rfl, fun _ h => (nomatch h), rfl⟩
    cases t7 with
    | first => exact absurd rfl (hp7 (by omega))
    | later y8 y9 y10 row =>
      have rr : ((2 + r : Nat) : Int) = 2 + (r : Int) := by omega
      have ok : okLog ((2 + r : Nat) : Int) zs ds := ⟨by omega, by omega, b3, by omega, by omega, by omega, de⟩
      have ok1 : okLog ((2 + r : Nat) : Int) zs [[]] := ⟨by omega, by omega, b3, by omega, by simp, by simp, fun q hq => by
        rw [List.mem_singleton] at hq
        subst hq
        exact ⟨by simp, fun _ h => (nomatch h)⟩⟩
      have i1 := is_read ok
      have i2 := is_read ok1
      have s9 := rowE (S0 := .scr ns) (h := h7) (o4 := .lst c) (t := .int a) (d5 := .lst d) (C := zs.map D.str) (x8 := y8) (x9 := y9) (x10 := y10) (o11 := .lst row) i1 i2
      rw [← rr] at s3
      have hl : [Val.fz (.scr ns)].length = 1 := rfl
      refine ⟨[.fz (.scr ns)], ?_⟩
      unfold R_law b_law
      rw [if_pos hl]
      have hi : initF 12 [Val.fz (.scr ns)] = [.fz (.scr ns), .non, .non, .non, .non, .non, .non, .non, .non, .non, .non, .non] := rfl
      rw [hi]
      have fin : ∀ {o : OutS} {v : Val} {fr : Fm} {os : List Val}, o = .rt v fr → finals os fr = os → ofBody os o = .ret v os := fun e1 e2 => by rw [e1]; exact congrArg _ e2
      refine fin (seq_nx s1 (seq_nx (for_nx rfl l4) (seq_nx s3 (seq_nx (for_nx rfl l7) s9)))) rfl
end MP
set_option Elab.async false
set_option linter.all false
set_option maxRecDepth 100000
set_option maxHeartbeats 2000000
namespace MP
open PySem PySem.Spec L2
theorem ok_is_integer {P : Program} {w : World} {G : Gx} {mg : Str → Option Value} {base : Heap} {f : Addr} {fd : FuncData} (T : Tx G mg) (ck : Clk G [0])  (Fn : Fun G.K "is_integer" "is_integer" s_is_integer f fd) : FnOk P w G.K mg base (L2.CX P w) 1 f fd ["thing"] (spF G R_is_integer) := by
  refine fn_mk (k := 0) (R := R_is_integer) Fn sc_is_integer (b_is_integer) (fun cdv A outer s H B E hr => d_is_integer T ck cdv A outer s H B E hr) (fun os h => ?_) (fun os h => ?_)
  · by_cases z : os.length = 1
    · exact z
    · exact absurd (if_neg z) h
  · by_cases z : os.length = 1
    · exact (if_pos z).symm
    · exact absurd (if_neg z) h
theorem ok_is_name {P : Program} {w : World} {G : Gx} {mg : Str → Option Value} {base : Heap} {f : Addr} {fd : FuncData} (T : Tx G mg) (ck : Clk G [0])  (Fn : Fun G.K "is_name" "is_name" s_is_name f fd) : FnOk P w G.K mg base (L2.CX P w) 1 f fd ["thing"] (spF G R_is_name) := by
  refine fn_mk (k := 0) (R := R_is_name) Fn sc_is_name (b_is_name) (fun cdv A outer s H B E hr => d_is_name T ck cdv A outer s H B E hr) (fun os h => ?_) (fun os h => ?_)
  · by_cases z : os.length = 1
    · exact z
    · exact absurd (if_neg z) h
  · by_cases z : os.length = 1
    · exact (if_pos z).symm
    · exact absurd (if_neg z) h
theorem ok_names_in {P : Program} {w : World} {G : Gx} {mg : Str → Option Value} {base : Heap} {f : Addr} {fd : FuncData} (T : Tx G mg)  (Fn : Fun G.K "names_in" "names_in" s_names_in f fd) : FnOk P w G.K mg base (L2.CX P w) 1 f fd ["event"] (spF G R_names_in) := by
  refine fn_mk (k := 0) (R := R_names_in) Fn sc_names_in (b_names_in) (fun cdv A outer s H B E hr => d_names_in T cdv A outer s H B E hr) (fun os h => ?_) (fun os h => ?_)
  · by_cases z : os.length = 1
    · exact z
    · exact absurd (if_neg z) h
  · by_cases z : os.length = 1
    · exact (if_pos z).symm
    · exact absurd (if_neg z) h
theorem ok_Log_eq {P : Program} {w : World} {G : Gx} {mg : Str → Option Value} {base : Heap} {f : Addr} {fd : FuncData} (T : Tx G mg) (ck : Clk G [0])  (Fn : Fun G.K "__eq__" "Log.__eq__" s_Log_eq f fd) : FnOk P w G.K mg base (L2.CX P w) 1 f fd ["self", "other"] (spF G R_Log_eq) := by
  refine fn_mk (k := 0) (R := R_Log_eq) Fn sc_Log_eq (b_Log_eq) (fun cdv A outer s H B E hr => d_Log_eq T ck cdv A outer s H B E hr) (fun os h => ?_) (fun os h => ?_)
  · by_cases z : os.length = 2
    · exact z
    · exact absurd (if_neg z) h
  · by_cases z : os.length = 2
    · exact (if_pos z).symm
    · exact absurd (if_neg z) h
theorem ok_Log_len {P : Program} {w : World} {G : Gx} {mg : Str → Option Value} {base : Heap} {f : Addr} {fd : FuncData} (T : Tx G mg)  (Fn : Fun G.K "__len__" "Log.__len__" s_Log_len f fd) : FnOk P w G.K mg base (L2.CX P w) 1 f fd ["self"] (spF G R_Log_len) := by
  refine fn_mk (k := 0) (R := R_Log_len) Fn sc_Log_len (b_Log_len) (fun cdv A outer s H B E hr => d_Log_len T cdv A outer s H B E hr) (fun os h => ?_) (fun os h => ?_)
  · by_cases z : os.length = 1
    · exact z
    · exact absurd (if_neg z) h
  · by_cases z : os.length = 1
    · exact (if_pos z).symm
    · exact absurd (if_neg z) h
theorem ok_check_log {P : Program} {w : World} {G : Gx} {mg : Str → Option Value} {base : Heap} {f : Addr} {fd : FuncData} (T : Tx G mg) (ck : Clk G [0])  (Fn : Fun G.K "check_log" "check_log" s_check_log f fd) : FnOk P w G.K mg base (L2.CX P w) 1 f fd ["log"] (spF G R_check_log) := by
  refine fn_mk (k := 0) (R := R_check_log) Fn sc_check_log (b_check_log) (fun cdv A outer s H B E hr => d_check_log T ck cdv A outer s H B E hr) (fun os h => ?_) (fun os h => ?_)
  · by_cases z : os.length = 1
    · exact z
    · exact absurd (if_neg z) h
  · by_cases z : os.length = 1
    · exact (if_pos z).symm
    · exact absurd (if_neg z) h
theorem ok_integer_of {P : Program} {w : World} {G : Gx} {mg : Str → Option Value} {base : Heap} {f : Addr} {fd : FuncData} (T : Tx G mg)  (Fn : Fun G.K "integer_of" "integer_of" s_integer_of f fd) : FnOk P w G.K mg base (L2.CX P w) 1 f fd ["word"] (spF G R_integer_of) := by
  refine fn_mk (k := 0) (R := R_integer_of) Fn sc_integer_of (b_integer_of) (fun cdv A outer s H B E hr => d_integer_of T cdv A outer s H B E hr) (fun os h => ?_) (fun os h => ?_)
  · by_cases z : os.length = 1
    · exact z
    · exact absurd (if_neg z) h
  · by_cases z : os.length = 1
    · exact (if_pos z).symm
    · exact absurd (if_neg z) h
theorem ok_law_hand {P : Program} {w : World} {G : Gx} {mg : Str → Option Value} {base : Heap} {f : Addr} {fd : FuncData} (T : Tx G mg)  (Fn : Fun G.K "_law_hand" "_law_hand" s_law_hand f fd) : FnOk P w G.K mg base (L2.CX P w) 1 f fd ["script"] (spF G R_law_hand) := by
  refine fn_mk (k := 0) (R := R_law_hand) Fn sc_law_hand (b_law_hand) (fun cdv A outer s H B E hr => d_law_hand T cdv A outer s H B E hr) (fun os h => ?_) (fun os h => ?_)
  · by_cases z : os.length = 1
    · exact z
    · exact absurd (if_neg z) h
  · by_cases z : os.length = 1
    · exact (if_pos z).symm
    · exact absurd (if_neg z) h
theorem ok_law_draw {P : Program} {w : World} {G : Gx} {mg : Str → Option Value} {base : Heap} {f : Addr} {fd : FuncData} (T : Tx G mg)  (Fn : Fun G.K "_law_draw" "_law_draw" s_law_draw f fd) : FnOk P w G.K mg base (L2.CX P w) 1 f fd ["hand", "many"] (spF G R_law_draw) := by
  refine fn_mk (k := 0) (R := R_law_draw) Fn sc_law_draw (b_law_draw) (fun cdv A outer s H B E hr => d_law_draw T cdv A outer s H B E hr) (fun os h => ?_) (fun os h => ?_)
  · by_cases z : os.length = 2
    · exact z
    · exact absurd (if_neg z) h
  · by_cases z : os.length = 2
    · exact (if_pos z).symm
    · exact absurd (if_neg z) h
theorem ok_law_text {P : Program} {w : World} {G : Gx} {mg : Str → Option Value} {base : Heap} {f : Addr} {fd : FuncData} (T : Tx G mg)  (Fn : Fun G.K "_law_text" "_law_text" s_law_text f fd) : FnOk P w G.K mg base (L2.CX P w) 1 f fd ["parts", "days"] (spF G R_law_text) := by
  refine fn_mk (k := 0) (R := R_law_text) Fn sc_law_text (b_law_text) (fun cdv A outer s H B E hr => d_law_text T cdv A outer s H B E hr) (fun os h => ?_) (fun os h => ?_)
  · by_cases z : os.length = 2
    · exact z
    · exact absurd (if_neg z) h
  · by_cases z : os.length = 2
    · exact (if_pos z).symm
    · exact absurd (if_neg z) h
theorem ok_is_within {P : Program} {w : World} {G : Gx} {mg : Str → Option Value} {base : Heap} {f : Addr} {fd : FuncData} (T : Tx G mg) (c_is_integer : Cal P w G mg base "is_integer" 1 R_is_integer) (Fn : Fun G.K "is_within" "is_within" s_is_within f fd) : FnOk P w G.K mg base (L2.CX P w) 2 f fd ["thing", "low", "high"] (spF G R_is_within) := by
  refine fn_mk (k := 1) (R := R_is_within) Fn sc_is_within (b_is_within R_is_integer) (fun cdv A outer s H B E hr => d_is_within T c_is_integer cdv A outer s H B E hr) (fun os h => ?_) (fun os h => ?_)
  · by_cases z : os.length = 3
    · exact z
    · exact absurd (if_neg z) h
  · by_cases z : os.length = 3
    · exact (if_pos z).symm
    · exact absurd (if_neg z) h
theorem ok_take_names {P : Program} {w : World} {G : Gx} {mg : Str → Option Value} {base : Heap} {f : Addr} {fd : FuncData} (T : Tx G mg) (c_names_in : Cal P w G mg base "names_in" 1 R_names_in) (Fn : Fun G.K "take_names" "take_names" s_take_names f fd) : FnOk P w G.K mg base (L2.CX P w) 2 f fd ["names", "event"] (spF G R_take_names) := by
  refine fn_mk (k := 1) (R := R_take_names) Fn sc_take_names (b_take_names R_names_in) (fun cdv A outer s H B E hr => d_take_names T c_names_in cdv A outer s H B E hr) (fun os h => ?_) (fun os h => ?_)
  · by_cases z : os.length = 2
    · exact z
    · exact absurd (if_neg z) h
  · by_cases z : os.length = 2
    · exact (if_pos z).symm
    · exact absurd (if_neg z) h
theorem ok_check_same_parts {P : Program} {w : World} {G : Gx} {mg : Str → Option Value} {base : Heap} {f : Addr} {fd : FuncData} (T : Tx G mg) (c_check_log : Cal P w G mg base "check_log" 1 R_check_log) (Fn : Fun G.K "check_same_parts" "check_same_parts" s_check_same_parts f fd) : FnOk P w G.K mg base (L2.CX P w) 2 f fd ["one", "other"] (spF G R_check_same_parts) := by
  refine fn_mk (k := 1) (R := R_check_same_parts) Fn sc_check_same_parts (b_check_same_parts R_check_log) (fun cdv A outer s H B E hr => d_check_same_parts T c_check_log cdv A outer s H B E hr) (fun os h => ?_) (fun os h => ?_)
  · by_cases z : os.length = 2
    · exact z
    · exact absurd (if_neg z) h
  · by_cases z : os.length = 2
    · exact (if_pos z).symm
    · exact absurd (if_neg z) h
theorem ok_log_text {P : Program} {w : World} {G : Gx} {mg : Str → Option Value} {base : Heap} {f : Addr} {fd : FuncData} (T : Tx G mg) (c_check_log : Cal P w G mg base "check_log" 1 R_check_log) (Fn : Fun G.K "log_text" "log_text" s_log_text f fd) : FnOk P w G.K mg base (L2.CX P w) 2 f fd ["log"] (spF G R_log_text) := by
  refine fn_mk (k := 1) (R := R_log_text) Fn sc_log_text (b_log_text R_check_log) (fun cdv A outer s H B E hr => d_log_text T c_check_log cdv A outer s H B E hr) (fun os h => ?_) (fun os h => ?_)
  · by_cases z : os.length = 1
    · exact z
    · exact absurd (if_neg z) h
  · by_cases z : os.length = 1
    · exact (if_pos z).symm
    · exact absurd (if_neg z) h
theorem ok_read_event {P : Program} {w : World} {G : Gx} {mg : Str → Option Value} {base : Heap} {f : Addr} {fd : FuncData} (T : Tx G mg) (c_is_name : Cal P w G mg base "is_name" 1 R_is_name) (c_integer_of : Cal P w G mg base "integer_of" 1 R_integer_of) (Fn : Fun G.K "read_event" "read_event" s_read_event f fd) : FnOk P w G.K mg base (L2.CX P w) 2 f fd ["words"] (spF G R_read_event) := by
  refine fn_mk (k := 1) (R := R_read_event) Fn sc_read_event (b_read_event R_is_name R_integer_of) (fun cdv A outer s H B E hr => d_read_event T c_is_name c_integer_of cdv A outer s H B E hr) (fun os h => ?_) (fun os h => ?_)
  · by_cases z : os.length = 1
    · exact z
    · exact absurd (if_neg z) h
  · by_cases z : os.length = 1
    · exact (if_pos z).symm
    · exact absurd (if_neg z) h
theorem ok_read_lock {P : Program} {w : World} {G : Gx} {mg : Str → Option Value} {base : Heap} {f : Addr} {fd : FuncData} (T : Tx G mg) (c_integer_of : Cal P w G mg base "integer_of" 1 R_integer_of) (Fn : Fun G.K "read_lock" "read_lock" s_read_lock f fd) : FnOk P w G.K mg base (L2.CX P w) 2 f fd ["line"] (spF G R_read_lock) := by
  refine fn_mk (k := 1) (R := R_read_lock) Fn sc_read_lock (b_read_lock R_integer_of) (fun cdv A outer s H B E hr => d_read_lock T c_integer_of cdv A outer s H B E hr) (fun os h => ?_) (fun os h => ?_)
  · by_cases z : os.length = 1
    · exact z
    · exact absurd (if_neg z) h
  · by_cases z : os.length = 1
    · exact (if_pos z).symm
    · exact absurd (if_neg z) h
theorem ok_law_any {P : Program} {w : World} {G : Gx} {mg : Str → Option Value} {base : Heap} {f : Addr} {fd : FuncData} (T : Tx G mg) (c_law_draw : Cal P w G mg base "_law_draw" 1 R_law_draw) (Fn : Fun G.K "_law_any" "_law_any" s_law_any f fd) : FnOk P w G.K mg base (L2.CX P w) 2 f fd ["hand", "some"] (spF G R_law_any) := by
  refine fn_mk (k := 1) (R := R_law_any) Fn sc_law_any (b_law_any R_law_draw) (fun cdv A outer s H B E hr => d_law_any T c_law_draw cdv A outer s H B E hr) (fun os h => ?_) (fun os h => ?_)
  · by_cases z : os.length = 2
    · exact z
    · exact absurd (if_neg z) h
  · by_cases z : os.length = 2
    · exact (if_pos z).symm
    · exact absurd (if_neg z) h
theorem ok_law_dealing_of {P : Program} {w : World} {G : Gx} {mg : Str → Option Value} {base : Heap} {f : Addr} {fd : FuncData} (T : Tx G mg) (c_law_draw : Cal P w G mg base "_law_draw" 1 R_law_draw) (Fn : Fun G.K "_law_dealing_of" "_law_dealing_of" s_law_dealing_of f fd) : FnOk P w G.K mg base (L2.CX P w) 2 f fd ["hand", "parts", "words"] (spF G R_law_dealing_of) := by
  refine fn_mk (k := 1) (R := R_law_dealing_of) Fn sc_law_dealing_of (b_law_dealing_of R_law_draw) (fun cdv A outer s H B E hr => d_law_dealing_of T c_law_draw cdv A outer s H B E hr) (fun os h => ?_) (fun os h => ?_)
  · by_cases z : os.length = 3
    · exact z
    · exact absurd (if_neg z) h
  · by_cases z : os.length = 3
    · exact (if_pos z).symm
    · exact absurd (if_neg z) h
theorem ok_is_event {P : Program} {w : World} {G : Gx} {mg : Str → Option Value} {base : Heap} {f : Addr} {fd : FuncData} (T : Tx G mg) (ck : Clk G [0]) (c_is_name : Cal P w G mg base "is_name" 1 R_is_name) (c_is_within : Cal P w G mg base "is_within" 2 R_is_within) (Fn : Fun G.K "is_event" "is_event" s_is_event f fd) : FnOk P w G.K mg base (L2.CX P w) 3 f fd ["parts", "thing"] (spF G R_is_event) := by
  refine fn_mk (k := 2) (R := R_is_event) Fn sc_is_event (b_is_event R_is_name R_is_within) (fun cdv A outer s H B E hr => d_is_event T ck c_is_name c_is_within cdv A outer s H B E hr) (fun os h => ?_) (fun os h => ?_)
  · by_cases z : os.length = 2
    · exact z
    · exact absurd (if_neg z) h
  · by_cases z : os.length = 2
    · exact (if_pos z).symm
    · exact absurd (if_neg z) h
theorem ok_check_stretch {P : Program} {w : World} {G : Gx} {mg : Str → Option Value} {base : Heap} {f : Addr} {fd : FuncData} (T : Tx G mg) (c_check_log : Cal P w G mg base "check_log" 1 R_check_log) (c_is_within : Cal P w G mg base "is_within" 2 R_is_within) (Fn : Fun G.K "check_stretch" "check_stretch" s_check_stretch f fd) : FnOk P w G.K mg base (L2.CX P w) 3 f fd ["log", "first", "end"] (spF G R_check_stretch) := by
  refine fn_mk (k := 2) (R := R_check_stretch) Fn sc_check_stretch (b_check_stretch R_check_log R_is_within) (fun cdv A outer s H B E hr => d_check_stretch T c_check_log c_is_within cdv A outer s H B E hr) (fun os h => ?_) (fun os h => ?_)
  · by_cases z : os.length = 3
    · exact z
    · exact absurd (if_neg z) h
  · by_cases z : os.length = 3
    · exact (if_pos z).symm
    · exact absurd (if_neg z) h
theorem ok_read_day {P : Program} {w : World} {G : Gx} {mg : Str → Option Value} {base : Heap} {f : Addr} {fd : FuncData} (T : Tx G mg) (c_read_event : Cal P w G mg base "read_event" 2 R_read_event) (Fn : Fun G.K "read_day" "read_day" s_read_day f fd) : FnOk P w G.K mg base (L2.CX P w) 3 f fd ["line"] (spF G R_read_day) := by
  refine fn_mk (k := 2) (R := R_read_day) Fn sc_read_day (b_read_day R_read_event 100) (fun cdv A outer s H B E hr => d_read_day T 100 c_read_event cdv A outer s H B E hr) (fun os h => ?_) (fun os h => ?_)
  · by_cases z : os.length = 1
    · exact z
    · exact absurd (if_neg z) h
  · by_cases z : os.length = 1
    · exact (if_pos z).symm
    · exact absurd (if_neg z) h
theorem ok_law_name {P : Program} {w : World} {G : Gx} {mg : Str → Option Value} {base : Heap} {f : Addr} {fd : FuncData} (T : Tx G mg) (c_law_any : Cal P w G mg base "_law_any" 2 R_law_any) (Fn : Fun G.K "_law_name" "_law_name" s_law_name f fd) : FnOk P w G.K mg base (L2.CX P w) 3 f fd ["hand", "taken"] (spF G R_law_name) := by
  refine fn_mk (k := 2) (R := R_law_name) Fn sc_law_name (b_law_name R_law_any) (fun cdv A outer s H B E hr => d_law_name T c_law_any cdv A outer s H B E hr) (fun os h => ?_) (fun os h => ?_)
  · by_cases z : os.length = 2
    · exact z
    · exact absurd (if_neg z) h
  · by_cases z : os.length = 2
    · exact (if_pos z).symm
    · exact absurd (if_neg z) h
theorem ok_law_crew {P : Program} {w : World} {G : Gx} {mg : Str → Option Value} {base : Heap} {f : Addr} {fd : FuncData} (T : Tx G mg) (c_law_any : Cal P w G mg base "_law_any" 2 R_law_any) (c_law_draw : Cal P w G mg base "_law_draw" 1 R_law_draw) (Fn : Fun G.K "_law_crew" "_law_crew" s_law_crew f fd) : FnOk P w G.K mg base (L2.CX P w) 3 f fd ["hand", "many"] (spF G R_law_crew) := by
  refine fn_mk (k := 2) (R := R_law_crew) Fn sc_law_crew (b_law_crew R_law_any R_law_draw) (fun cdv A outer s H B E hr => d_law_crew T c_law_any c_law_draw cdv A outer s H B E hr) (fun os h => ?_) (fun os h => ?_)
  · by_cases z : os.length = 2
    · exact z
    · exact absurd (if_neg z) h
  · by_cases z : os.length = 2
    · exact (if_pos z).symm
    · exact absurd (if_neg z) h
theorem ok_law_event {P : Program} {w : World} {G : Gx} {mg : Str → Option Value} {base : Heap} {f : Addr} {fd : FuncData} (T : Tx G mg) (c_law_any : Cal P w G mg base "_law_any" 2 R_law_any) (c_law_draw : Cal P w G mg base "_law_draw" 1 R_law_draw) (Fn : Fun G.K "_law_event" "_law_event" s_law_event f fd) : FnOk P w G.K mg base (L2.CX P w) 3 f fd ["hand", "parts", "dealt", "words"] (spF G R_law_event) := by
  refine fn_mk (k := 2) (R := R_law_event) Fn sc_law_event (b_law_event R_law_any R_law_draw) (fun cdv A outer s H B E hr => d_law_event T c_law_any c_law_draw cdv A outer s H B E hr) (fun os h => ?_) (fun os h => ?_)
  · by_cases z : os.length = 4
    · exact z
    · exact absurd (if_neg z) h
  · by_cases z : os.length = 4
    · exact (if_pos z).symm
    · exact absurd (if_neg z) h
theorem ok_check_days {P : Program} {w : World} {G : Gx} {mg : Str → Option Value} {base : Heap} {f : Addr} {fd : FuncData} (T : Tx G mg) (ck : Clk G [0]) (c_is_event : Cal P w G mg base "is_event" 3 R_is_event) (c_take_names : Cal P w G mg base "take_names" 2 R_take_names) (Fn : Fun G.K "check_days" "check_days" s_check_days f fd) : FnOk P w G.K mg base (L2.CX P w) 4 f fd ["parts", "days"] (spF G R_check_days) := by
  refine fn_mk (k := 3) (R := R_check_days) Fn sc_check_days (b_check_days R_is_event R_take_names) (fun cdv A outer s H B E hr => d_check_days T ck c_is_event c_take_names cdv A outer s H B E hr) (fun os h => ?_) (fun os h => ?_)
  · by_cases z : os.length = 2
    · exact z
    · exact absurd (if_neg z) h
  · by_cases z : os.length = 2
    · exact (if_pos z).symm
    · exact absurd (if_neg z) h
theorem ok_law_names {P : Program} {w : World} {G : Gx} {mg : Str → Option Value} {base : Heap} {f : Addr} {fd : FuncData} (T : Tx G mg) (c_law_name : Cal P w G mg base "_law_name" 3 R_law_name) (Fn : Fun G.K "_law_names" "_law_names" s_law_names f fd) : FnOk P w G.K mg base (L2.CX P w) 4 f fd ["hand", "many", "taken"] (spF G R_law_names) := by
  refine fn_mk (k := 3) (R := R_law_names) Fn sc_law_names (b_law_names R_law_name) (fun cdv A outer s H B E hr => d_law_names T c_law_name cdv A outer s H B E hr) (fun os h => ?_) (fun os h => ?_)
  · by_cases z : os.length = 3
    · exact z
    · exact absurd (if_neg z) h
  · by_cases z : os.length = 3
    · exact (if_pos z).symm
    · exact absurd (if_neg z) h
theorem ok_law_days {P : Program} {w : World} {G : Gx} {mg : Str → Option Value} {base : Heap} {f : Addr} {fd : FuncData} (T : Tx G mg) (c_law_dealing_of : Cal P w G mg base "_law_dealing_of" 2 R_law_dealing_of) (c_law_draw : Cal P w G mg base "_law_draw" 1 R_law_draw) (c_law_event : Cal P w G mg base "_law_event" 3 R_law_event) (Fn : Fun G.K "_law_days" "_law_days" s_law_days f fd) : FnOk P w G.K mg base (L2.CX P w) 4 f fd ["hand", "parts", "words", "many", "each", "change"] (spF G R_law_days) := by
  refine fn_mk (k := 3) (R := R_law_days) Fn sc_law_days (b_law_days R_law_dealing_of R_law_draw R_law_event) (fun cdv A outer s H B E hr => d_law_days T c_law_dealing_of c_law_draw c_law_event cdv A outer s H B E hr) (fun os h => ?_) (fun os h => ?_)
  · by_cases z : os.length = 6
    · exact z
    · exact absurd (if_neg z) h
  · by_cases z : os.length = 6
    · exact (if_pos z).symm
    · exact absurd (if_neg z) h
theorem ok_Log_init {P : Program} {w : World} {G : Gx} {mg : Str → Option Value} {base : Heap} {f : Addr} {fd : FuncData} (T : Tx G mg) (c_is_within : Cal P w G mg base "is_within" 2 R_is_within) (c_check_days : Cal P w G mg base "check_days" 4 R_check_days) (Fn : Fun G.K "__init__" "Log.__init__" s_Log_init f fd) : FnOk P w G.K mg base (L2.CX P w) 5 f fd ["self", "parts", "days"] (spF G R_Log_init) := by
  refine fn_mk (k := 4) (R := R_Log_init) Fn sc_Log_init (b_Log_init R_is_within R_check_days) (fun cdv A outer s H B E hr => d_Log_init T c_is_within c_check_days cdv A outer s H B E hr) (fun os h => ?_) (fun os h => ?_)
  · by_cases z : os.length = 3
    · exact z
    · exact absurd (if_neg z) h
  · by_cases z : os.length = 3
    · exact (if_pos z).symm
    · exact absurd (if_neg z) h
theorem ok_behind {P : Program} {w : World} {G : Gx} {mg : Str → Option Value} {base : Heap} {f : Addr} {fd : FuncData} (T : Tx G mg) (c_check_same_parts : Cal P w G mg base "check_same_parts" 2 R_check_same_parts) (c_Log_init : CalM P w G mg base "Log" 0 5 R_Log_init) (Fn : Fun G.K "behind" "behind" s_behind f fd) : FnOk P w G.K mg base (L2.CX P w) 7 f fd ["one", "other"] (spF G R_behind) := by
  refine fn_mk (k := 6) (R := R_behind) Fn sc_behind (b_behind R_check_same_parts R_Log_init) (fun cdv A outer s H B E hr => d_behind T c_check_same_parts c_Log_init cdv A outer s H B E hr) (fun os h => ?_) (fun os h => ?_)
  · by_cases z : os.length = 2
    · exact z
    · exact absurd (if_neg z) h
  · by_cases z : os.length = 2
    · exact (if_pos z).symm
    · exact absurd (if_neg z) h
theorem ok_cut {P : Program} {w : World} {G : Gx} {mg : Str → Option Value} {base : Heap} {f : Addr} {fd : FuncData} (T : Tx G mg) (c_check_stretch : Cal P w G mg base "check_stretch" 3 R_check_stretch) (c_Log_init : CalM P w G mg base "Log" 0 5 R_Log_init) (Fn : Fun G.K "cut" "cut" s_cut f fd) : FnOk P w G.K mg base (L2.CX P w) 7 f fd ["log", "first", "end"] (spF G R_cut) := by
  refine fn_mk (k := 6) (R := R_cut) Fn sc_cut (b_cut R_check_stretch R_Log_init) (fun cdv A outer s H B E hr => d_cut T c_check_stretch c_Log_init cdv A outer s H B E hr) (fun os h => ?_) (fun os h => ?_)
  · by_cases z : os.length = 3
    · exact z
    · exact absurd (if_neg z) h
  · by_cases z : os.length = 3
    · exact (if_pos z).symm
    · exact absurd (if_neg z) h
theorem ok_read_log {P : Program} {w : World} {G : Gx} {mg : Str → Option Value} {base : Heap} {f : Addr} {fd : FuncData} (T : Tx G mg) (ck : Clk G [0]) (c_read_lock : Cal P w G mg base "read_lock" 2 R_read_lock) (c_read_day : Cal P w G mg base "read_day" 3 R_read_day) (c_Log_init : CalM P w G mg base "Log" 0 5 R_Log_init) (Fn : Fun G.K "read_log" "read_log" s_read_log f fd) : FnOk P w G.K mg base (L2.CX P w) 7 f fd ["text"] (spF G R_read_log) := by
  refine fn_mk (k := 6) (R := R_read_log) Fn sc_read_log (b_read_log R_read_lock R_read_day R_Log_init) (fun cdv A outer s H B E hr => d_read_log T ck c_read_lock c_read_day c_Log_init cdv A outer s H B E hr) (fun os h => ?_) (fun os h => ?_)
  · by_cases z : os.length = 1
    · exact z
    · exact absurd (if_neg z) h
  · by_cases z : os.length = 1
    · exact (if_pos z).symm
    · exact absurd (if_neg z) h
theorem ok_law_is {P : Program} {w : World} {G : Gx} {mg : Str → Option Value} {base : Heap} {f : Addr} {fd : FuncData} (T : Tx G mg) (ck : Clk G [0])  (hm : mg "_law_is" = some (.ref f)) (hk : PySem.W.keepIn G.K (.ref f) = true) (hb : Binds G.K fd ["answer", "due"] []) (Fn : Fun G.K "_law_is" "_law_is" s_law_is f fd) : ∀ n, FnOk P w G.K mg base (L2.CX P w) (0 + n) f fd ["answer", "due"] (spF G (R_law_is n))
  | 0 => fn_bad
  | n + 1 => by
    have ih := ok_law_is (P := P) (w := w) (base := base) T ck  hm hk hb Fn n
    refine fn_mk (k := 0 + n) (R := R_law_is (n + 1)) Fn sc_law_is (b_law_is (R_law_is n)) (fun cdv A outer s H B E hr => d_law_is T (Nat.le_refl _) ck ⟨⟨f, fd, _, ih, hm, hk, hb⟩⟩ (Nat.le_add_right _ _) cdv A outer s H B E hr) (fun os h => ?_) (fun os h => ?_)
    · by_cases z : os.length = 2
      · exact z
      · exact absurd (if_neg z) h
    · by_cases z : os.length = 2
      · exact (if_pos z).symm
      · exact absurd (if_neg z) h
theorem ok_law_is_read {P : Program} {w : World} {G : Gx} {mg : Str → Option Value} {base : Heap} {f : Addr} {fd : FuncData} (T : Tx G mg) (ck : Clk G [0]) (c_law_text : Cal P w G mg base "_law_text" 1 R_law_text) (c_read_log : Cal P w G mg base "read_log" 7 R_read_log) (c_law_is : Cal P w G mg base "_law_is" 7 (R_law_is 7)) (c_log_text : Cal P w G mg base "log_text" 2 R_log_text) (c_Log_init : CalM P w G mg base "Log" 0 5 R_Log_init) (c_Log_len : CalL P w G mg base 0 "__len__" 1 R_Log_len) (c_Log_eq : CalE P w G mg base [0] 0 1 R_Log_eq) (Fn : Fun G.K "_law_is_read" "_law_is_read" s_law_is_read f fd) : FnOk P w G.K mg base (L2.CX P w) 8 f fd ["parts", "days"] (spF G R_law_is_read) := by
  refine fn_mk (k := 7) (R := R_law_is_read) Fn sc_law_is_read (b_law_is_read R_law_text R_read_log (R_law_is 7) R_log_text R_Log_init R_Log_len R_Log_eq) (fun cdv A outer s H B E hr => d_law_is_read T ck c_law_text c_read_log c_law_is c_log_text c_Log_init c_Log_len c_Log_eq cdv A outer s H B E hr) (fun os h => ?_) (fun os h => ?_)
  · by_cases z : os.length = 2
    · exact z
    · exact absurd (if_neg z) h
  · by_cases z : os.length = 2
    · exact (if_pos z).symm
    · exact absurd (if_neg z) h
theorem ok_law_lines_right {P : Program} {w : World} {G : Gx} {mg : Str → Option Value} {base : Heap} {f : Addr} {fd : FuncData} (T : Tx G mg) (c_law_draw : Cal P w G mg base "_law_draw" 1 R_law_draw) (c_Log_init : CalM P w G mg base "Log" 0 5 R_Log_init) (c_law_is : Cal P w G mg base "_law_is" 7 (R_law_is 7)) (c_law_text : Cal P w G mg base "_law_text" 1 R_law_text) (c_log_text : Cal P w G mg base "log_text" 2 R_log_text) (c_cut : Cal P w G mg base "cut" 7 R_cut) (c_behind : Cal P w G mg base "behind" 7 R_behind) (Fn : Fun G.K "_law_lines_right" "_law_lines_right" s_law_lines_right f fd) : FnOk P w G.K mg base (L2.CX P w) 8 f fd ["hand", "parts", "days"] (spF G R_law_lines_right) := by
  refine fn_mk (k := 7) (R := R_law_lines_right) Fn sc_law_lines_right (b_law_lines_right R_law_draw R_Log_init (R_law_is 7) R_law_text R_log_text R_cut R_behind) (fun cdv A outer s H B E hr => d_law_lines_right T c_law_draw c_Log_init c_law_is c_law_text c_log_text c_cut c_behind cdv A outer s H B E hr) (fun os h => ?_) (fun os h => ?_)
  · by_cases z : os.length = 3
    · exact z
    · exact absurd (if_neg z) h
  · by_cases z : os.length = 3
    · exact (if_pos z).symm
    · exact absurd (if_neg z) h
theorem ok_law {P : Program} {w : World} {G : Gx} {mg : Str → Option Value} {base : Heap} {f : Addr} {fd : FuncData} (T : Tx G mg) (c_law_hand : Cal P w G mg base "_law_hand" 1 R_law_hand) (c_law_draw : Cal P w G mg base "_law_draw" 1 R_law_draw) (c_law_names : Cal P w G mg base "_law_names" 4 R_law_names) (c_law_days : Cal P w G mg base "_law_days" 4 R_law_days) (c_law_any : Cal P w G mg base "_law_any" 2 R_law_any) (c_law_is_read : Cal P w G mg base "_law_is_read" 8 R_law_is_read) (c_law_lines_right : Cal P w G mg base "_law_lines_right" 8 R_law_lines_right) (c_law_crew : Cal P w G mg base "_law_crew" 3 R_law_crew) (Fn : Fun G.K "law" "law" s_law f fd) : FnOk P w G.K mg base (L2.CX P w) 9 f fd ["script"] (spF G R_law) := by
  refine fn_mk (k := 8) (R := R_law) Fn sc_law (b_law R_law_hand R_law_draw R_law_names R_law_days R_law_any R_law_is_read R_law_lines_right R_law_crew) (fun cdv A outer s H B E hr => d_law T c_law_hand c_law_draw c_law_names c_law_days c_law_any c_law_is_read c_law_lines_right c_law_crew cdv A outer s H B E hr) (fun os h => ?_) (fun os h => ?_)
  · by_cases z : os.length = 1
    · exact z
    · exact absurd (if_neg z) h
  · by_cases z : os.length = 1
    · exact (if_pos z).symm
    · exact absurd (if_neg z) h
theorem all_mk {l : PySem.W.OpenLaw} {w : World} {K : PySem.W.Frag} {h : Heap} {mg : Str → Option Value} {fa : Addr} (X : K.In h) (Gn : h.Ns mainGlobals mg) (hfa : mg "law" = some (.ref fa))
    {C0 : Addr} {f_is_integer : Addr} {oc_is_integer kV_is_integer dc_is_integer pm_is_integer cd_is_integer ct_is_integer : Value} {od_is_integer an_is_integer : Option Addr} {sl_is_integer : Array (Option Value)} {f_is_name : Addr} {oc_is_name kV_is_name dc_is_name pm_is_name cd_is_name ct_is_name : Value} {od_is_name an_is_name : Option Addr} {sl_is_name : Array (Option Value)} {f_names_in : Addr} {oc_names_in kV_names_in dc_names_in pm_names_in cd_names_in ct_names_in : Value} {od_names_in an_names_in : Option Addr} {sl_names_in : Array (Option Value)} {f_Log_eq : Addr} {oc_Log_eq kV_Log_eq dc_Log_eq pm_Log_eq cd_Log_eq ct_Log_eq : Value} {od_Log_eq an_Log_eq : Option Addr} {sl_Log_eq : Array (Option Value)} {f_Log_len : Addr} {oc_Log_len kV_Log_len dc_Log_len pm_Log_len cd_Log_len ct_Log_len : Value} {od_Log_len an_Log_len : Option Addr} {sl_Log_len : Array (Option Value)} {f_check_log : Addr} {oc_check_log kV_check_log dc_check_log pm_check_log cd_check_log ct_check_log : Value} {od_check_log an_check_log : Option Addr} {sl_check_log : Array (Option Value)} {f_integer_of : Addr} {oc_integer_of kV_integer_of dc_integer_of pm_integer_of cd_integer_of ct_integer_of : Value} {od_integer_of an_integer_of : Option Addr} {sl_integer_of : Array (Option Value)} {f_law_hand : Addr} {oc_law_hand kV_law_hand dc_law_hand pm_law_hand cd_law_hand ct_law_hand : Value} {od_law_hand an_law_hand : Option Addr} {sl_law_hand : Array (Option Value)} {f_law_draw : Addr} {oc_law_draw kV_law_draw dc_law_draw pm_law_draw cd_law_draw ct_law_draw : Value} {od_law_draw an_law_draw : Option Addr} {sl_law_draw : Array (Option Value)} {f_law_text : Addr} {oc_law_text kV_law_text dc_law_text pm_law_text cd_law_text ct_law_text : Value} {od_law_text an_law_text : Option Addr} {sl_law_text : Array (Option Value)} {f_is_within : Addr} {oc_is_within kV_is_within dc_is_within pm_is_within cd_is_within ct_is_within : Value} {od_is_within an_is_within : Option Addr} {sl_is_within : Array (Option Value)} {f_take_names : Addr} {oc_take_names kV_take_names dc_take_names pm_take_names cd_take_names ct_take_names : Value} {od_take_names an_take_names : Option Addr} {sl_take_names : Array (Option Value)} {f_check_same_parts : Addr} {oc_check_same_parts kV_check_same_parts dc_check_same_parts pm_check_same_parts cd_check_same_parts ct_check_same_parts : Value} {od_check_same_parts an_check_same_parts : Option Addr} {sl_check_same_parts : Array (Option Value)} {f_log_text : Addr} {oc_log_text kV_log_text dc_log_text pm_log_text cd_log_text ct_log_text : Value} {od_log_text an_log_text : Option Addr} {sl_log_text : Array (Option Value)} {f_read_event : Addr} {oc_read_event kV_read_event dc_read_event pm_read_event cd_read_event ct_read_event : Value} {od_read_event an_read_event : Option Addr} {sl_read_event : Array (Option Value)} {f_read_lock : Addr} {oc_read_lock kV_read_lock dc_read_lock pm_read_lock cd_read_lock ct_read_lock : Value} {od_read_lock an_read_lock : Option Addr} {sl_read_lock : Array (Option Value)} {f_law_any : Addr} {oc_law_any kV_law_any dc_law_any pm_law_any cd_law_any ct_law_any : Value} {od_law_any an_law_any : Option Addr} {sl_law_any : Array (Option Value)} {f_law_dealing_of : Addr} {oc_law_dealing_of kV_law_dealing_of dc_law_dealing_of pm_law_dealing_of cd_law_dealing_of ct_law_dealing_of : Value} {od_law_dealing_of an_law_dealing_of : Option Addr} {sl_law_dealing_of : Array (Option Value)} {f_is_event : Addr} {oc_is_event kV_is_event dc_is_event pm_is_event cd_is_event ct_is_event : Value} {od_is_event an_is_event : Option Addr} {sl_is_event : Array (Option Value)} {f_check_stretch : Addr} {oc_check_stretch kV_check_stretch dc_check_stretch pm_check_stretch cd_check_stretch ct_check_stretch : Value} {od_check_stretch an_check_stretch : Option Addr} {sl_check_stretch : Array (Option Value)} {f_read_day : Addr} {oc_read_day kV_read_day dc_read_day pm_read_day cd_read_day ct_read_day : Value} {od_read_day an_read_day : Option Addr} {sl_read_day : Array (Option Value)} {f_law_name : Addr} {oc_law_name kV_law_name dc_law_name pm_law_name cd_law_name ct_law_name : Value} {od_law_name an_law_name : Option Addr} {sl_law_name : Array (Option Value)} {f_law_crew : Addr} {oc_law_crew kV_law_crew dc_law_crew pm_law_crew cd_law_crew ct_law_crew : Value} {od_law_crew an_law_crew : Option Addr} {sl_law_crew : Array (Option Value)} {f_law_event : Addr} {oc_law_event kV_law_event dc_law_event pm_law_event cd_law_event ct_law_event : Value} {od_law_event an_law_event : Option Addr} {sl_law_event : Array (Option Value)} {f_check_days : Addr} {oc_check_days kV_check_days dc_check_days pm_check_days cd_check_days ct_check_days : Value} {od_check_days an_check_days : Option Addr} {sl_check_days : Array (Option Value)} {f_law_names : Addr} {oc_law_names kV_law_names dc_law_names pm_law_names cd_law_names ct_law_names : Value} {od_law_names an_law_names : Option Addr} {sl_law_names : Array (Option Value)} {f_law_days : Addr} {oc_law_days kV_law_days dc_law_days pm_law_days cd_law_days ct_law_days : Value} {od_law_days an_law_days : Option Addr} {sl_law_days : Array (Option Value)} {f_Log_init : Addr} {oc_Log_init kV_Log_init dc_Log_init pm_Log_init cd_Log_init ct_Log_init : Value} {od_Log_init an_Log_init : Option Addr} {sl_Log_init : Array (Option Value)} {f_behind : Addr} {oc_behind kV_behind dc_behind pm_behind cd_behind ct_behind : Value} {od_behind an_behind : Option Addr} {sl_behind : Array (Option Value)} {f_cut : Addr} {oc_cut kV_cut dc_cut pm_cut cd_cut ct_cut : Value} {od_cut an_cut : Option Addr} {sl_cut : Array (Option Value)} {f_read_log : Addr} {oc_read_log kV_read_log dc_read_log pm_read_log cd_read_log ct_read_log : Value} {od_read_log an_read_log : Option Addr} {sl_read_log : Array (Option Value)} {f_law_is : Addr} {oc_law_is kV_law_is dc_law_is pm_law_is cd_law_is ct_law_is : Value} {od_law_is an_law_is : Option Addr} {sl_law_is : Array (Option Value)} {f_law_is_read : Addr} {oc_law_is_read kV_law_is_read dc_law_is_read pm_law_is_read cd_law_is_read ct_law_is_read : Value} {od_law_is_read an_law_is_read : Option Addr} {sl_law_is_read : Array (Option Value)} {f_law_lines_right : Addr} {oc_law_lines_right kV_law_lines_right dc_law_lines_right pm_law_lines_right cd_law_lines_right ct_law_lines_right : Value} {od_law_lines_right an_law_lines_right : Option Addr} {sl_law_lines_right : Array (Option Value)} {f_law : Addr} {oc_law kV_law dc_law pm_law cd_law ct_law : Value} {od_law an_law : Option Addr} {sl_law : Array (Option Value)} {t_DAY : Tok} {t_LEAST_PARTS : Tok} {t_LETTERS : Tok} {t_LOCK : Tok} {t_MOST_DAYS : Tok} {t_MOST_DIGITS : Tok} {t_MOST_EVENTS : Tok} {t_MOST_NAME : Tok} {t_MOST_OFFICERS : Tok} {t_MOST_PARTS : Tok} {t_PAIR : Tok} {t_SEEN : Tok}
        (q0 : PySem.W.nsIn K mainGlobals "Log" = some (some (.ref C0)))
    (q0mk : PySem.W.makesIn K C0 = true)
    (q0kp : PySem.W.keepIn K (.ref C0) = true)
    (q0pg : PySem.W.plainGet K C0 Str.empty = true)
    (q0hd : PySem.W.hasDictIn K C0 = true)
    (q0po : PySem.W.plainOver K C0 = true)
    (q0sa : PySem.W.findIn K (.ref C0) "__setattr__" = some (some (.builtin "object.__setattr__")))
    (q0ha : PySem.W.findIn K (.ref C0) "__class__" = some (some (.builtin "object.__class__")))
    (q0hn : PySem.W.specialIn K (.builtin "object.__class__") "__get__" = some (some (.builtin "getset_descriptor.__get__")))
    (q0htk : PySem.W.takesIn K (.builtin "object.__class__") = some true)
    (q0hm : PySem.W.mroIn K C0 (.type "object") = some true)
    (q0ty : PySem.W.typeIn K (.ref C0) = some (.type "type"))
    (q0m1 : PySem.W.mroIn K C0 (.type "int") = some false)
    (q0m2 : PySem.W.mroIn K C0 (.type "bool") = some false)
    (q0m3 : PySem.W.mroIn K C0 (.type "str") = some false)
    (q0m4 : PySem.W.mroIn K C0 (.type "tuple") = some false)
    (q0m5 : PySem.W.mroIn K C0 (.type "list") = some false)
    (q0m6 : PySem.W.mroIn K C0 (.type "dict") = some false)
    (q0ne : PySem.W.findIn K (.ref C0) "__ne__" = some (some (.builtin "object.__ne__")))
    (a_is_integer : PySem.W.nsIn K mainGlobals "is_integer" = some (some (.ref f_is_integer)))
    (l_is_integer : K.lookup f_is_integer = some ⟨oc_is_integer, od_is_integer, .func (PySem.W.fnOf "is_integer" "is_integer" (defArgs s_is_integer) (defBody s_is_integer) (defScope s_is_integer) .none kV_is_integer dc_is_integer pm_is_integer an_is_integer cd_is_integer ct_is_integer), sl_is_integer⟩)
    (c_is_integer : PySem.W.codeIn K cd_is_integer "is_integer" = true)
    (k_is_integer : PySem.W.keepIn K (.ref f_is_integer) = true)
    (a_is_name : PySem.W.nsIn K mainGlobals "is_name" = some (some (.ref f_is_name)))
    (l_is_name : K.lookup f_is_name = some ⟨oc_is_name, od_is_name, .func (PySem.W.fnOf "is_name" "is_name" (defArgs s_is_name) (defBody s_is_name) (defScope s_is_name) .none kV_is_name dc_is_name pm_is_name an_is_name cd_is_name ct_is_name), sl_is_name⟩)
    (c_is_name : PySem.W.codeIn K cd_is_name "is_name" = true)
    (k_is_name : PySem.W.keepIn K (.ref f_is_name) = true)
    (a_names_in : PySem.W.nsIn K mainGlobals "names_in" = some (some (.ref f_names_in)))
    (l_names_in : K.lookup f_names_in = some ⟨oc_names_in, od_names_in, .func (PySem.W.fnOf "names_in" "names_in" (defArgs s_names_in) (defBody s_names_in) (defScope s_names_in) .none kV_names_in dc_names_in pm_names_in an_names_in cd_names_in ct_names_in), sl_names_in⟩)
    (c_names_in : PySem.W.codeIn K cd_names_in "names_in" = true)
    (k_names_in : PySem.W.keepIn K (.ref f_names_in) = true)
    (a_Log_eq : PySem.W.findIn K (.ref C0) "__eq__" = some (some (.ref f_Log_eq)))
    (i_Log_eq : PySem.W.isFn K (.ref f_Log_eq) = true)
    (l_Log_eq : K.lookup f_Log_eq = some ⟨oc_Log_eq, od_Log_eq, .func (PySem.W.fnOf "__eq__" "Log.__eq__" (defArgs s_Log_eq) (defBody s_Log_eq) (defScope s_Log_eq) .none kV_Log_eq dc_Log_eq pm_Log_eq an_Log_eq cd_Log_eq ct_Log_eq), sl_Log_eq⟩)
    (c_Log_eq : PySem.W.codeIn K cd_Log_eq "Log.__eq__" = true)
    (k_Log_eq : PySem.W.keepIn K (.ref f_Log_eq) = true)
    (a_Log_len : PySem.W.findIn K (.ref C0) "__len__" = some (some (.ref f_Log_len)))
    (i_Log_len : PySem.W.isFn K (.ref f_Log_len) = true)
    (l_Log_len : K.lookup f_Log_len = some ⟨oc_Log_len, od_Log_len, .func (PySem.W.fnOf "__len__" "Log.__len__" (defArgs s_Log_len) (defBody s_Log_len) (defScope s_Log_len) .none kV_Log_len dc_Log_len pm_Log_len an_Log_len cd_Log_len ct_Log_len), sl_Log_len⟩)
    (c_Log_len : PySem.W.codeIn K cd_Log_len "Log.__len__" = true)
    (k_Log_len : PySem.W.keepIn K (.ref f_Log_len) = true)
    (a_check_log : PySem.W.nsIn K mainGlobals "check_log" = some (some (.ref f_check_log)))
    (l_check_log : K.lookup f_check_log = some ⟨oc_check_log, od_check_log, .func (PySem.W.fnOf "check_log" "check_log" (defArgs s_check_log) (defBody s_check_log) (defScope s_check_log) .none kV_check_log dc_check_log pm_check_log an_check_log cd_check_log ct_check_log), sl_check_log⟩)
    (c_check_log : PySem.W.codeIn K cd_check_log "check_log" = true)
    (k_check_log : PySem.W.keepIn K (.ref f_check_log) = true)
    (a_integer_of : PySem.W.nsIn K mainGlobals "integer_of" = some (some (.ref f_integer_of)))
    (l_integer_of : K.lookup f_integer_of = some ⟨oc_integer_of, od_integer_of, .func (PySem.W.fnOf "integer_of" "integer_of" (defArgs s_integer_of) (defBody s_integer_of) (defScope s_integer_of) .none kV_integer_of dc_integer_of pm_integer_of an_integer_of cd_integer_of ct_integer_of), sl_integer_of⟩)
    (c_integer_of : PySem.W.codeIn K cd_integer_of "integer_of" = true)
    (k_integer_of : PySem.W.keepIn K (.ref f_integer_of) = true)
    (a_law_hand : PySem.W.nsIn K mainGlobals "_law_hand" = some (some (.ref f_law_hand)))
    (l_law_hand : K.lookup f_law_hand = some ⟨oc_law_hand, od_law_hand, .func (PySem.W.fnOf "_law_hand" "_law_hand" (defArgs s_law_hand) (defBody s_law_hand) (defScope s_law_hand) .none kV_law_hand dc_law_hand pm_law_hand an_law_hand cd_law_hand ct_law_hand), sl_law_hand⟩)
    (c_law_hand : PySem.W.codeIn K cd_law_hand "_law_hand" = true)
    (k_law_hand : PySem.W.keepIn K (.ref f_law_hand) = true)
    (a_law_draw : PySem.W.nsIn K mainGlobals "_law_draw" = some (some (.ref f_law_draw)))
    (l_law_draw : K.lookup f_law_draw = some ⟨oc_law_draw, od_law_draw, .func (PySem.W.fnOf "_law_draw" "_law_draw" (defArgs s_law_draw) (defBody s_law_draw) (defScope s_law_draw) .none kV_law_draw dc_law_draw pm_law_draw an_law_draw cd_law_draw ct_law_draw), sl_law_draw⟩)
    (c_law_draw : PySem.W.codeIn K cd_law_draw "_law_draw" = true)
    (k_law_draw : PySem.W.keepIn K (.ref f_law_draw) = true)
    (a_law_text : PySem.W.nsIn K mainGlobals "_law_text" = some (some (.ref f_law_text)))
    (l_law_text : K.lookup f_law_text = some ⟨oc_law_text, od_law_text, .func (PySem.W.fnOf "_law_text" "_law_text" (defArgs s_law_text) (defBody s_law_text) (defScope s_law_text) .none kV_law_text dc_law_text pm_law_text an_law_text cd_law_text ct_law_text), sl_law_text⟩)
    (c_law_text : PySem.W.codeIn K cd_law_text "_law_text" = true)
    (k_law_text : PySem.W.keepIn K (.ref f_law_text) = true)
    (a_is_within : PySem.W.nsIn K mainGlobals "is_within" = some (some (.ref f_is_within)))
    (l_is_within : K.lookup f_is_within = some ⟨oc_is_within, od_is_within, .func (PySem.W.fnOf "is_within" "is_within" (defArgs s_is_within) (defBody s_is_within) (defScope s_is_within) .none kV_is_within dc_is_within pm_is_within an_is_within cd_is_within ct_is_within), sl_is_within⟩)
    (c_is_within : PySem.W.codeIn K cd_is_within "is_within" = true)
    (k_is_within : PySem.W.keepIn K (.ref f_is_within) = true)
    (a_take_names : PySem.W.nsIn K mainGlobals "take_names" = some (some (.ref f_take_names)))
    (l_take_names : K.lookup f_take_names = some ⟨oc_take_names, od_take_names, .func (PySem.W.fnOf "take_names" "take_names" (defArgs s_take_names) (defBody s_take_names) (defScope s_take_names) .none kV_take_names dc_take_names pm_take_names an_take_names cd_take_names ct_take_names), sl_take_names⟩)
    (c_take_names : PySem.W.codeIn K cd_take_names "take_names" = true)
    (k_take_names : PySem.W.keepIn K (.ref f_take_names) = true)
    (a_check_same_parts : PySem.W.nsIn K mainGlobals "check_same_parts" = some (some (.ref f_check_same_parts)))
    (l_check_same_parts : K.lookup f_check_same_parts = some ⟨oc_check_same_parts, od_check_same_parts, .func (PySem.W.fnOf "check_same_parts" "check_same_parts" (defArgs s_check_same_parts) (defBody s_check_same_parts) (defScope s_check_same_parts) .none kV_check_same_parts dc_check_same_parts pm_check_same_parts an_check_same_parts cd_check_same_parts ct_check_same_parts), sl_check_same_parts⟩)
    (c_check_same_parts : PySem.W.codeIn K cd_check_same_parts "check_same_parts" = true)
    (k_check_same_parts : PySem.W.keepIn K (.ref f_check_same_parts) = true)
    (a_log_text : PySem.W.nsIn K mainGlobals "log_text" = some (some (.ref f_log_text)))
    (l_log_text : K.lookup f_log_text = some ⟨oc_log_text, od_log_text, .func (PySem.W.fnOf "log_text" "log_text" (defArgs s_log_text) (defBody s_log_text) (defScope s_log_text) .none kV_log_text dc_log_text pm_log_text an_log_text cd_log_text ct_log_text), sl_log_text⟩)
    (c_log_text : PySem.W.codeIn K cd_log_text "log_text" = true)
    (k_log_text : PySem.W.keepIn K (.ref f_log_text) = true)
    (a_read_event : PySem.W.nsIn K mainGlobals "read_event" = some (some (.ref f_read_event)))
    (l_read_event : K.lookup f_read_event = some ⟨oc_read_event, od_read_event, .func (PySem.W.fnOf "read_event" "read_event" (defArgs s_read_event) (defBody s_read_event) (defScope s_read_event) .none kV_read_event dc_read_event pm_read_event an_read_event cd_read_event ct_read_event), sl_read_event⟩)
    (c_read_event : PySem.W.codeIn K cd_read_event "read_event" = true)
    (k_read_event : PySem.W.keepIn K (.ref f_read_event) = true)
    (a_read_lock : PySem.W.nsIn K mainGlobals "read_lock" = some (some (.ref f_read_lock)))
    (l_read_lock : K.lookup f_read_lock = some ⟨oc_read_lock, od_read_lock, .func (PySem.W.fnOf "read_lock" "read_lock" (defArgs s_read_lock) (defBody s_read_lock) (defScope s_read_lock) .none kV_read_lock dc_read_lock pm_read_lock an_read_lock cd_read_lock ct_read_lock), sl_read_lock⟩)
    (c_read_lock : PySem.W.codeIn K cd_read_lock "read_lock" = true)
    (k_read_lock : PySem.W.keepIn K (.ref f_read_lock) = true)
    (a_law_any : PySem.W.nsIn K mainGlobals "_law_any" = some (some (.ref f_law_any)))
    (l_law_any : K.lookup f_law_any = some ⟨oc_law_any, od_law_any, .func (PySem.W.fnOf "_law_any" "_law_any" (defArgs s_law_any) (defBody s_law_any) (defScope s_law_any) .none kV_law_any dc_law_any pm_law_any an_law_any cd_law_any ct_law_any), sl_law_any⟩)
    (c_law_any : PySem.W.codeIn K cd_law_any "_law_any" = true)
    (k_law_any : PySem.W.keepIn K (.ref f_law_any) = true)
    (a_law_dealing_of : PySem.W.nsIn K mainGlobals "_law_dealing_of" = some (some (.ref f_law_dealing_of)))
    (l_law_dealing_of : K.lookup f_law_dealing_of = some ⟨oc_law_dealing_of, od_law_dealing_of, .func (PySem.W.fnOf "_law_dealing_of" "_law_dealing_of" (defArgs s_law_dealing_of) (defBody s_law_dealing_of) (defScope s_law_dealing_of) .none kV_law_dealing_of dc_law_dealing_of pm_law_dealing_of an_law_dealing_of cd_law_dealing_of ct_law_dealing_of), sl_law_dealing_of⟩)
    (c_law_dealing_of : PySem.W.codeIn K cd_law_dealing_of "_law_dealing_of" = true)
    (k_law_dealing_of : PySem.W.keepIn K (.ref f_law_dealing_of) = true)
    (a_is_event : PySem.W.nsIn K mainGlobals "is_event" = some (some (.ref f_is_event)))
    (l_is_event : K.lookup f_is_event = some ⟨oc_is_event, od_is_event, .func (PySem.W.fnOf "is_event" "is_event" (defArgs s_is_event) (defBody s_is_event) (defScope s_is_event) .none kV_is_event dc_is_event pm_is_event an_is_event cd_is_event ct_is_event), sl_is_event⟩)
    (c_is_event : PySem.W.codeIn K cd_is_event "is_event" = true)
    (k_is_event : PySem.W.keepIn K (.ref f_is_event) = true)
    (a_check_stretch : PySem.W.nsIn K mainGlobals "check_stretch" = some (some (.ref f_check_stretch)))
    (l_check_stretch : K.lookup f_check_stretch = some ⟨oc_check_stretch, od_check_stretch, .func (PySem.W.fnOf "check_stretch" "check_stretch" (defArgs s_check_stretch) (defBody s_check_stretch) (defScope s_check_stretch) .none kV_check_stretch dc_check_stretch pm_check_stretch an_check_stretch cd_check_stretch ct_check_stretch), sl_check_stretch⟩)
    (c_check_stretch : PySem.W.codeIn K cd_check_stretch "check_stretch" = true)
    (k_check_stretch : PySem.W.keepIn K (.ref f_check_stretch) = true)
    (a_read_day : PySem.W.nsIn K mainGlobals "read_day" = some (some (.ref f_read_day)))
    (l_read_day : K.lookup f_read_day = some ⟨oc_read_day, od_read_day, .func (PySem.W.fnOf "read_day" "read_day" (defArgs s_read_day) (defBody s_read_day) (defScope s_read_day) .none kV_read_day dc_read_day pm_read_day an_read_day cd_read_day ct_read_day), sl_read_day⟩)
    (c_read_day : PySem.W.codeIn K cd_read_day "read_day" = true)
    (k_read_day : PySem.W.keepIn K (.ref f_read_day) = true)
    (a_law_name : PySem.W.nsIn K mainGlobals "_law_name" = some (some (.ref f_law_name)))
    (l_law_name : K.lookup f_law_name = some ⟨oc_law_name, od_law_name, .func (PySem.W.fnOf "_law_name" "_law_name" (defArgs s_law_name) (defBody s_law_name) (defScope s_law_name) .none kV_law_name dc_law_name pm_law_name an_law_name cd_law_name ct_law_name), sl_law_name⟩)
    (c_law_name : PySem.W.codeIn K cd_law_name "_law_name" = true)
    (k_law_name : PySem.W.keepIn K (.ref f_law_name) = true)
    (a_law_crew : PySem.W.nsIn K mainGlobals "_law_crew" = some (some (.ref f_law_crew)))
    (l_law_crew : K.lookup f_law_crew = some ⟨oc_law_crew, od_law_crew, .func (PySem.W.fnOf "_law_crew" "_law_crew" (defArgs s_law_crew) (defBody s_law_crew) (defScope s_law_crew) .none kV_law_crew dc_law_crew pm_law_crew an_law_crew cd_law_crew ct_law_crew), sl_law_crew⟩)
    (c_law_crew : PySem.W.codeIn K cd_law_crew "_law_crew" = true)
    (k_law_crew : PySem.W.keepIn K (.ref f_law_crew) = true)
    (a_law_event : PySem.W.nsIn K mainGlobals "_law_event" = some (some (.ref f_law_event)))
    (l_law_event : K.lookup f_law_event = some ⟨oc_law_event, od_law_event, .func (PySem.W.fnOf "_law_event" "_law_event" (defArgs s_law_event) (defBody s_law_event) (defScope s_law_event) .none kV_law_event dc_law_event pm_law_event an_law_event cd_law_event ct_law_event), sl_law_event⟩)
    (c_law_event : PySem.W.codeIn K cd_law_event "_law_event" = true)
    (k_law_event : PySem.W.keepIn K (.ref f_law_event) = true)
    (a_check_days : PySem.W.nsIn K mainGlobals "check_days" = some (some (.ref f_check_days)))
    (l_check_days : K.lookup f_check_days = some ⟨oc_check_days, od_check_days, .func (PySem.W.fnOf "check_days" "check_days" (defArgs s_check_days) (defBody s_check_days) (defScope s_check_days) .none kV_check_days dc_check_days pm_check_days an_check_days cd_check_days ct_check_days), sl_check_days⟩)
    (c_check_days : PySem.W.codeIn K cd_check_days "check_days" = true)
    (k_check_days : PySem.W.keepIn K (.ref f_check_days) = true)
    (a_law_names : PySem.W.nsIn K mainGlobals "_law_names" = some (some (.ref f_law_names)))
    (l_law_names : K.lookup f_law_names = some ⟨oc_law_names, od_law_names, .func (PySem.W.fnOf "_law_names" "_law_names" (defArgs s_law_names) (defBody s_law_names) (defScope s_law_names) .none kV_law_names dc_law_names pm_law_names an_law_names cd_law_names ct_law_names), sl_law_names⟩)
    (c_law_names : PySem.W.codeIn K cd_law_names "_law_names" = true)
    (k_law_names : PySem.W.keepIn K (.ref f_law_names) = true)
    (a_law_days : PySem.W.nsIn K mainGlobals "_law_days" = some (some (.ref f_law_days)))
    (l_law_days : K.lookup f_law_days = some ⟨oc_law_days, od_law_days, .func (PySem.W.fnOf "_law_days" "_law_days" (defArgs s_law_days) (defBody s_law_days) (defScope s_law_days) .none kV_law_days dc_law_days pm_law_days an_law_days cd_law_days ct_law_days), sl_law_days⟩)
    (c_law_days : PySem.W.codeIn K cd_law_days "_law_days" = true)
    (k_law_days : PySem.W.keepIn K (.ref f_law_days) = true)
    (a_Log_init : PySem.W.findIn K (.ref C0) "__init__" = some (some (.ref f_Log_init)))
    (i_Log_init : PySem.W.isFn K (.ref f_Log_init) = true)
    (l_Log_init : K.lookup f_Log_init = some ⟨oc_Log_init, od_Log_init, .func (PySem.W.fnOf "__init__" "Log.__init__" (defArgs s_Log_init) (defBody s_Log_init) (defScope s_Log_init) .none kV_Log_init dc_Log_init pm_Log_init an_Log_init cd_Log_init ct_Log_init), sl_Log_init⟩)
    (c_Log_init : PySem.W.codeIn K cd_Log_init "Log.__init__" = true)
    (k_Log_init : PySem.W.keepIn K (.ref f_Log_init) = true)
    (a_behind : PySem.W.nsIn K mainGlobals "behind" = some (some (.ref f_behind)))
    (l_behind : K.lookup f_behind = some ⟨oc_behind, od_behind, .func (PySem.W.fnOf "behind" "behind" (defArgs s_behind) (defBody s_behind) (defScope s_behind) .none kV_behind dc_behind pm_behind an_behind cd_behind ct_behind), sl_behind⟩)
    (c_behind : PySem.W.codeIn K cd_behind "behind" = true)
    (k_behind : PySem.W.keepIn K (.ref f_behind) = true)
    (a_cut : PySem.W.nsIn K mainGlobals "cut" = some (some (.ref f_cut)))
    (l_cut : K.lookup f_cut = some ⟨oc_cut, od_cut, .func (PySem.W.fnOf "cut" "cut" (defArgs s_cut) (defBody s_cut) (defScope s_cut) .none kV_cut dc_cut pm_cut an_cut cd_cut ct_cut), sl_cut⟩)
    (c_cut : PySem.W.codeIn K cd_cut "cut" = true)
    (k_cut : PySem.W.keepIn K (.ref f_cut) = true)
    (a_read_log : PySem.W.nsIn K mainGlobals "read_log" = some (some (.ref f_read_log)))
    (l_read_log : K.lookup f_read_log = some ⟨oc_read_log, od_read_log, .func (PySem.W.fnOf "read_log" "read_log" (defArgs s_read_log) (defBody s_read_log) (defScope s_read_log) .none kV_read_log dc_read_log pm_read_log an_read_log cd_read_log ct_read_log), sl_read_log⟩)
    (c_read_log : PySem.W.codeIn K cd_read_log "read_log" = true)
    (k_read_log : PySem.W.keepIn K (.ref f_read_log) = true)
    (a_law_is : PySem.W.nsIn K mainGlobals "_law_is" = some (some (.ref f_law_is)))
    (l_law_is : K.lookup f_law_is = some ⟨oc_law_is, od_law_is, .func (PySem.W.fnOf "_law_is" "_law_is" (defArgs s_law_is) (defBody s_law_is) (defScope s_law_is) .none kV_law_is dc_law_is pm_law_is an_law_is cd_law_is ct_law_is), sl_law_is⟩)
    (c_law_is : PySem.W.codeIn K cd_law_is "_law_is" = true)
    (k_law_is : PySem.W.keepIn K (.ref f_law_is) = true)
    (a_law_is_read : PySem.W.nsIn K mainGlobals "_law_is_read" = some (some (.ref f_law_is_read)))
    (l_law_is_read : K.lookup f_law_is_read = some ⟨oc_law_is_read, od_law_is_read, .func (PySem.W.fnOf "_law_is_read" "_law_is_read" (defArgs s_law_is_read) (defBody s_law_is_read) (defScope s_law_is_read) .none kV_law_is_read dc_law_is_read pm_law_is_read an_law_is_read cd_law_is_read ct_law_is_read), sl_law_is_read⟩)
    (c_law_is_read : PySem.W.codeIn K cd_law_is_read "_law_is_read" = true)
    (k_law_is_read : PySem.W.keepIn K (.ref f_law_is_read) = true)
    (a_law_lines_right : PySem.W.nsIn K mainGlobals "_law_lines_right" = some (some (.ref f_law_lines_right)))
    (l_law_lines_right : K.lookup f_law_lines_right = some ⟨oc_law_lines_right, od_law_lines_right, .func (PySem.W.fnOf "_law_lines_right" "_law_lines_right" (defArgs s_law_lines_right) (defBody s_law_lines_right) (defScope s_law_lines_right) .none kV_law_lines_right dc_law_lines_right pm_law_lines_right an_law_lines_right cd_law_lines_right ct_law_lines_right), sl_law_lines_right⟩)
    (c_law_lines_right : PySem.W.codeIn K cd_law_lines_right "_law_lines_right" = true)
    (k_law_lines_right : PySem.W.keepIn K (.ref f_law_lines_right) = true)
    (a_law : PySem.W.nsIn K mainGlobals "law" = some (some (.ref f_law)))
    (l_law : K.lookup f_law = some ⟨oc_law, od_law, .func (PySem.W.fnOf "law" "law" (defArgs s_law) (defBody s_law) (defScope s_law) .none kV_law dc_law pm_law an_law cd_law ct_law), sl_law⟩)
    (c_law : PySem.W.codeIn K cd_law "law" = true)
    (k_law : PySem.W.keepIn K (.ref f_law) = true)
    (at_days_0 : PySem.W.findIn K (.ref C0) "days" = some none)
    (at_parts_0 : PySem.W.findIn K (.ref C0) "parts" = some none)
    (z_abs : PySem.W.nsIn K mainGlobals "abs" = some none)
    (z_all : PySem.W.nsIn K mainGlobals "all" = some none)
    (z_bool : PySem.W.nsIn K mainGlobals "bool" = some none)
    (z_dict : PySem.W.nsIn K mainGlobals "dict" = some none)
    (z_enumerate : PySem.W.nsIn K mainGlobals "enumerate" = some none)
    (z_int : PySem.W.nsIn K mainGlobals "int" = some none)
    (z_isinstance : PySem.W.nsIn K mainGlobals "isinstance" = some none)
    (z_len : PySem.W.nsIn K mainGlobals "len" = some none)
    (z_list : PySem.W.nsIn K mainGlobals "list" = some none)
    (z_range : PySem.W.nsIn K mainGlobals "range" = some none)
    (z_str : PySem.W.nsIn K mainGlobals "str" = some none)
    (z_tuple : PySem.W.nsIn K mainGlobals "tuple" = some none)
    (z_zip : PySem.W.nsIn K mainGlobals "zip" = some none)
    (x_DAY : PySem.W.nsIn K mainGlobals "DAY" = some (some (.str "day" t_DAY)))
    (x_LEAST_PARTS : PySem.W.nsIn K mainGlobals "LEAST_PARTS" = some (some (.int 2 t_LEAST_PARTS)))
    (x_LETTERS : PySem.W.nsIn K mainGlobals "LETTERS" = some (some (.str "abcdefghijklmnopqrstuvwxyz" t_LETTERS)))
    (x_LOCK : PySem.W.nsIn K mainGlobals "LOCK" = some (some (.str "lock" t_LOCK)))
    (x_MOST_DAYS : PySem.W.nsIn K mainGlobals "MOST_DAYS" = some (some (.int 200 t_MOST_DAYS)))
    (x_MOST_DIGITS : PySem.W.nsIn K mainGlobals "MOST_DIGITS" = some (some (.int 9 t_MOST_DIGITS)))
    (x_MOST_EVENTS : PySem.W.nsIn K mainGlobals "MOST_EVENTS" = some (some (.int 12 t_MOST_EVENTS)))
    (x_MOST_NAME : PySem.W.nsIn K mainGlobals "MOST_NAME" = some (some (.int 8 t_MOST_NAME)))
    (x_MOST_OFFICERS : PySem.W.nsIn K mainGlobals "MOST_OFFICERS" = some (some (.int 60 t_MOST_OFFICERS)))
    (x_MOST_PARTS : PySem.W.nsIn K mainGlobals "MOST_PARTS" = some (some (.int 12 t_MOST_PARTS)))
    (x_PAIR : PySem.W.nsIn K mainGlobals "PAIR" = some (some (.str "pair" t_PAIR)))
    (x_SEEN : PySem.W.nsIn K mainGlobals "SEEN" = some (some (.str "seen" t_SEEN))) :
    ∃ fd : FuncData, (∀ (s : Shared) (v : Value), BindsTo s fd ⟨[v], []⟩ [("script", v)]) ∧ ∀ base : Heap, K.In base → base.Ns mainGlobals mg → FnOk l.prog w K mg base (L2.CX l.prog w) 9 fa fd ["script"] (spLaw K) := by
  have e := hfa.symm.trans (PySem.W.mg_of X Gn a_law)
  cases e
  have F0 : ClF K C0 := ⟨q0pg, q0hd, q0po, q0sa, q0ha, q0hn, q0htk, q0hm, q0ty, q0m1, q0m2, q0m3, q0m4, q0m5, q0m6⟩
  have T : Tx ⟨K, fun _ => C0⟩ mg := ⟨PySem.W.mg_none_of X Gn z_abs, PySem.W.mg_none_of X Gn z_all, PySem.W.mg_none_of X Gn z_bool, PySem.W.mg_none_of X Gn z_dict, PySem.W.mg_none_of X Gn z_enumerate, PySem.W.mg_none_of X Gn z_int, PySem.W.mg_none_of X Gn z_isinstance, PySem.W.mg_none_of X Gn z_len, PySem.W.mg_none_of X Gn z_list, PySem.W.mg_none_of X Gn z_range, PySem.W.mg_none_of X Gn z_str, PySem.W.mg_none_of X Gn z_tuple, PySem.W.mg_none_of X Gn z_zip, ⟨_, PySem.W.mg_of X Gn x_DAY⟩, ⟨_, PySem.W.mg_of X Gn x_LEAST_PARTS⟩, ⟨_, PySem.W.mg_of X Gn x_LETTERS⟩, ⟨_, PySem.W.mg_of X Gn x_LOCK⟩, ⟨_, PySem.W.mg_of X Gn x_MOST_DAYS⟩, ⟨_, PySem.W.mg_of X Gn x_MOST_DIGITS⟩, ⟨_, PySem.W.mg_of X Gn x_MOST_EVENTS⟩, ⟨_, PySem.W.mg_of X Gn x_MOST_NAME⟩, ⟨_, PySem.W.mg_of X Gn x_MOST_OFFICERS⟩, ⟨_, PySem.W.mg_of X Gn x_MOST_PARTS⟩, ⟨_, PySem.W.mg_of X Gn x_PAIR⟩, ⟨_, PySem.W.mg_of X Gn x_SEEN⟩, PySem.W.mg_of X Gn q0, fun c _ => ⟨F0.cls, at_days_0⟩, fun c _ => ⟨F0.cls, at_parts_0⟩⟩
  have ck : Clk ⟨K, fun _ => C0⟩ [0] := clk_one F0
  have F_is_integer := fun_mk (st := s_is_integer) l_is_integer c_is_integer k_is_integer
  have b_is_integer := F_is_integer.binds (ps := ["thing"]) fun _ _ _ _ _ _ us hl => match us, hl with | [_], _ => rfl
  have F_is_name := fun_mk (st := s_is_name) l_is_name c_is_name k_is_name
  have b_is_name := F_is_name.binds (ps := ["thing"]) fun _ _ _ _ _ _ us hl => match us, hl with | [_], _ => rfl
  have F_names_in := fun_mk (st := s_names_in) l_names_in c_names_in k_names_in
  have b_names_in := F_names_in.binds (ps := ["event"]) fun _ _ _ _ _ _ us hl => match us, hl with | [_], _ => rfl
  have F_Log_eq := fun_mk (st := s_Log_eq) l_Log_eq c_Log_eq k_Log_eq
  have b_Log_eq := F_Log_eq.binds (ps := ["self", "other"]) fun _ _ _ _ _ _ us hl => match us, hl with | [_, _], _ => rfl
  have F_Log_len := fun_mk (st := s_Log_len) l_Log_len c_Log_len k_Log_len
  have b_Log_len := F_Log_len.binds (ps := ["self"]) fun _ _ _ _ _ _ us hl => match us, hl with | [_], _ => rfl
  have F_check_log := fun_mk (st := s_check_log) l_check_log c_check_log k_check_log
  have b_check_log := F_check_log.binds (ps := ["log"]) fun _ _ _ _ _ _ us hl => match us, hl with | [_], _ => rfl
  have F_integer_of := fun_mk (st := s_integer_of) l_integer_of c_integer_of k_integer_of
  have b_integer_of := F_integer_of.binds (ps := ["word"]) fun _ _ _ _ _ _ us hl => match us, hl with | [_], _ => rfl
  have F_law_hand := fun_mk (st := s_law_hand) l_law_hand c_law_hand k_law_hand
  have b_law_hand := F_law_hand.binds (ps := ["script"]) fun _ _ _ _ _ _ us hl => match us, hl with | [_], _ => rfl
  have F_law_draw := fun_mk (st := s_law_draw) l_law_draw c_law_draw k_law_draw
  have b_law_draw := F_law_draw.binds (ps := ["hand", "many"]) fun _ _ _ _ _ _ us hl => match us, hl with | [_, _], _ => rfl
  have F_law_text := fun_mk (st := s_law_text) l_law_text c_law_text k_law_text
  have b_law_text := F_law_text.binds (ps := ["parts", "days"]) fun _ _ _ _ _ _ us hl => match us, hl with | [_, _], _ => rfl
  have F_is_within := fun_mk (st := s_is_within) l_is_within c_is_within k_is_within
  have b_is_within := F_is_within.binds (ps := ["thing", "low", "high"]) fun _ _ _ _ _ _ us hl => match us, hl with | [_, _, _], _ => rfl
  have F_take_names := fun_mk (st := s_take_names) l_take_names c_take_names k_take_names
  have b_take_names := F_take_names.binds (ps := ["names", "event"]) fun _ _ _ _ _ _ us hl => match us, hl with | [_, _], _ => rfl
  have F_check_same_parts := fun_mk (st := s_check_same_parts) l_check_same_parts c_check_same_parts k_check_same_parts
  have b_check_same_parts := F_check_same_parts.binds (ps := ["one", "other"]) fun _ _ _ _ _ _ us hl => match us, hl with | [_, _], _ => rfl
  have F_log_text := fun_mk (st := s_log_text) l_log_text c_log_text k_log_text
  have b_log_text := F_log_text.binds (ps := ["log"]) fun _ _ _ _ _ _ us hl => match us, hl with | [_], _ => rfl
  have F_read_event := fun_mk (st := s_read_event) l_read_event c_read_event k_read_event
  have b_read_event := F_read_event.binds (ps := ["words"]) fun _ _ _ _ _ _ us hl => match us, hl with | [_], _ => rfl
  have F_read_lock := fun_mk (st := s_read_lock) l_read_lock c_read_lock k_read_lock
  have b_read_lock := F_read_lock.binds (ps := ["line"]) fun _ _ _ _ _ _ us hl => match us, hl with | [_], _ => rfl
  have F_law_any := fun_mk (st := s_law_any) l_law_any c_law_any k_law_any
  have b_law_any := F_law_any.binds (ps := ["hand", "some"]) fun _ _ _ _ _ _ us hl => match us, hl with | [_, _], _ => rfl
  have F_law_dealing_of := fun_mk (st := s_law_dealing_of) l_law_dealing_of c_law_dealing_of k_law_dealing_of
  have b_law_dealing_of := F_law_dealing_of.binds (ps := ["hand", "parts", "words"]) fun _ _ _ _ _ _ us hl => match us, hl with | [_, _, _], _ => rfl
  have F_is_event := fun_mk (st := s_is_event) l_is_event c_is_event k_is_event
  have b_is_event := F_is_event.binds (ps := ["parts", "thing"]) fun _ _ _ _ _ _ us hl => match us, hl with | [_, _], _ => rfl
  have F_check_stretch := fun_mk (st := s_check_stretch) l_check_stretch c_check_stretch k_check_stretch
  have b_check_stretch := F_check_stretch.binds (ps := ["log", "first", "end"]) fun _ _ _ _ _ _ us hl => match us, hl with | [_, _, _], _ => rfl
  have F_read_day := fun_mk (st := s_read_day) l_read_day c_read_day k_read_day
  have b_read_day := F_read_day.binds (ps := ["line"]) fun _ _ _ _ _ _ us hl => match us, hl with | [_], _ => rfl
  have F_law_name := fun_mk (st := s_law_name) l_law_name c_law_name k_law_name
  have b_law_name := F_law_name.binds (ps := ["hand", "taken"]) fun _ _ _ _ _ _ us hl => match us, hl with | [_, _], _ => rfl
  have F_law_crew := fun_mk (st := s_law_crew) l_law_crew c_law_crew k_law_crew
  have b_law_crew := F_law_crew.binds (ps := ["hand", "many"]) fun _ _ _ _ _ _ us hl => match us, hl with | [_, _], _ => rfl
  have F_law_event := fun_mk (st := s_law_event) l_law_event c_law_event k_law_event
  have b_law_event := F_law_event.binds (ps := ["hand", "parts", "dealt", "words"]) fun _ _ _ _ _ _ us hl => match us, hl with | [_, _, _, _], _ => rfl
  have F_check_days := fun_mk (st := s_check_days) l_check_days c_check_days k_check_days
  have b_check_days := F_check_days.binds (ps := ["parts", "days"]) fun _ _ _ _ _ _ us hl => match us, hl with | [_, _], _ => rfl
  have F_law_names := fun_mk (st := s_law_names) l_law_names c_law_names k_law_names
  have b_law_names := F_law_names.binds (ps := ["hand", "many", "taken"]) fun _ _ _ _ _ _ us hl => match us, hl with | [_, _, _], _ => rfl
  have F_law_days := fun_mk (st := s_law_days) l_law_days c_law_days k_law_days
  have b_law_days := F_law_days.binds (ps := ["hand", "parts", "words", "many", "each", "change"]) fun _ _ _ _ _ _ us hl => match us, hl with | [_, _, _, _, _, _], _ => rfl
  have F_Log_init := fun_mk (st := s_Log_init) l_Log_init c_Log_init k_Log_init
  have b_Log_init := F_Log_init.binds (ps := ["self", "parts", "days"]) fun _ _ _ _ _ _ us hl => match us, hl with | [_, _, _], _ => rfl
  have F_behind := fun_mk (st := s_behind) l_behind c_behind k_behind
  have b_behind := F_behind.binds (ps := ["one", "other"]) fun _ _ _ _ _ _ us hl => match us, hl with | [_, _], _ => rfl
  have F_cut := fun_mk (st := s_cut) l_cut c_cut k_cut
  have b_cut := F_cut.binds (ps := ["log", "first", "end"]) fun _ _ _ _ _ _ us hl => match us, hl with | [_, _, _], _ => rfl
  have F_read_log := fun_mk (st := s_read_log) l_read_log c_read_log k_read_log
  have b_read_log := F_read_log.binds (ps := ["text"]) fun _ _ _ _ _ _ us hl => match us, hl with | [_], _ => rfl
  have F_law_is := fun_mk (st := s_law_is) l_law_is c_law_is k_law_is
  have b_law_is := F_law_is.binds (ps := ["answer", "due"]) fun _ _ _ _ _ _ us hl => match us, hl with | [_, _], _ => rfl
  have F_law_is_read := fun_mk (st := s_law_is_read) l_law_is_read c_law_is_read k_law_is_read
  have b_law_is_read := F_law_is_read.binds (ps := ["parts", "days"]) fun _ _ _ _ _ _ us hl => match us, hl with | [_, _], _ => rfl
  have F_law_lines_right := fun_mk (st := s_law_lines_right) l_law_lines_right c_law_lines_right k_law_lines_right
  have b_law_lines_right := F_law_lines_right.binds (ps := ["hand", "parts", "days"]) fun _ _ _ _ _ _ us hl => match us, hl with | [_, _, _], _ => rfl
  have F_law := fun_mk (st := s_law) l_law c_law k_law
  have b_law := F_law.binds (ps := ["script"]) fun _ _ _ _ _ _ us hl => match us, hl with | [_], _ => rfl
  refine ⟨PySem.W.fnOf "law" "law" (defArgs s_law) (defBody s_law) (defScope s_law) .none kV_law dc_law pm_law an_law cd_law ct_law, fun s v => .of_eq rfl, fun base _ _ => ?_⟩
  have G_is_integer := ok_is_integer (P := l.prog) (w := w) (G := ⟨K, fun _ => C0⟩) (base := base) T ck F_is_integer
  have C_is_integer : Cal l.prog w ⟨K, fun _ => C0⟩ mg base "is_integer" 1 R_is_integer := ⟨⟨_, _, _, G_is_integer, PySem.W.mg_of X Gn a_is_integer, k_is_integer, b_is_integer⟩⟩
  have G_is_name := ok_is_name (P := l.prog) (w := w) (G := ⟨K, fun _ => C0⟩) (base := base) T ck F_is_name
  have C_is_name : Cal l.prog w ⟨K, fun _ => C0⟩ mg base "is_name" 1 R_is_name := ⟨⟨_, _, _, G_is_name, PySem.W.mg_of X Gn a_is_name, k_is_name, b_is_name⟩⟩
  have G_names_in := ok_names_in (P := l.prog) (w := w) (G := ⟨K, fun _ => C0⟩) (base := base) T F_names_in
  have C_names_in : Cal l.prog w ⟨K, fun _ => C0⟩ mg base "names_in" 1 R_names_in := ⟨⟨_, _, _, G_names_in, PySem.W.mg_of X Gn a_names_in, k_names_in, b_names_in⟩⟩
  have G_Log_eq := ok_Log_eq (P := l.prog) (w := w) (G := ⟨K, fun _ => C0⟩) (base := base) T ck F_Log_eq
  have E_Log : CalE l.prog w ⟨K, fun _ => C0⟩ mg base [0] 0 1 R_Log_eq := ⟨⟨_, _, _, G_Log_eq, b_Log_eq, a_Log_eq, i_Log_eq⟩, fun n h => nf_b K C0 h, fun d _ => nf_s K C0, q0ne⟩
  have G_Log_len := ok_Log_len (P := l.prog) (w := w) (G := ⟨K, fun _ => C0⟩) (base := base) T F_Log_len
  have L_Log : CalL l.prog w ⟨K, fun _ => C0⟩ mg base 0 "__len__" 1 R_Log_len := ⟨⟨_, _, _, G_Log_len, b_Log_len, a_Log_len, i_Log_len⟩⟩
  have G_check_log := ok_check_log (P := l.prog) (w := w) (G := ⟨K, fun _ => C0⟩) (base := base) T ck F_check_log
  have C_check_log : Cal l.prog w ⟨K, fun _ => C0⟩ mg base "check_log" 1 R_check_log := ⟨⟨_, _, _, G_check_log, PySem.W.mg_of X Gn a_check_log, k_check_log, b_check_log⟩⟩
  have G_integer_of := ok_integer_of (P := l.prog) (w := w) (G := ⟨K, fun _ => C0⟩) (base := base) T F_integer_of
  have C_integer_of : Cal l.prog w ⟨K, fun _ => C0⟩ mg base "integer_of" 1 R_integer_of := ⟨⟨_, _, _, G_integer_of, PySem.W.mg_of X Gn a_integer_of, k_integer_of, b_integer_of⟩⟩
  have G_law_hand := ok_law_hand (P := l.prog) (w := w) (G := ⟨K, fun _ => C0⟩) (base := base) T F_law_hand
  have C_law_hand : Cal l.prog w ⟨K, fun _ => C0⟩ mg base "_law_hand" 1 R_law_hand := ⟨⟨_, _, _, G_law_hand, PySem.W.mg_of X Gn a_law_hand, k_law_hand, b_law_hand⟩⟩
  have G_law_draw := ok_law_draw (P := l.prog) (w := w) (G := ⟨K, fun _ => C0⟩) (base := base) T F_law_draw
  have C_law_draw : Cal l.prog w ⟨K, fun _ => C0⟩ mg base "_law_draw" 1 R_law_draw := ⟨⟨_, _, _, G_law_draw, PySem.W.mg_of X Gn a_law_draw, k_law_draw, b_law_draw⟩⟩
  have G_law_text := ok_law_text (P := l.prog) (w := w) (G := ⟨K, fun _ => C0⟩) (base := base) T F_law_text
  have C_law_text : Cal l.prog w ⟨K, fun _ => C0⟩ mg base "_law_text" 1 R_law_text := ⟨⟨_, _, _, G_law_text, PySem.W.mg_of X Gn a_law_text, k_law_text, b_law_text⟩⟩
  have G_is_within := ok_is_within (P := l.prog) (w := w) (G := ⟨K, fun _ => C0⟩) (base := base) T C_is_integer F_is_within
  have C_is_within : Cal l.prog w ⟨K, fun _ => C0⟩ mg base "is_within" 2 R_is_within := ⟨⟨_, _, _, G_is_within, PySem.W.mg_of X Gn a_is_within, k_is_within, b_is_within⟩⟩
  have G_take_names := ok_take_names (P := l.prog) (w := w) (G := ⟨K, fun _ => C0⟩) (base := base) T C_names_in F_take_names
  have C_take_names : Cal l.prog w ⟨K, fun _ => C0⟩ mg base "take_names" 2 R_take_names := ⟨⟨_, _, _, G_take_names, PySem.W.mg_of X Gn a_take_names, k_take_names, b_take_names⟩⟩
  have G_check_same_parts := ok_check_same_parts (P := l.prog) (w := w) (G := ⟨K, fun _ => C0⟩) (base := base) T C_check_log F_check_same_parts
  have C_check_same_parts : Cal l.prog w ⟨K, fun _ => C0⟩ mg base "check_same_parts" 2 R_check_same_parts := ⟨⟨_, _, _, G_check_same_parts, PySem.W.mg_of X Gn a_check_same_parts, k_check_same_parts, b_check_same_parts⟩⟩
  have G_log_text := ok_log_text (P := l.prog) (w := w) (G := ⟨K, fun _ => C0⟩) (base := base) T C_check_log F_log_text
  have C_log_text : Cal l.prog w ⟨K, fun _ => C0⟩ mg base "log_text" 2 R_log_text := ⟨⟨_, _, _, G_log_text, PySem.W.mg_of X Gn a_log_text, k_log_text, b_log_text⟩⟩
  have G_read_event := ok_read_event (P := l.prog) (w := w) (G := ⟨K, fun _ => C0⟩) (base := base) T C_is_name C_integer_of F_read_event
  have C_read_event : Cal l.prog w ⟨K, fun _ => C0⟩ mg base "read_event" 2 R_read_event := ⟨⟨_, _, _, G_read_event, PySem.W.mg_of X Gn a_read_event, k_read_event, b_read_event⟩⟩
  have G_read_lock := ok_read_lock (P := l.prog) (w := w) (G := ⟨K, fun _ => C0⟩) (base := base) T C_integer_of F_read_lock
  have C_read_lock : Cal l.prog w ⟨K, fun _ => C0⟩ mg base "read_lock" 2 R_read_lock := ⟨⟨_, _, _, G_read_lock, PySem.W.mg_of X Gn a_read_lock, k_read_lock, b_read_lock⟩⟩
  have G_law_any := ok_law_any (P := l.prog) (w := w) (G := ⟨K, fun _ => C0⟩) (base := base) T C_law_draw F_law_any
  have C_law_any : Cal l.prog w ⟨K, fun _ => C0⟩ mg base "_law_any" 2 R_law_any := ⟨⟨_, _, _, G_law_any, PySem.W.mg_of X Gn a_law_any, k_law_any, b_law_any⟩⟩
  have G_law_dealing_of := ok_law_dealing_of (P := l.prog) (w := w) (G := ⟨K, fun _ => C0⟩) (base := base) T C_law_draw F_law_dealing_of
  have C_law_dealing_of : Cal l.prog w ⟨K, fun _ => C0⟩ mg base "_law_dealing_of" 2 R_law_dealing_of := ⟨⟨_, _, _, G_law_dealing_of, PySem.W.mg_of X Gn a_law_dealing_of, k_law_dealing_of, b_law_dealing_of⟩⟩
  have G_is_event := ok_is_event (P := l.prog) (w := w) (G := ⟨K, fun _ => C0⟩) (base := base) T ck C_is_name C_is_within F_is_event
  have C_is_event : Cal l.prog w ⟨K, fun _ => C0⟩ mg base "is_event" 3 R_is_event := ⟨⟨_, _, _, G_is_event, PySem.W.mg_of X Gn a_is_event, k_is_event, b_is_event⟩⟩
  have G_check_stretch := ok_check_stretch (P := l.prog) (w := w) (G := ⟨K, fun _ => C0⟩) (base := base) T C_check_log C_is_within F_check_stretch
  have C_check_stretch : Cal l.prog w ⟨K, fun _ => C0⟩ mg base "check_stretch" 3 R_check_stretch := ⟨⟨_, _, _, G_check_stretch, PySem.W.mg_of X Gn a_check_stretch, k_check_stretch, b_check_stretch⟩⟩
  have G_read_day := ok_read_day (P := l.prog) (w := w) (G := ⟨K, fun _ => C0⟩) (base := base) T C_read_event F_read_day
  have C_read_day : Cal l.prog w ⟨K, fun _ => C0⟩ mg base "read_day" 3 R_read_day := ⟨⟨_, _, _, G_read_day, PySem.W.mg_of X Gn a_read_day, k_read_day, b_read_day⟩⟩
  have G_law_name := ok_law_name (P := l.prog) (w := w) (G := ⟨K, fun _ => C0⟩) (base := base) T C_law_any F_law_name
  have C_law_name : Cal l.prog w ⟨K, fun _ => C0⟩ mg base "_law_name" 3 R_law_name := ⟨⟨_, _, _, G_law_name, PySem.W.mg_of X Gn a_law_name, k_law_name, b_law_name⟩⟩
  have G_law_crew := ok_law_crew (P := l.prog) (w := w) (G := ⟨K, fun _ => C0⟩) (base := base) T C_law_any C_law_draw F_law_crew
  have C_law_crew : Cal l.prog w ⟨K, fun _ => C0⟩ mg base "_law_crew" 3 R_law_crew := ⟨⟨_, _, _, G_law_crew, PySem.W.mg_of X Gn a_law_crew, k_law_crew, b_law_crew⟩⟩
  have G_law_event := ok_law_event (P := l.prog) (w := w) (G := ⟨K, fun _ => C0⟩) (base := base) T C_law_any C_law_draw F_law_event
  have C_law_event : Cal l.prog w ⟨K, fun _ => C0⟩ mg base "_law_event" 3 R_law_event := ⟨⟨_, _, _, G_law_event, PySem.W.mg_of X Gn a_law_event, k_law_event, b_law_event⟩⟩
  have G_check_days := ok_check_days (P := l.prog) (w := w) (G := ⟨K, fun _ => C0⟩) (base := base) T ck C_is_event C_take_names F_check_days
  have C_check_days : Cal l.prog w ⟨K, fun _ => C0⟩ mg base "check_days" 4 R_check_days := ⟨⟨_, _, _, G_check_days, PySem.W.mg_of X Gn a_check_days, k_check_days, b_check_days⟩⟩
  have G_law_names := ok_law_names (P := l.prog) (w := w) (G := ⟨K, fun _ => C0⟩) (base := base) T C_law_name F_law_names
  have C_law_names : Cal l.prog w ⟨K, fun _ => C0⟩ mg base "_law_names" 4 R_law_names := ⟨⟨_, _, _, G_law_names, PySem.W.mg_of X Gn a_law_names, k_law_names, b_law_names⟩⟩
  have G_law_days := ok_law_days (P := l.prog) (w := w) (G := ⟨K, fun _ => C0⟩) (base := base) T C_law_dealing_of C_law_draw C_law_event F_law_days
  have C_law_days : Cal l.prog w ⟨K, fun _ => C0⟩ mg base "_law_days" 4 R_law_days := ⟨⟨_, _, _, G_law_days, PySem.W.mg_of X Gn a_law_days, k_law_days, b_law_days⟩⟩
  have G_Log_init := ok_Log_init (P := l.prog) (w := w) (G := ⟨K, fun _ => C0⟩) (base := base) T C_is_within C_check_days F_Log_init
  have M_Log : CalM l.prog w ⟨K, fun _ => C0⟩ mg base "Log" 0 5 R_Log_init := ⟨⟨_, _, _, G_Log_init, PySem.W.mg_of X Gn q0, ⟨q0mk, a_Log_init, i_Log_init, q0kp⟩, b_Log_init⟩⟩
  have G_behind := ok_behind (P := l.prog) (w := w) (G := ⟨K, fun _ => C0⟩) (base := base) T C_check_same_parts M_Log F_behind
  have C_behind : Cal l.prog w ⟨K, fun _ => C0⟩ mg base "behind" 7 R_behind := ⟨⟨_, _, _, G_behind, PySem.W.mg_of X Gn a_behind, k_behind, b_behind⟩⟩
  have G_cut := ok_cut (P := l.prog) (w := w) (G := ⟨K, fun _ => C0⟩) (base := base) T C_check_stretch M_Log F_cut
  have C_cut : Cal l.prog w ⟨K, fun _ => C0⟩ mg base "cut" 7 R_cut := ⟨⟨_, _, _, G_cut, PySem.W.mg_of X Gn a_cut, k_cut, b_cut⟩⟩
  have G_read_log := ok_read_log (P := l.prog) (w := w) (G := ⟨K, fun _ => C0⟩) (base := base) T ck C_read_lock C_read_day M_Log F_read_log
  have C_read_log : Cal l.prog w ⟨K, fun _ => C0⟩ mg base "read_log" 7 R_read_log := ⟨⟨_, _, _, G_read_log, PySem.W.mg_of X Gn a_read_log, k_read_log, b_read_log⟩⟩
  have G_law_is := ok_law_is (P := l.prog) (w := w) (G := ⟨K, fun _ => C0⟩) (base := base) T ck (PySem.W.mg_of X Gn a_law_is) k_law_is b_law_is F_law_is 7
  have C_law_is : Cal l.prog w ⟨K, fun _ => C0⟩ mg base "_law_is" 7 (R_law_is 7) := ⟨⟨_, _, _, G_law_is, PySem.W.mg_of X Gn a_law_is, k_law_is, b_law_is⟩⟩
  have G_law_is_read := ok_law_is_read (P := l.prog) (w := w) (G := ⟨K, fun _ => C0⟩) (base := base) T ck C_law_text C_read_log C_law_is C_log_text M_Log L_Log E_Log F_law_is_read
  have C_law_is_read : Cal l.prog w ⟨K, fun _ => C0⟩ mg base "_law_is_read" 8 R_law_is_read := ⟨⟨_, _, _, G_law_is_read, PySem.W.mg_of X Gn a_law_is_read, k_law_is_read, b_law_is_read⟩⟩
  have G_law_lines_right := ok_law_lines_right (P := l.prog) (w := w) (G := ⟨K, fun _ => C0⟩) (base := base) T C_law_draw M_Log C_law_is C_law_text C_log_text C_cut C_behind F_law_lines_right
  have C_law_lines_right : Cal l.prog w ⟨K, fun _ => C0⟩ mg base "_law_lines_right" 8 R_law_lines_right := ⟨⟨_, _, _, G_law_lines_right, PySem.W.mg_of X Gn a_law_lines_right, k_law_lines_right, b_law_lines_right⟩⟩
  exact law_sp (G := ⟨K, fun _ => C0⟩) (ok_law (P := l.prog) (w := w) (G := ⟨K, fun _ => C0⟩) (base := base) T C_law_hand C_law_draw C_law_names C_law_days C_law_any C_law_is_read C_law_lines_right C_law_crew F_law) pure_law
end MP
set_option Elab.async false
set_option maxRecDepth 100000
open PySem PySem.W PyProof.Rows
set_option maxHeartbeats 0 in
theorem PySem.Challenge.cw_partkeys_k04_whole_log_texts_holds : PySem.Challenge.rw_partkeys_k04_whole_log_texts.Holds := by
  w_on; o_law; k_head; (case hw => w_witness2)
  k_fill
  refine MP.walk (l := PySem.Challenge.rw_partkeys_k04_whole_log_texts) (k := 9) rfl rfl ⟨rfl, by decide, by decide⟩ (fun w h Y => PySem.W.kIn_of Y) ?F
  case F =>
    intro w mg fa h KX G hmg
    refine' MP.all_mk KX G hmg ?q0 ?q0mk ?q0kp ?q0pg ?q0hd ?q0po ?q0sa ?q0ha ?q0hn ?q0htk ?q0hm ?q0ty ?q0m1 ?q0m2 ?q0m3 ?q0m4 ?q0m5 ?q0m6 ?q0ne ?a_is_integer ?l_is_integer ?c_is_integer ?k_is_integer ?a_is_name ?l_is_name ?c_is_name ?k_is_name ?a_names_in ?l_names_in ?c_names_in ?k_names_in ?a_Log_eq ?i_Log_eq ?l_Log_eq ?c_Log_eq ?k_Log_eq ?a_Log_len ?i_Log_len ?l_Log_len ?c_Log_len ?k_Log_len ?a_check_log ?l_check_log ?c_check_log ?k_check_log ?a_integer_of ?l_integer_of ?c_integer_of ?k_integer_of ?a_law_hand ?l_law_hand ?c_law_hand ?k_law_hand ?a_law_draw ?l_law_draw ?c_law_draw ?k_law_draw ?a_law_text ?l_law_text ?c_law_text ?k_law_text ?a_is_within ?l_is_within ?c_is_within ?k_is_within ?a_take_names ?l_take_names ?c_take_names ?k_take_names ?a_check_same_parts ?l_check_same_parts ?c_check_same_parts ?k_check_same_parts ?a_log_text ?l_log_text ?c_log_text ?k_log_text ?a_read_event ?l_read_event ?c_read_event ?k_read_event ?a_read_lock ?l_read_lock ?c_read_lock ?k_read_lock ?a_law_any ?l_law_any ?c_law_any ?k_law_any ?a_law_dealing_of ?l_law_dealing_of ?c_law_dealing_of ?k_law_dealing_of ?a_is_event ?l_is_event ?c_is_event ?k_is_event ?a_check_stretch ?l_check_stretch ?c_check_stretch ?k_check_stretch ?a_read_day ?l_read_day ?c_read_day ?k_read_day ?a_law_name ?l_law_name ?c_law_name ?k_law_name ?a_law_crew ?l_law_crew ?c_law_crew ?k_law_crew ?a_law_event ?l_law_event ?c_law_event ?k_law_event ?a_check_days ?l_check_days ?c_check_days ?k_check_days ?a_law_names ?l_law_names ?c_law_names ?k_law_names ?a_law_days ?l_law_days ?c_law_days ?k_law_days ?a_Log_init ?i_Log_init ?l_Log_init ?c_Log_init ?k_Log_init ?a_behind ?l_behind ?c_behind ?k_behind ?a_cut ?l_cut ?c_cut ?k_cut ?a_read_log ?l_read_log ?c_read_log ?k_read_log ?a_law_is ?l_law_is ?c_law_is ?k_law_is ?a_law_is_read ?l_law_is_read ?c_law_is_read ?k_law_is_read ?a_law_lines_right ?l_law_lines_right ?c_law_lines_right ?k_law_lines_right ?a_law ?l_law ?c_law ?k_law ?at_days_0 ?at_parts_0 ?z_abs ?z_all ?z_bool ?z_dict ?z_enumerate ?z_int ?z_isinstance ?z_len ?z_list ?z_range ?z_str ?z_tuple ?z_zip ?x_DAY ?x_LEAST_PARTS ?x_LETTERS ?x_LOCK ?x_MOST_DAYS ?x_MOST_DIGITS ?x_MOST_EVENTS ?x_MOST_NAME ?x_MOST_OFFICERS ?x_MOST_PARTS ?x_PAIR ?x_SEEN
    (case q0 => k_is)
    (case q0mk => k_is)
    (case q0kp => k_is)
    (case q0pg => k_is)
    (case q0hd => k_is)
    (case q0po => k_is)
    (case q0sa => k_is)
    (case q0ha => k_is)
    (case q0hn => k_is)
    (case q0htk => k_is)
    (case q0hm => k_is)
    (case q0ty => k_is)
    (case q0m1 => k_is)
    (case q0m2 => k_is)
    (case q0m3 => k_is)
    (case q0m4 => k_is)
    (case q0m5 => k_is)
    (case q0m6 => k_is)
    (case q0ne => k_is)
    (case a_is_integer => k_is)
    (case l_is_integer => k_is)
    (case c_is_integer => k_is)
    (case k_is_integer => k_is)
    (case a_is_name => k_is)
    (case l_is_name => k_is)
    (case c_is_name => k_is)
    (case k_is_name => k_is)
    (case a_names_in => k_is)
    (case l_names_in => k_is)
    (case c_names_in => k_is)
    (case k_names_in => k_is)
    (case a_Log_eq => k_is)
    (case i_Log_eq => k_is)
    (case l_Log_eq => k_is)
    (case c_Log_eq => k_is)
    (case k_Log_eq => k_is)
    (case a_Log_len => k_is)
    (case i_Log_len => k_is)
    (case l_Log_len => k_is)
    (case c_Log_len => k_is)
    (case k_Log_len => k_is)
    (case a_check_log => k_is)
    (case l_check_log => k_is)
    (case c_check_log => k_is)
    (case k_check_log => k_is)
    (case a_integer_of => k_is)
    (case l_integer_of => k_is)
    (case c_integer_of => k_is)
    (case k_integer_of => k_is)
    (case a_law_hand => k_is)
    (case l_law_hand => k_is)
    (case c_law_hand => k_is)
    (case k_law_hand => k_is)
    (case a_law_draw => k_is)
    (case l_law_draw => k_is)
    (case c_law_draw => k_is)
    (case k_law_draw => k_is)
    (case a_law_text => k_is)
    (case l_law_text => k_is)
    (case c_law_text => k_is)
    (case k_law_text => k_is)
    (case a_is_within => k_is)
    (case l_is_within => k_is)
    (case c_is_within => k_is)
    (case k_is_within => k_is)
    (case a_take_names => k_is)
    (case l_take_names => k_is)
    (case c_take_names => k_is)
    (case k_take_names => k_is)
    (case a_check_same_parts => k_is)
    (case l_check_same_parts => k_is)
    (case c_check_same_parts => k_is)
    (case k_check_same_parts => k_is)
    (case a_log_text => k_is)
    (case l_log_text => k_is)
    (case c_log_text => k_is)
    (case k_log_text => k_is)
    (case a_read_event => k_is)
    (case l_read_event => k_is)
    (case c_read_event => k_is)
    (case k_read_event => k_is)
    (case a_read_lock => k_is)
    (case l_read_lock => k_is)
    (case c_read_lock => k_is)
    (case k_read_lock => k_is)
    (case a_law_any => k_is)
    (case l_law_any => k_is)
    (case c_law_any => k_is)
    (case k_law_any => k_is)
    (case a_law_dealing_of => k_is)
    (case l_law_dealing_of => k_is)
    (case c_law_dealing_of => k_is)
    (case k_law_dealing_of => k_is)
    (case a_is_event => k_is)
    (case l_is_event => k_is)
    (case c_is_event => k_is)
    (case k_is_event => k_is)
    (case a_check_stretch => k_is)
    (case l_check_stretch => k_is)
    (case c_check_stretch => k_is)
    (case k_check_stretch => k_is)
    (case a_read_day => k_is)
    (case l_read_day => k_is)
    (case c_read_day => k_is)
    (case k_read_day => k_is)
    (case a_law_name => k_is)
    (case l_law_name => k_is)
    (case c_law_name => k_is)
    (case k_law_name => k_is)
    (case a_law_crew => k_is)
    (case l_law_crew => k_is)
    (case c_law_crew => k_is)
    (case k_law_crew => k_is)
    (case a_law_event => k_is)
    (case l_law_event => k_is)
    (case c_law_event => k_is)
    (case k_law_event => k_is)
    (case a_check_days => k_is)
    (case l_check_days => k_is)
    (case c_check_days => k_is)
    (case k_check_days => k_is)
    (case a_law_names => k_is)
    (case l_law_names => k_is)
    (case c_law_names => k_is)
    (case k_law_names => k_is)
    (case a_law_days => k_is)
    (case l_law_days => k_is)
    (case c_law_days => k_is)
    (case k_law_days => k_is)
    (case a_Log_init => k_is)
    (case i_Log_init => k_is)
    (case l_Log_init => k_is)
    (case c_Log_init => k_is)
    (case k_Log_init => k_is)
    (case a_behind => k_is)
    (case l_behind => k_is)
    (case c_behind => k_is)
    (case k_behind => k_is)
    (case a_cut => k_is)
    (case l_cut => k_is)
    (case c_cut => k_is)
    (case k_cut => k_is)
    (case a_read_log => k_is)
    (case l_read_log => k_is)
    (case c_read_log => k_is)
    (case k_read_log => k_is)
    (case a_law_is => k_is)
    (case l_law_is => k_is)
    (case c_law_is => k_is)
    (case k_law_is => k_is)
    (case a_law_is_read => k_is)
    (case l_law_is_read => k_is)
    (case c_law_is_read => k_is)
    (case k_law_is_read => k_is)
    (case a_law_lines_right => k_is)
    (case l_law_lines_right => k_is)
    (case c_law_lines_right => k_is)
    (case k_law_lines_right => k_is)
    (case a_law => k_is)
    (case l_law => k_is)
    (case c_law => k_is)
    (case k_law => k_is)
    (case at_days_0 => k_is)
    (case at_parts_0 => k_is)
    (case z_abs => k_is)
    (case z_all => k_is)
    (case z_bool => k_is)
    (case z_dict => k_is)
    (case z_enumerate => k_is)
    (case z_int => k_is)
    (case z_isinstance => k_is)
    (case z_len => k_is)
    (case z_list => k_is)
    (case z_range => k_is)
    (case z_str => k_is)
    (case z_tuple => k_is)
    (case z_zip => k_is)
    (case x_DAY => k_is)
    (case x_LEAST_PARTS => k_is)
    (case x_LETTERS => k_is)
    (case x_LOCK => k_is)
    (case x_MOST_DAYS => k_is)
    (case x_MOST_DIGITS => k_is)
    (case x_MOST_EVENTS => k_is)
    (case x_MOST_NAME => k_is)
    (case x_MOST_OFFICERS => k_is)
    (case x_MOST_PARTS => k_is)
    (case x_PAIR => k_is)
    (case x_SEEN => k_is)
