import PyProof.Rows.All
import Wide.All
import OpenK.AllK
import Wide.FinOn
import HandS.ForMost
import HandS.ForExc
import HandS.Deep
import HandS.SortInts
import HandS.IsInst
import HandS.Conv
import HandS.RevRange
import PySem.Challenge.RW_squarewords_k56_whole_field_laws
set_option Elab.async false
set_option linter.all false
set_option maxRecDepth 100000
namespace DL
open PySem PySem.Spec PyProof.Rows L2

/-- a number of modest size; one below 2 ^ 64 -/
def sm (i : Int) : Bool := Nat.ble i.natAbs 1000000000000
def sm64 (i : Int) : Bool := Nat.ble i.natAbs 18446744073709551615
theorem sm_iff {i : Int} : sm i = true ↔ i.natAbs ≤ 1000000000000 := by unfold sm; exact ⟨Nat.le_of_ble_eq_true, Nat.ble_eq_true_of_le⟩
theorem sm_lt {i : Int} (h : sm i = true) : -1000000000000 ≤ i ∧ i ≤ 1000000000000 := by have := sm_iff.mp h; omega
theorem sm_of {i : Int} (h : -1000000000000 ≤ i) (h2 : i ≤ 1000000000000) : sm i = true := sm_iff.mpr (by omega)
theorem sm64_lt {i : Int} (h : sm64 i = true) : -(2 ^ 64) < i ∧ i < 2 ^ 64 := by
  have : i.natAbs ≤ 18446744073709551615 := by unfold sm64 at h; exact Nat.le_of_ble_eq_true h
  omega
theorem sm64_of {i : Int} (h : sm i = true) : sm64 i = true := by
  have := sm_lt h
  unfold sm64
  exact Nat.ble_eq_true_of_le (by omega)
/-! ### data -/
inductive D where
  | non | bl (b : Bool) | int (i : Int) | str (x : Str) | lst (xs : List D) | tup (xs : List D)
  | dk (kvs : List (Key × D)) | dt (kvs : List (List Key × D)) | feed

/-- what a name holds: a thing that never changes any more, or an own list, an own dict -/
inductive OT where
  | fz (d : D) | ow (ts : List OT) | odk (kvs : List (Key × D)) | odt (kvs : List (List Key × D))

mutual
def OT.fzD : OT → D
  | .fz d => d
  | .ow ts => .lst (OT.fzL ts)
  | .odk kvs => .dk kvs
  | .odt kvs => .dt kvs
def OT.fzL : List OT → List D
  | [] => []
  | t :: ts => t.fzD :: OT.fzL ts
end
theorem fzL_map (ts : List OT) : OT.fzL ts = ts.map OT.fzD := by
  induction ts with
  | nil => simp [OT.fzL]
  | cons t ts ih => simp [OT.fzL, ih]
@[simp] theorem fzD_ow (ts : List OT) : (OT.ow ts).fzD = .lst (ts.map OT.fzD) := by simp [OT.fzD, fzL_map]
@[simp] theorem fzD_fz (d : D) : (OT.fz d).fzD = d := by simp [OT.fzD]

/-- the draws' state: the numbers, and the list's cells -/
structure FS where
  script : List Int
  pos : Int
  big : Int
  st : Int
  lv : Bool

structure Ct where
  K : PySem.W.Frag
  fd : Option Addr

/-! ### data in a heap -/
mutual
inductive Rep (c : Ct) (G : Hp) : D → V → Prop
  | non : Rep c G .non .non
  | bl (b : Bool) : Rep c G (.bl b) (.bl b)
  | int (i : Int) : Rep c G (.int i) (.int i)
  | str (x : Str) : Rep c G (.str x) (.str x)
  | lst {a : Addr} {vs : List V} {ds : List D} : G a = some (.lst vs) → RepL c G ds vs → Rep c G (.lst ds) (.ref a)
  | tup {a : Addr} {vs : List V} {ds : List D} : SqT c.K G a vs → RepL c G ds vs → Rep c G (.tup ds) (.ref a)
  | dk {a : Addr} {kvs : List (Key × V)} {ks : List Key} {ds : List D} : G a = some (.dK kvs) → kvs.map (·.1) = ks → RepL c G ds (kvs.map (·.2)) → Rep c G (.dk (ks.zip ds)) (.ref a)
  | dt {a : Addr} {kvs : List (List Key × V)} {ks : List (List Key)} {ds : List D} : G a = some (.dT kvs) → kvs.map (·.1) = ks → RepL c G ds (kvs.map (·.2)) → Rep c G (.dt (ks.zip ds)) (.ref a)
  | feed {p : Addr} : c.fd = some p → Rep c G .feed (.ref p)
inductive RepL (c : Ct) (G : Hp) : List D → List V → Prop
  | nil : RepL c G [] []
  | cons {d : D} {v : V} {ds : List D} {vs : List V} : Rep c G d v → RepL c G ds vs → RepL c G (d :: ds) (v :: vs)
end

theorem sqT_mono {K : PySem.W.Frag} {H H' : Hp} {a : Addr} {xs : List V} (e : Same H H') (h : SqT K H a xs) : SqT K H' a xs := by
  rcases h with (h | ⟨o, h⟩) | h
  · exact .inl (.inl (e _ _ h))
  · exact .inl (.inr ⟨o, e _ _ h⟩)
  · exact .inr h
section
variable {c : Ct} {G G' H H' : Hp}
mutual
theorem Rep.mono (e : Same G G') : ∀ {d : D} {v : V}, Rep c G d v → Rep c G' d v
  | _, _, .non => .non
  | _, _, .bl b => .bl b
  | _, _, .int i => .int i
  | _, _, .str x => .str x
  | _, _, .lst h r => .lst (e _ _ h) (RepL.mono e r)
  | _, _, .tup h r => .tup (sqT_mono e h) (RepL.mono e r)
  | _, _, .dk h k r => .dk (e _ _ h) k (RepL.mono e r)
  | _, _, .dt h k r => .dt (e _ _ h) k (RepL.mono e r)
  | _, _, .feed h => .feed h
theorem RepL.mono (e : Same G G') : ∀ {ds : List D} {vs : List V}, RepL c G ds vs → RepL c G' ds vs
  | _, _, .nil => .nil
  | _, _, .cons h r => .cons (Rep.mono e h) (RepL.mono e r)
end
theorem RepL.length : ∀ {ds : List D} {vs : List V}, RepL c G ds vs → ds.length = vs.length
  | _, _, .nil => rfl
  | _, _, .cons _ r => by simp [RepL.length r]
theorem RepL.append : ∀ {ds es : List D} {vs us : List V}, RepL c G ds vs → RepL c G es us → RepL c G (ds ++ es) (vs ++ us)
  | _, _, _, _, .nil, s => s
  | _, _, _, _, .cons h r, s => .cons h (RepL.append r s)
theorem RepL.get : ∀ {ds : List D} {vs : List V}, RepL c G ds vs → ∀ {i : Nat} {d : D}, ds[i]? = some d → ∃ v, vs[i]? = some v ∧ Rep c G d v
  | _, _, .nil, _, _, e => by simp at e
  | _, _, .cons h r, 0, _, e => by simp at e; subst e; exact ⟨_, rfl, h⟩
  | _, _, .cons h r, i + 1, _, e => by
    obtain ⟨v, e1, r1⟩ := RepL.get r (i := i) (by simpa using e)
    exact ⟨v, by simpa using e1, r1⟩
theorem RepL.set {d : D} {v : V} (h : Rep c G d v) : ∀ {ds : List D} {vs : List V}, RepL c G ds vs → ∀ i : Nat, RepL c G (ds.set i d) (vs.set i v)
  | _, _, .nil, _ => .nil
  | _, _, .cons _ r, 0 => .cons h r
  | _, _, .cons h' r, i + 1 => .cons h' (RepL.set h r i)
theorem RepL.take : ∀ {ds : List D} {vs : List V}, RepL c G ds vs → ∀ i : Nat, RepL c G (ds.take i) (vs.take i)
  | _, _, _, 0 => .nil
  | _, _, .nil, _ + 1 => .nil
  | _, _, .cons h r, i + 1 => .cons h (RepL.take r i)
theorem RepL.drop : ∀ {ds : List D} {vs : List V}, RepL c G ds vs → ∀ i : Nat, RepL c G (ds.drop i) (vs.drop i)
  | _, _, r, 0 => r
  | _, _, .nil, _ + 1 => .nil
  | _, _, .cons _ r, i + 1 => RepL.drop r i
theorem RepL.one {d : D} {v : V} (h : Rep c G d v) : RepL c G [d] [v] := .cons h .nil
theorem RepL.reverse : ∀ {ds : List D} {vs : List V}, RepL c G ds vs → RepL c G ds.reverse vs.reverse
  | _, _, .nil => .nil
  | _, _, .cons h r => by
    rw [List.reverse_cons, List.reverse_cons]
    exact (RepL.reverse r).append (.one h)
theorem RepL.rep {ds : List D} {vs : List V} (h : RepL c G ds vs) : ∀ k : Nat, RepL c G (List.replicate k ds).flatten (List.replicate k vs).flatten
  | 0 => .nil
  | k + 1 => by
    rw [List.replicate_succ, List.replicate_succ, List.flatten_cons, List.flatten_cons]
    exact h.append (RepL.rep h k)
theorem RepL.ints : ∀ {ns : List Int} {vs : List V}, RepL c G (ns.map D.int) vs → vs = ns.map V.int
  | [], _, .nil => rfl
  | n :: ns, _, .cons h r => by cases h; rw [RepL.ints r]; rfl
theorem RepL.ofInts : ∀ (ns : List Int), RepL c G (ns.map D.int) (ns.map V.int)
  | [] => .nil
  | n :: ns => .cons (.int n) (RepL.ofInts ns)
theorem RepL.bls : ∀ {ns : List Bool} {vs : List V}, RepL c G (ns.map D.bl) vs → vs = ns.map V.bl
  | [], _, .nil => rfl
  | n :: ns, _, .cons h r => by cases h; rw [RepL.bls r]; rfl
end

/-! ### own things -/
mutual
inductive Own (c : Ct) (G H : Hp) : OT → V → List Addr → Prop
  | fz {d : D} {v : V} : Rep c G d v → Own c G H (.fz d) v []
  | ow {a : Addr} {vs : List V} {ts : List OT} {A : List Addr} : H a = some (.lst vs) → OwnL c G H ts vs A → Own c G H (.ow ts) (.ref a) (a :: A)
  | odk {a : Addr} {kvs : List (Key × V)} {ks : List Key} {ds : List D} : H a = some (.dK kvs) → kvs.map (·.1) = ks → RepL c G ds (kvs.map (·.2)) → Own c G H (.odk (ks.zip ds)) (.ref a) [a]
  | odt {a : Addr} {kvs : List (List Key × V)} {ks : List (List Key)} {ds : List D} : H a = some (.dT kvs) → kvs.map (·.1) = ks → RepL c G ds (kvs.map (·.2)) → Own c G H (.odt (ks.zip ds)) (.ref a) [a]
inductive OwnL (c : Ct) (G H : Hp) : List OT → List V → List Addr → Prop
  | nil : OwnL c G H [] [] []
  | cons {t : OT} {v : V} {A : List Addr} {ts : List OT} {vs : List V} {B : List Addr} : Own c G H t v A → OwnL c G H ts vs B → OwnL c G H (t :: ts) (v :: vs) (A ++ B)
end
section
variable {c : Ct} {G G' H H' : Hp}
mutual
theorem Own.mono (e : Same G G') : ∀ {t : OT} {v : V} {A : List Addr}, Own c G H t v A → (∀ a ∈ A, H' a = H a) → Own c G' H' t v A
  | _, _, _, .fz h, _ => .fz (h.mono e)
  | _, _, _, .ow h r, k => .ow ((k _ (by simp)).trans h) (OwnL.mono e r fun a ha => k a (by simp [ha]))
  | _, _, _, .odk h r q, k => .odk ((k _ (by simp)).trans h) r (q.mono e)
  | _, _, _, .odt h r q, k => .odt ((k _ (by simp)).trans h) r (q.mono e)
theorem OwnL.mono (e : Same G G') : ∀ {ts : List OT} {vs : List V} {A : List Addr}, OwnL c G H ts vs A → (∀ a ∈ A, H' a = H a) → OwnL c G' H' ts vs A
  | _, _, _, .nil, _ => .nil
  | _, _, _, .cons h r, k => .cons (Own.mono e h fun a ha => k a (by simp [ha])) (OwnL.mono e r fun a ha => k a (by simp [ha]))
end
mutual
theorem Own.there : ∀ {t : OT} {v : V} {A : List Addr}, Own c G H t v A → ∀ a ∈ A, ∃ o, H a = some o
  | _, _, _, .fz _, a, ha => by simp at ha
  | _, _, _, .ow h r, a, ha => by
    rcases List.mem_cons.mp ha with e | ha
    · rw [e]; exact ⟨_, h⟩
    · exact OwnL.there r a ha
  | _, _, _, .odk h _ _, a, ha => by rcases List.mem_cons.mp ha with e | ha; rw [e]; exact ⟨_, h⟩; simp at ha
  | _, _, _, .odt h _ _, a, ha => by rcases List.mem_cons.mp ha with e | ha; rw [e]; exact ⟨_, h⟩; simp at ha
theorem OwnL.there : ∀ {ts : List OT} {vs : List V} {A : List Addr}, OwnL c G H ts vs A → ∀ a ∈ A, ∃ o, H a = some o
  | _, _, _, .nil, a, ha => by simp at ha
  | _, _, _, .cons h r, a, ha => by
    rcases List.mem_append.mp ha with ha | ha
    · exact Own.there h a ha
    · exact OwnL.there r a ha
end
/-- F laid over by what H has at A -/
def ovl (F H : Hp) (A : List Addr) : Hp := fun a => if a ∈ A then H a else F a
theorem ovl_in {F H : Hp} {A : List Addr} {a : Addr} (h : a ∈ A) : ovl F H A a = H a := if_pos h
theorem ovl_out {F H : Hp} {A : List Addr} {a : Addr} (h : a ∉ A) : ovl F H A a = F a := if_neg h
@[simp] theorem ovl_nil {F H : Hp} : ovl F H [] = F := by funext a; simp [ovl]
/-! frozen: G and what H has at A -/
mutual
theorem Own.freeze (e : Same G G') : ∀ {t : OT} {v : V} {A : List Addr}, Own c G H t v A → (∀ a ∈ A, G' a = H a) → Rep c G' t.fzD v
  | _, _, _, .fz h, _ => by rw [fzD_fz]; exact h.mono e
  | _, _, _, .ow h r, k => by
    rw [OT.fzD]
    exact .lst ((k _ (by simp)).trans h) (OwnL.freeze e r fun a ha => k a (by simp [ha]))
  | _, _, _, .odk h r q, k => by rw [OT.fzD]; exact .dk ((k _ (by simp)).trans h) r (q.mono e)
  | _, _, _, .odt h r q, k => by rw [OT.fzD]; exact .dt ((k _ (by simp)).trans h) r (q.mono e)
theorem OwnL.freeze (e : Same G G') : ∀ {ts : List OT} {vs : List V} {A : List Addr}, OwnL c G H ts vs A → (∀ a ∈ A, G' a = H a) → RepL c G' (OT.fzL ts) vs
  | _, _, _, .nil, _ => by rw [OT.fzL]; exact .nil
  | _, _, _, .cons h r, k => by
    rw [OT.fzL]
    exact .cons (Own.freeze e h fun a ha => k a (by simp [ha])) (OwnL.freeze e r fun a ha => k a (by simp [ha]))
end
theorem OwnL.ofRep : ∀ {ds : List D} {vs : List V}, RepL c G ds vs → OwnL c G H (ds.map OT.fz) vs []
  | _, _, .nil => .nil
  | _, _, .cons h r => by
    have := OwnL.cons (c := c) (G := G) (H := H) (.fz h) (OwnL.ofRep r)
    simpa using this
theorem OwnL.append : ∀ {ts us : List OT} {vs ws : List V} {A B : List Addr}, OwnL c G H ts vs A → OwnL c G H us ws B → OwnL c G H (ts ++ us) (vs ++ ws) (A ++ B)
  | _, _, _, _, _, _, .nil, s => s
  | _, _, _, _, _, _, .cons h r, s => by
    have := OwnL.cons h (OwnL.append r s)
    simpa [List.append_assoc] using this
theorem OwnL.length : ∀ {ts : List OT} {vs : List V} {A : List Addr}, OwnL c G H ts vs A → ts.length = vs.length
  | _, _, _, .nil => rfl
  | _, _, _, .cons _ r => by simp [OwnL.length r]
/-- one item: its own part and the others' -/
theorem OwnL.at : ∀ {ts : List OT} {vs : List V} {A : List Addr}, OwnL c G H ts vs A → ∀ {i : Nat} {t : OT}, ts[i]? = some t →
    ∃ v B A', vs[i]? = some v ∧ Own c G H t v B ∧ A.Perm (B ++ A') ∧
      ∀ {G1 H1 : Hp} {t1 : OT} {v1 : V} {B1 : List Addr}, Same G G1 → (∀ a ∈ A', H1 a = H a) → Own c G1 H1 t1 v1 B1 → ∃ A1, A1.Perm (B1 ++ A') ∧ OwnL c G1 H1 (ts.set i t1) (vs.set i v1) A1
  | _, _, _, .nil, _, _, e => by simp at e
  | _, _, _, .cons (A := A0) (B := B0) h r, 0, _, e => by
    simp at e
    subst e
    exact ⟨_, _, _, rfl, h, .refl _, fun sm k o => ⟨_, .refl _, .cons o (r.mono sm k)⟩⟩
  | _, _, _, .cons (A := A0) (B := B0) h r, i + 1, t, e => by
    obtain ⟨v, B, A', e1, o1, p1, f1⟩ := OwnL.at r (i := i) (t := t) (by simpa using e)
    refine ⟨v, B, A0 ++ A', by simpa using e1, o1, ?_, fun sm k o => ?_⟩
    · refine ((List.Perm.append_left A0 p1).trans ?_)
      rw [← List.append_assoc, ← List.append_assoc]
      exact List.Perm.append_right _ List.perm_append_comm
    · obtain ⟨A1, p2, o2⟩ := f1 sm (fun a ha => k a (by simp [ha])) o
      refine ⟨A0 ++ A1, ?_, .cons (h.mono sm fun a ha => k a (by simp [ha])) o2⟩
      refine ((List.Perm.append_left A0 p2).trans ?_)
      rw [← List.append_assoc, ← List.append_assoc]
      exact List.Perm.append_right _ List.perm_append_comm
end

/-! ### the state -/
abbrev Env := List (Option OT)
inductive Slots (c : Ct) (G H : Hp) : Env → L2.St → List Addr → Prop
  | nil : Slots c G H [] [] []
  | no {ρ : Env} {v : Option V} {σ : L2.St} {A : List Addr} : Slots c G H ρ σ A → Slots c G H (none :: ρ) (v :: σ) A
  | so {ρ : Env} {t : OT} {v : V} {σ : L2.St} {A B : List Addr} : Own c G H t v B → Slots c G H ρ σ A → Slots c G H (some t :: ρ) (some v :: σ) (B ++ A)
section
variable {c : Ct} {G G' H H' : Hp}
theorem Slots.length : ∀ {ρ : Env} {σ : L2.St} {A : List Addr}, Slots c G H ρ σ A → ρ.length = σ.length
  | _, _, _, .nil => rfl
  | _, _, _, .no r => by simp [Slots.length r]
  | _, _, _, .so _ r => by simp [Slots.length r]
theorem Slots.mono (e : Same G G') : ∀ {ρ : Env} {σ : L2.St} {A : List Addr}, Slots c G H ρ σ A → (∀ a ∈ A, H' a = H a) → Slots c G' H' ρ σ A
  | _, _, _, .nil, _ => .nil
  | _, _, _, .no r, k => .no (Slots.mono e r k)
  | _, _, _, .so o r, k => .so (o.mono e fun a ha => k a (by simp [ha])) (Slots.mono e r fun a ha => k a (by simp [ha]))
theorem Slots.there : ∀ {ρ : Env} {σ : L2.St} {A : List Addr}, Slots c G H ρ σ A → ∀ a ∈ A, ∃ o, H a = some o
  | _, _, _, .nil, a, ha => by simp at ha
  | _, _, _, .no r, a, ha => Slots.there r a ha
  | _, _, _, .so o r, a, ha => by
    rcases List.mem_append.mp ha with ha | ha
    · exact o.there a ha
    · exact Slots.there r a ha
/-- a slot's value taken out -/
theorem Slots.get : ∀ {ρ : Env} {σ : L2.St} {A : List Addr}, Slots c G H ρ σ A → ∀ {i : Nat} {t : OT}, ρ[i]? = some (some t) →
    ∃ v B A', σ[i]? = some (some v) ∧ Own c G H t v B ∧ A.Perm (B ++ A') ∧ Slots c G H (ρ.set i none) σ A'
  | _, _, _, .nil, _, _, e => by simp at e
  | _, _, _, .no r, 0, _, e => by simp at e
  | _, _, _, .so o r, 0, _, e => by
    simp at e
    subst e
    exact ⟨_, _, _, rfl, o, .refl _, .no r⟩
  | _, _, _, .no r, i + 1, t, e => by
    obtain ⟨v, B, A', e1, o1, p1, s1⟩ := Slots.get r (i := i) (t := t) (by simpa using e)
    exact ⟨v, B, A', by simpa using e1, o1, p1, .no s1⟩
  | _, _, _, .so (B := B0) o r, i + 1, t, e => by
    obtain ⟨v, B, A', e1, o1, p1, s1⟩ := Slots.get r (i := i) (t := t) (by simpa using e)
    refine ⟨v, B, B0 ++ A', by simpa using e1, o1, ?_, .so o s1⟩
    refine ((List.Perm.append_left B0 p1).trans ?_)
    rw [← List.append_assoc, ← List.append_assoc]
    exact List.Perm.append_right _ List.perm_append_comm
/-- a slot's value put in -/
theorem Slots.put : ∀ {ρ : Env} {σ : L2.St} {A : List Addr}, Slots c G H ρ σ A → ∀ {i : Nat} {t : OT} {v : V} {B : List Addr}, i < ρ.length → ρ[i]? = some none → Own c G H t v B →
    ∃ A', A'.Perm (B ++ A) ∧ Slots c G H (ρ.set i (some t)) (σ.set i (some v)) A'
  | _, _, _, .nil, _, _, _, _, l, _, _ => by simp at l
  | _, _, _, .no r, 0, _, _, _, _, _, o => ⟨_, .refl _, .so o r⟩
  | _, _, _, .so _ _, 0, _, _, _, _, e, _ => by simp at e
  | _, _, _, .no r, i + 1, t, v, B, l, e, o => by
    obtain ⟨A', p, s⟩ := Slots.put r (i := i) (t := t) (v := v) (B := B) (by simpa using l) (by simpa using e) o
    exact ⟨A', p, .no s⟩
  | _, _, _, .so (B := B0) o' r, i + 1, t, v, B, l, e, o => by
    obtain ⟨A', p, s⟩ := Slots.put r (i := i) (t := t) (v := v) (B := B) (by simpa using l) (by simpa using e) o
    refine ⟨B0 ++ A', ?_, .so o' s⟩
    refine ((List.Perm.append_left B0 p).trans ?_)
    rw [← List.append_assoc, ← List.append_assoc]
    exact List.Perm.append_right _ List.perm_append_comm
/-- a slot forgotten -/
theorem Slots.kill : ∀ {ρ : Env} {σ : L2.St} {A : List Addr}, Slots c G H ρ σ A → ∀ (i : Nat), ∃ A', A'.Sublist A ∧ ∀ w, Slots c G H (ρ.set i none) (σ.set i w) A'
  | _, _, _, .nil, _ => ⟨_, .refl _, fun _ => .nil⟩
  | _, _, _, .no r, 0 => ⟨_, .refl _, fun _ => .no r⟩
  | _, _, _, .so _ r, 0 => ⟨_, List.sublist_append_right _ _, fun _ => .no r⟩
  | _, _, _, .no r, i + 1 => by
    obtain ⟨A', p, s⟩ := Slots.kill r i
    exact ⟨A', p, fun w => .no (s w)⟩
  | _, _, _, .so (B := B0) o r, i + 1 => by
    obtain ⟨A', p, s⟩ := Slots.kill r i
    exact ⟨B0 ++ A', List.Sublist.append (.refl _) p, fun w => .so o (s w)⟩
theorem Slots.kill' {ρ : Env} {σ : L2.St} {A : List Addr} (h : Slots c G H ρ σ A) (i : Nat) : ∃ A', A'.Sublist A ∧ Slots c G H (ρ.set i none) σ A' := by
  obtain ⟨A', p, s⟩ := h.kill i
  refine ⟨A', p, ?_⟩
  have := s (σ[i]?.join)
  by_cases hi : i < σ.length
  · have e : σ.set i (σ[i]?.join) = σ := by
      rw [List.getElem?_eq_getElem hi]
      simp
    rwa [e] at this
  · rwa [List.set_eq_of_length_le (l := σ) (by omega)] at this
end

def FeedAt (c : Ct) (G H : Hp) (p : Addr) (s : FS) : Prop := ∃ q, H p = some (.lst [.ref q, .int s.pos, .int s.big, .int s.st]) ∧ G q = some (.lst (s.script.map V.int))

structure Sat (c : Ct) (F G H : Hp) (σ : L2.St) (ρ : Env) (s : FS) : Prop where
  sub : Same G H
  fr : ∀ a o, F a = some o → H a = some o ∧ G a = none
  fd : ∀ p, c.fd = some p ∧ s.lv = true → G p = none ∧ F p = none ∧ FeedAt c G H p s
  sl : ∃ A, Slots c G H ρ σ A ∧ A.Nodup ∧ ∀ a ∈ A, G a = none ∧ F a = none ∧ ¬ (c.fd = some a ∧ s.lv = true)
section
variable {c : Ct} {F F' G G' H H' : Hp} {σ : L2.St} {ρ : Env} {s : FS}
theorem Sat.len (S : Sat c F G H σ ρ s) : ρ.length = σ.length := by
  obtain ⟨A, h, _⟩ := S.sl
  exact h.length
/-- framing less -/
theorem Sat.less (S : Sat c F G H σ ρ s) (h : ∀ a o, F' a = some o → F a = some o) : Sat c F' G H σ ρ s := by
  have hn : ∀ a, F a = none → F' a = none := fun a e => by
    cases q : F' a with
    | none => rfl
    | some o => rw [h a o q] at e; cases e
  refine ⟨S.sub, fun a o e => S.fr a o (h a o e), fun p e => ?_, ?_⟩
  · obtain ⟨a, b, d⟩ := S.fd p e
    exact ⟨a, hn p b, d⟩
  · obtain ⟨A, h1, h2, h3⟩ := S.sl
    exact ⟨A, h1, h2, fun a ha => ⟨(h3 a ha).1, hn a (h3 a ha).2.1, (h3 a ha).2.2⟩⟩
theorem Sat.kill (S : Sat c F G H σ ρ s) (i : Nat) : Sat c F G H σ (ρ.set i none) s := by
  obtain ⟨A, h1, h2, h3⟩ := S.sl
  obtain ⟨A', p, h4⟩ := h1.kill' i
  exact ⟨S.sub, S.fr, S.fd, A', h4, p.nodup h2, fun a ha => h3 a (p.subset ha)⟩
theorem Sat.killS (S : Sat c F G H σ ρ s) (i : Nat) (w : Option V) : Sat c F G H (σ.set i w) (ρ.set i none) s := by
  obtain ⟨A, h1, h2, h3⟩ := S.sl
  obtain ⟨A', p, h4⟩ := h1.kill i
  exact ⟨S.sub, S.fr, S.fd, A', h4 w, p.nodup h2, fun a ha => h3 a (p.subset ha)⟩
/-- a new object at p, framed -/
theorem Sat.new {p : Addr} {o : HO} (S : Sat c F G H σ ρ s) (hp : H p = none) : Sat c (upd F p o) G (upd H p o) σ ρ s := by
  have gp : G p = none := S.sub.free hp
  have k : ∀ a o', H a = some o' → upd H p o a = some o' := fun a o' e => by rw [upd_ne (ne_of_none e hp)]; exact e
  refine ⟨fun a o' e => k a o' (S.sub a o' e), fun a o' e => ?_, fun q e => ?_, ?_⟩
  · by_cases hap : a = p
    · subst hap; rw [upd_same] at e; cases e; exact ⟨upd_same, gp⟩
    · rw [upd_ne hap] at e; exact ⟨k a o' (S.fr a o' e).1, (S.fr a o' e).2⟩
  · obtain ⟨e1, e2, r, e3, e4⟩ := S.fd q e
    have hq : q ≠ p := ne_of_none e3 hp
    exact ⟨e1, by rw [upd_ne hq]; exact e2, r, k _ _ e3, e4⟩
  · obtain ⟨A, h1, h2, h3⟩ := S.sl
    have ha : ∀ a ∈ A, a ≠ p := fun a ha z => by
      obtain ⟨o', e⟩ := h1.there a ha
      exact ne_of_none e hp z
    exact ⟨A, h1.mono (Same.refl G) fun a h => upd_ne (ha a h), h2, fun a h => ⟨(h3 a h).1, by rw [upd_ne (ha a h)]; exact (h3 a h).2.1, (h3 a h).2.2⟩⟩
/-- a framed object is frozen -/
theorem Sat.fz1 {p : Addr} {o : HO} (S : Sat c (upd F p o) G H σ ρ s) (hF : F p = none) : Sat c F (upd G p o) H σ ρ s ∧ Same G (upd G p o) := by
  obtain ⟨hp, gp⟩ := S.fr p o upd_same
  have k : Same G (upd G p o) := fun a o' e => by rw [upd_ne (ne_of_none e gp)]; exact e
  have nF : ∀ a o', F a = some o' → a ≠ p := fun a o' e z => by rw [z, hF] at e; cases e
  refine ⟨⟨fun a o' e => ?_, fun a o' e => ?_, fun q e => ?_, ?_⟩, k⟩
  · by_cases hap : a = p
    · subst hap; rw [upd_same] at e; cases e; exact hp
    · rw [upd_ne hap] at e; exact S.sub a o' e
  · have hap := nF a o' e
    have := S.fr a o' (by rw [upd_ne hap]; exact e)
    exact ⟨this.1, by rw [upd_ne hap]; exact this.2⟩
  · obtain ⟨e1, e2, r, e3, e4⟩ := S.fd q e
    have hq : q ≠ p := fun z => by rw [z, upd_same] at e2; cases e2
    exact ⟨by rw [upd_ne hq]; exact e1, by rw [upd_ne hq] at e2; exact e2, r, e3, k _ _ e4⟩
  · obtain ⟨A, h1, h2, h3⟩ := S.sl
    have ha : ∀ a ∈ A, a ≠ p := fun a ha z => by have := (h3 a ha).2.1; rw [z, upd_same] at this; cases this
    exact ⟨A, h1.mono k fun _ _ => rfl, h2, fun a h => ⟨by rw [upd_ne (ha a h)]; exact (h3 a h).1, by have := (h3 a h).2.1; rw [upd_ne (ha a h)] at this; exact this, (h3 a h).2.2⟩⟩
/-- an own thing (framed) is frozen -/
def frz (G H : Hp) (A : List Addr) : Hp := ovl G H A
theorem Sat.freeze {A : List Addr} (S : Sat c (ovl F H A) G H σ ρ s) (hF : ∀ a ∈ A, F a = none) (ht : ∀ a ∈ A, ∃ o, H a = some o) : Sat c F (ovl G H A) H σ ρ s ∧ Same G (ovl G H A) := by
  have gp : ∀ a ∈ A, G a = none := fun a ha => by
    obtain ⟨o, e⟩ := ht a ha
    exact (S.fr a o (by rw [ovl_in ha]; exact e)).2
  have k : Same G (ovl G H A) := fun a o' e => by rw [ovl_out fun z => by rw [gp a z] at e; cases e]; exact e
  refine ⟨⟨fun a o' e => ?_, fun a o' e => ?_, fun q e => ?_, ?_⟩, k⟩
  · by_cases hap : a ∈ A
    · rw [ovl_in hap] at e; exact e
    · rw [ovl_out hap] at e; exact S.sub a o' e
  · have hap : a ∉ A := fun z => by rw [hF a z] at e; cases e
    have := S.fr a o' (by rw [ovl_out hap]; exact e)
    exact ⟨this.1, by rw [ovl_out hap]; exact this.2⟩
  · obtain ⟨e1, e2, r, e3, e4⟩ := S.fd q e
    have hq : q ∉ A := fun z => by rw [ovl_in z, e3] at e2; cases e2
    exact ⟨by rw [ovl_out hq]; exact e1, by rw [ovl_out hq] at e2; exact e2, r, e3, k _ _ e4⟩
  · obtain ⟨B, h1, h2, h3⟩ := S.sl
    have ha : ∀ a ∈ B, a ∉ A := fun a ha z => by
      obtain ⟨o, e⟩ := ht a z
      have := (h3 a ha).2.1
      rw [ovl_in z, e] at this; cases this
    exact ⟨B, h1.mono k fun _ _ => rfl, h2, fun a h => ⟨by rw [ovl_out (ha a h)]; exact (h3 a h).1, by have := (h3 a h).2.1; rw [ovl_out (ha a h)] at this; exact this, (h3 a h).2.2⟩⟩
/-- a slot's thing is taken out, framed -/
theorem Sat.take {i : Nat} {t : OT} (S : Sat c F G H σ ρ s) (e : ρ[i]? = some (some t)) :
    ∃ v A, σ[i]? = some (some v) ∧ Own c G H t v A ∧ A.Nodup ∧ (∀ a ∈ A, F a = none) ∧ Sat c (ovl F H A) G H σ (ρ.set i none) s := by
  obtain ⟨B, h1, h2, h3⟩ := S.sl
  obtain ⟨v, A, A', e1, o1, p1, s1⟩ := h1.get e
  have hB : ∀ a ∈ A, a ∈ B := fun a ha => p1.mem_iff.mpr (by simp [ha])
  have hB' : ∀ a ∈ A', a ∈ B := fun a ha => p1.mem_iff.mpr (by simp [ha])
  have nd : (A ++ A').Nodup := p1.nodup_iff.mp h2
  have dj : ∀ a ∈ A', a ∉ A := fun a ha z => (List.nodup_append.mp nd).2.2 a z a ha rfl
  refine ⟨v, A, e1, o1, (List.nodup_append.mp nd).1, fun a ha => (h3 a (hB a ha)).2.1, S.sub, fun a o e => ?_, fun p e => ?_, A', s1, (List.nodup_append.mp nd).2.1, fun a ha => ?_⟩
  · by_cases ha : a ∈ A
    · rw [ovl_in ha] at e; exact ⟨e, (h3 a (hB a ha)).1⟩
    · rw [ovl_out ha] at e; exact S.fr a o e
  · obtain ⟨e1, e2, e3⟩ := S.fd p e
    have hp : p ∉ A := fun z => (h3 p (hB p z)).2.2 e
    exact ⟨e1, by rw [ovl_out hp]; exact e2, e3⟩
  · have := h3 a (hB' a ha)
    exact ⟨this.1, by rw [ovl_out (dj a ha)]; exact this.2.1, this.2.2⟩
/-- an own thing (framed) is put into a slot -/
theorem Sat.put {i : Nat} {t : OT} {v : V} {A : List Addr} (S : Sat c (ovl F H A) G H σ ρ s) (hi : i < ρ.length) (o : Own c G H t v A) (nd : A.Nodup) (hF : ∀ a ∈ A, F a = none) : Sat c F G H (σ.set i (some v)) (ρ.set i (some t)) s := by
  have S := S.killS i (some v)
  obtain ⟨B, h1, h2, h3⟩ := S.sl
  obtain ⟨B', p, h4⟩ := h1.put (i := i) (by simpa using hi) (by simp [hi]) o
  have gA : ∀ a ∈ A, G a = none := fun a ha => by
    obtain ⟨u, e⟩ := o.there a ha
    exact (S.fr a u (by rw [ovl_in ha]; exact e)).2
  have S' : Sat c F G H (σ.set i (some v)) (ρ.set i none) s := S.less fun a o' e => by
    rw [ovl_out fun z => by rw [hF a z] at e; cases e]; exact e
  refine ⟨S'.sub, S'.fr, S'.fd, B', ?_, ?_, fun a ha => ?_⟩
  · simpa using h4
  · rw [p.nodup_iff, List.nodup_append]
    refine ⟨nd, h2, fun a ha b hb z => ?_⟩
    subst z
    obtain ⟨u, e⟩ := o.there a ha
    have := (h3 a hb).2.1
    rw [ovl_in ha, e] at this; cases this
  · rcases List.mem_append.mp (p.mem_iff.mp ha) with ha | ha
    · refine ⟨gA a ha, hF a ha, fun z => ?_⟩
      obtain ⟨_, e2, r, e3, _⟩ := S.fd a z
      rw [ovl_in ha, e3] at e2; cases e2
    · have := h3 a ha
      refine ⟨this.1, ?_, this.2.2⟩
      cases q : F a with
      | none => rfl
      | some o' =>
        have hA : a ∉ A := fun z => by rw [hF a z] at q; cases q
        rw [ovl_out hA, q] at this
        exact absurd this.2.1 (by simp)
/-- a plain value into a slot -/
theorem Sat.putD {i : Nat} {d : D} {v : V} (S : Sat c F G H σ ρ s) (hi : i < ρ.length) (r : Rep c G d v) : Sat c F G H (σ.set i (some v)) (ρ.set i (some (.fz d))) s :=
  Sat.put (A := []) (by rw [ovl_nil]; exact S) hi (.fz r) List.nodup_nil fun _ h => by simp at h
/-- what a framed object becomes -/
theorem Sat.chg {p : Addr} {o o' : HO} (S : Sat c (upd F p o) G H σ ρ s) : Sat c (upd F p o') G (upd H p o') σ ρ s := by
  obtain ⟨hp, gp⟩ := S.fr p o upd_same
  refine ⟨fun a u e => ?_, fun a u e => ?_, fun q e => ?_, ?_⟩
  · rw [upd_ne (ne_of_none e gp)]; exact S.sub a u e
  · by_cases hap : a = p
    · subst hap; rw [upd_same] at e; cases e; exact ⟨upd_same, gp⟩
    · rw [upd_ne hap] at e ⊢; exact S.fr a u (by rw [upd_ne hap]; exact e)
  · obtain ⟨e1, e2, r, e3, e4⟩ := S.fd q e
    have hq : q ≠ p := fun z => by rw [z, upd_same] at e2; cases e2
    exact ⟨e1, by rw [upd_ne hq] at e2 ⊢; exact e2, r, by rw [upd_ne hq]; exact e3, e4⟩
  · obtain ⟨A, h1, h2, h3⟩ := S.sl
    have ha : ∀ a ∈ A, a ≠ p := fun a ha z => by have := (h3 a ha).2.1; rw [z, upd_same] at this; cases this
    exact ⟨A, h1.mono (Same.refl G) fun a h => upd_ne (ha a h), h2, fun a h => ⟨(h3 a h).1, by have := (h3 a h).2.1; rw [upd_ne (ha a h)] at this ⊢; exact this, (h3 a h).2.2⟩⟩
end
end DL

set_option Elab.async false
set_option linter.all false
set_option maxRecDepth 100000
namespace DL
open PySem PySem.Spec PyProof.Rows L2

structure Exn where
  cls : Str
  arg : Option D
inductive Res (α : Type) where
  | bad | ok (a : α) (ρ : Env) (s : FS) | ex (e : Exn) (s : FS)
abbrev M (α : Type) := Env → FS → Res α
def M.ret {α : Type} (a : α) : M α := fun ρ s => .ok a ρ s
def M.lft {α : Type} (o : Option α) : M α := fun ρ s => match o with
  | some a => .ok a ρ s
  | none => .bad
def M.bnd {α β : Type} (f : M α) (g : α → M β) : M β := fun ρ s => match f ρ s with
  | .ok a ρ1 s1 => g a ρ1 s1
  | .ex e s1 => .ex e s1
  | .bad => .bad
def M.mp {α β : Type} (f : M α) (g : α → β) : M β := fun ρ s => match f ρ s with
  | .ok a ρ1 s1 => .ok (g a) ρ1 s1
  | .ex e s1 => .ex e s1
  | .bad => .bad

/-- what is wanted of an exception -/
structure Wish where
  w : Exn → FS → Hp → Hp → Prop
  mono : ∀ e s F F' G G', (∀ a o, F a = some o → F' a = some o) → Same G G' → w e s F G → w e s F' G'
def W0 : Wish := ⟨fun _ _ _ _ => False, fun _ _ _ _ _ _ _ _ h => h⟩

abbrev RT (α β : Type) := Hp → Hp → Hp → Hp → α → β → Prop
def RD (c : Ct) : RT D V := fun F F' G' _ d v => F' = F ∧ Rep c G' d v
def RDL (c : Ct) : RT (List D) (List V) := fun F F' G' _ d v => F' = F ∧ RepL c G' d v
def RB : RT Bool Bool := fun F F' _ _ b v => F' = F ∧ v = b
def RO (c : Ct) : RT OT V := fun F F' G' H' t v => ∃ A, F' = ovl F H' A ∧ Own c G' H' t v A ∧ A.Nodup ∧ ∀ a ∈ A, F a = none
def ROL (c : Ct) : RT (List OT) (List V) := fun F F' G' H' t v => ∃ A, F' = ovl F H' A ∧ OwnL c G' H' t v A ∧ A.Nodup ∧ ∀ a ∈ A, F a = none

def tAt {α β : Type} (c : Ct) (W : Wish) (R : RT α β) (F G : Hp) (ρ : Env) (s : FS) (f : M α) (σ : L2.St) (H : Hp) (Q : β → Hp → Prop) : Prop :=
  Sat c F G H σ ρ s ∧ match f ρ s with
    | .bad => False
    | .ok a ρ' s' => ∀ v H' G' F', Same G G' → R F F' G' H' a v → Sat c F' G' H' σ ρ' s' → Q v H'
    | .ex e s' => W.w e s' F G
def tM {α β : Type} (c : Ct) (W : Wish) (R : RT α β) (f : M α) : L2.St → Hp → (β → Hp → Prop) → Prop :=
  fun σ H Q => ∃ F G ρ s, tAt c W R F G ρ s f σ H Q

section
variable {α β α' β' : Type} {c : Ct} {W : Wish} {R : RT α β} {R' : RT α' β'} {F G H : Hp} {ρ : Env} {s : FS} {σ : L2.St} {Q Q' : β → Hp → Prop}
theorem tAt.mono {f : M α} (h : tAt c W R F G ρ s f σ H Q) (hq : ∀ v H', Q v H' → Q' v H') : tAt c W R F G ρ s f σ H Q' := by
  refine ⟨h.1, ?_⟩
  have h2 := h.2
  split at h2
  · exact h2
  · exact fun v H' G' F' a b d => hq _ _ (h2 v H' G' F' a b d)
  · exact h2
/-- the first part, where the frame stays -/
theorem tAt.bnd {f : M α} {g : α → M α'} {Q : β' → Hp → Prop} (h : tAt c W R' F G ρ s (f.bnd g) σ H Q) (hR : ∀ F F' G' H' a v, R F F' G' H' a v → F' = F) :
    tAt c W R F G ρ s f σ H (fun v H1 => ∃ a G1 ρ1 s1, Same G G1 ∧ R F F G1 H1 a v ∧ tAt c W R' F G1 ρ1 s1 (g a) σ H1 Q) := by
  refine ⟨h.1, ?_⟩
  have h2 := h.2
  unfold M.bnd at h2
  cases hf : f ρ s with
  | bad => rw [hf] at h2; exact h2
  | ex e s' => rw [hf] at h2; exact h2
  | ok a ρ1 s1 =>
    rw [hf] at h2
    intro v H1 G1 F1 sm r S
    obtain rfl := hR _ _ _ _ _ _ r
    refine ⟨a, G1, ρ1, s1, sm, r, S, ?_⟩
    cases hg : g a ρ1 s1 with
    | bad => simp only [hg] at h2
    | ex e s' => simp only [hg] at h2; exact W.mono e s' _ _ _ _ (fun _ _ z => z) sm h2
    | ok b ρ2 s2 =>
      simp only [hg] at h2
      exact fun u H2 G2 F2 sm2 r2 S2 => h2 u H2 G2 F2 (sm.trans sm2) r2 S2
theorem tAt.lft {o : Option α} (h : tAt c W R F G ρ s (M.lft o) σ H Q) : ∃ a, o = some a ∧ ∀ v H' G' F', Same G G' → R F F' G' H' a v → Sat c F' G' H' σ ρ s → Q v H' := by
  have h2 := h.2
  unfold M.lft at h2
  cases o with
  | none => exact h2.elim
  | some a => exact ⟨a, rfl, h2⟩
theorem tAt.ret {a : α} (h : tAt c W R F G ρ s (M.ret a) σ H Q) : ∀ v H' G' F', Same G G' → R F F' G' H' a v → Sat c F' G' H' σ ρ s → Q v H' := h.2
end

theorem PE.imp {X : Cx} {e : Expr} {t t' : TE} (h : PE X e t) (w : ∀ σ H Q, t' σ H Q → t σ H Q) : PE X e t' := ⟨fun pins s σ H Q I k => h.run pins s σ H Q I (w σ H Q k)⟩
theorem PT.imp {X : Cx} {e : Expr} {t t' : TT} (h : PT X e t) (w : ∀ σ H Q, t' σ H Q → t σ H Q) : PT X e t' := ⟨fun pins s σ H Q I k => h.run pins s σ H Q I (w σ H Q k)⟩
theorem PW.imp {X : Cx} {e : Expr} {t t' : TT} (h : PW X e t) (w : ∀ σ H Q, t' σ H Q → t σ H Q) : PW X e t' := ⟨fun wh pins s σ H Q I k => h.run wh pins s σ H Q I (w σ H Q k)⟩
theorem PTs.imp {X : Cx} {e : List Expr} {t t' : TT} (h : PTs X e t) (w : ∀ σ H Q, t' σ H Q → t σ H Q) : PTs X e t' := ⟨fun pins s σ H Q I k => h.run pins s σ H Q I (w σ H Q k)⟩
theorem PA.imp {X : Cx} {e : List Expr} {t t' : TA} (h : PA X e t) (w : ∀ σ H Q, t' σ H Q → t σ H Q) : PA X e t' := ⟨fun pos pins s σ H Q I k => h.run pos pins s σ H Q I (w σ H Q k)⟩
theorem PI.imp {X : Cx} {tg e : Expr} {t t' : TI} (h : PI X tg e t) (w : ∀ σ H Q, t' σ H Q → t σ H Q) : PI X tg e t' := ⟨fun pins s σ H Q I k => h.run pins s σ H Q I (w σ H Q k)⟩
theorem PS.imp {X : Cx} {e : Stmt} {t t' : TS} (h : PS X e t) (w : ∀ D σ H, t' D σ H → t D σ H) : PS X e t' := ⟨fun pins s σ H D I k => h.run pins s σ H D I (w D σ H k)⟩
theorem PSs.imp {X : Cx} {e : List Stmt} {t t' : TS} (h : PSs X e t) (w : ∀ D σ H, t' D σ H → t D σ H) : PSs X e t' := ⟨fun pins s σ H D I k => h.run pins s σ H D I (w D σ H k)⟩
theorem PG.imp {X : Cx} {e : Expr} {t t' : TG} (h : PG X e t) (w : ∀ v σ H Q, t' v σ H Q → t v σ H Q) : PG X e t' := ⟨fun pins s σ H v u Q I r k => h.run pins s σ H v u Q I r (w v σ H Q k)⟩
theorem PGs.imp {X : Cx} {e : List Expr} {t t' : TGs} (h : PGs X e t) (w : ∀ v σ H Q, t' v σ H Q → t v σ H Q) : PGs X e t' := ⟨fun pins s σ H v u Q I r k => h.run pins s σ H v u Q I r (w v σ H Q k)⟩

/-! ### the judgements over data -/
abbrev ct (X : Cx) (fd : Option Addr) : Ct := ⟨X.K, fd⟩
/-- a plain value -/
def PD (X : Cx) (fd : Option Addr) (W : Wish) (e : Expr) (f : M D) : Prop := PE X e (tM (ct X fd) W (RD (ct X fd)) f)
/-- a thing of one's own -/
def PN (X : Cx) (fd : Option Addr) (W : Wish) (e : Expr) (f : M OT) : Prop := PE X e (tM (ct X fd) W (RO (ct X fd)) f)
def TD (X : Cx) (fd : Option Addr) (W : Wish) (e : Expr) (f : M Bool) : Prop := PT X e (tM (ct X fd) W RB f)
def TDs (X : Cx) (fd : Option Addr) (W : Wish) (e : List Expr) (f : M Bool) : Prop := PTs X e (tM (ct X fd) W RB f)
def WD (X : Cx) (fd : Option Addr) (W : Wish) (e : Expr) (f : M Bool) : Prop := PW X e (tM (ct X fd) W RB f)
def AD (X : Cx) (fd : Option Addr) (W : Wish) (e : List Expr) (f : M (List D)) : Prop := PA X e (tM (ct X fd) W (RDL (ct X fd)) f)
def AN (X : Cx) (fd : Option Addr) (W : Wish) (e : List Expr) (f : M (List OT)) : Prop := PA X e (tM (ct X fd) W (ROL (ct X fd)) f)

theorem RD_F {c : Ct} : ∀ F F' G' H' a v, RD c F F' G' H' a v → F' = F := fun _ _ _ _ _ _ h => h.1
theorem RDL_F {c : Ct} : ∀ F F' G' H' a v, RDL c F F' G' H' a v → F' = F := fun _ _ _ _ _ _ h => h.1
theorem RB_F : ∀ F F' G' H' a v, RB F F' G' H' a v → F' = F := fun _ _ _ _ _ _ h => h.1
section
variable {c : Ct} {W : Wish} {F G H : Hp} {ρ : Env} {s : FS} {σ : L2.St}
/-- the end of a plain value's reading -/
theorem tAt.fin {o : Option D} {Q : VK} (h : tAt c W (RD c) F G ρ s (M.lft o) σ H Q) : ∃ d, o = some d ∧ (∀ v, Rep c G d v → Q v H) ∧
    (∀ v H' G', Same G G' → Rep c G' d v → Sat c F G' H' σ ρ s → Q v H') := by
  obtain ⟨d, e, k⟩ := h.lft
  exact ⟨d, e, fun v r => k v H G F (Same.refl G) ⟨rfl, r⟩ h.1, fun v H' G' sm r S => k v H' G' F sm ⟨rfl, r⟩ S⟩
theorem tAt.finB {o : Option Bool} {Q : Bool → Hp → Prop} (h : tAt c W RB F G ρ s (M.lft o) σ H Q) : ∃ b, o = some b ∧ Q b H := by
  obtain ⟨d, e, k⟩ := h.lft
  exact ⟨d, e, k d H G F (Same.refl G) ⟨rfl, rfl⟩ h.1⟩
/-- the end of a new list's reading: laid at p -/
theorem tAt.finN {o : Option OT} {Q : VK} (h : tAt c W (RO c) F G ρ s (M.lft o) σ H Q) : ∃ t, o = some t ∧ (∀ v H' G' A, Same G G' → Own c G' H' t v A → A.Nodup → (∀ a ∈ A, F a = none) → Sat c (ovl F H' A) G' H' σ ρ s → Q v H') := by
  obtain ⟨d, e, k⟩ := h.lft
  exact ⟨d, e, fun v H' G' A sm o nd hF S => k v H' G' _ sm ⟨A, rfl, o, nd, hF⟩ S⟩
end
theorem ovl_one {F H : Hp} {p : Addr} {o : HO} (h : H p = some o) : ovl F H [p] = upd F p o := by
  funext a
  by_cases e : a = p
  · subst e; rw [upd_same, ovl_in (by simp), h]
  · rw [upd_ne e, ovl_out (by simpa using e)]
theorem Sat.newL {c : Ct} {F G H : Hp} {σ : L2.St} {ρ : Env} {s : FS} {p : Addr} {o : HO} (S : Sat c F G H σ ρ s) (hp : H p = none) : Sat c (ovl F (upd H p o) [p]) G (upd H p o) σ ρ s := by
  rw [ovl_one upd_same]
  exact S.new hp
theorem Sat.F_none {c : Ct} {F G H : Hp} {σ : L2.St} {ρ : Env} {s : FS} {p : Addr} (S : Sat c F G H σ ρ s) (hp : H p = none) : F p = none := by
  cases q : F p with
  | none => rfl
  | some o => have := (S.fr p o q).1; rw [hp] at this; cases this

section
variable {X : Cx} {fd : Option Addr} {W : Wish} {a b : Expr} {pos : Pos} {f g : M D}
/-! ### own and plain -/
theorem pd_of {f : M OT} (h : PN X fd W a f) : PD X fd W a (f.mp OT.fzD) := by
  refine PE.imp h fun σ H Q ⟨F, G, ρ, s, S, k⟩ => ⟨F, G, ρ, s, S, ?_⟩
  unfold M.mp at k
  cases hf : f ρ s with
  | bad => rw [hf] at k; exact k
  | ex e s' => rw [hf] at k; exact k
  | ok t ρ' s' =>
    rw [hf] at k
    rintro v H' G' F' sm ⟨A, rfl, o, nd, hF⟩ S'
    obtain ⟨S2, sm2⟩ := S'.freeze hF fun a ha => o.there a ha
    exact k v H' _ F (sm.trans sm2) ⟨rfl, o.freeze sm2 fun a ha => ovl_in ha⟩ S2
theorem pn_of (h : PD X fd W a f) : PN X fd W a (f.mp OT.fz) := by
  refine PE.imp h fun σ H Q ⟨F, G, ρ, s, S, k⟩ => ⟨F, G, ρ, s, S, ?_⟩
  unfold M.mp at k
  cases hf : f ρ s with
  | bad => rw [hf] at k; exact k
  | ex e s' => rw [hf] at k; exact k
  | ok t ρ' s' =>
    rw [hf] at k
    rintro v H' G' F' sm ⟨rfl, r⟩ S'
    exact k v H' G' F' sm ⟨[], by rw [ovl_nil], .fz r, List.nodup_nil, fun _ h => by simp at h⟩ S'

/-! ### constants, names -/
theorem pd_C {e : Expr} {v : V} {d : D} (h : PE X e (tC v)) (r : ∀ G, Rep (ct X fd) G d v) : PD X fd W e (M.ret d) := by
  refine PE.imp h fun σ H Q ⟨F, G, ρ, s, S, k⟩ => ?_
  exact k v H G F (Same.refl G) ⟨rfl, r G⟩ S
theorem pd_int {i j} : PD X fd W (.Constant (.int i) j pos) (M.ret (.int i)) := pd_C pe_int fun _ => .int i
theorem pd_bl {i j} : PD X fd W (.Constant (.bool i) j pos) (M.ret (.bl i)) := pd_C pe_bl fun _ => .bl i
theorem pd_non {j} : PD X fd W (.Constant .none j pos) (M.ret .non) := pd_C pe_non fun _ => .non
theorem pd_str {i j} : PD X fd W (.Constant (.str i) j pos) (M.ret (.str i)) := pd_C pe_str fun _ => .str i

/-- a name read: what it holds is frozen -/
def rd (i : Nat) : M D := fun ρ s => match ρ[i]? with
  | some (some (.fz d)) => .ok d ρ s
  | some (some t) => .ok t.fzD (ρ.set i (some (.fz t.fzD))) s
  | _ => .bad
/-- a name's thing moved out -/
def mv (i : Nat) : M OT := fun ρ s => match ρ[i]? with
  | some (some t) => .ok t (ρ.set i none) s
  | _ => .bad
/-- looked at, not frozen -/
def pk (i : Nat) : M D := fun ρ s => match ρ[i]? with
  | some (some t) => .ok t.fzD ρ s
  | _ => .bad
theorem set_same {α : Type} {l : List α} {i : Nat} {x : α} (h : l[i]? = some x) : l.set i x = l := by
  apply List.ext_getElem?
  intro j
  by_cases hj : i = j
  · subst hj
    rw [List.getElem?_set_self (List.getElem?_eq_some_iff.mp h).1, h]
  · rw [List.getElem?_set_ne hj]
theorem pd_var (i : Nat) {x : Str} {pos : Pos} (h : PE X (.Name x pos) (tVar i)) : PD X fd W (.Name x pos) (rd i) := by
  refine PE.imp h fun σ H Q ⟨F, G, ρ, s, S, k⟩ => ?_
  have own : ∀ t, ρ[i]? = some (some t) → (∀ v H' G', Same G G' → Rep (ct X fd) G' t.fzD v → Sat (ct X fd) F G' H' σ (ρ.set i (some (.fz t.fzD))) s → Q v H') → tVar i σ H Q := fun t e k => by
    obtain ⟨v, A, e1, o1, nd, hF, S1⟩ := S.take e
    obtain ⟨S2, sm2⟩ := S1.freeze hF fun a ha => o1.there a ha
    have r := o1.freeze sm2 (fun a ha => ovl_in ha)
    have hi : i < ρ.length := (List.getElem?_eq_some_iff.mp e).1
    have S3 := S2.putD (i := i) (by simpa using hi) r
    rw [set_same e1, List.set_set] at S3
    exact ⟨v, e1, k v H _ sm2 r S3⟩
  unfold rd at k
  rcases e : ρ[i]? with _ | _ | t
  · rw [e] at k; exact k.elim
  · rw [e] at k; exact k.elim
  · rw [e] at k
    cases t with
    | fz d =>
      obtain ⟨B, h1, h2, h3⟩ := id S.sl
      obtain ⟨v, A, A', e1, o1, p1, s1⟩ := h1.get e
      cases o1 with
      | fz r => exact ⟨v, e1, k v H G F (Same.refl G) ⟨rfl, r⟩ S⟩
    | ow ts => exact own _ e fun v H' G' sm r S' => k v H' G' F sm ⟨rfl, r⟩ S'
    | odk ts => exact own _ e fun v H' G' sm r S' => k v H' G' F sm ⟨rfl, r⟩ S'
    | odt ts => exact own _ e fun v H' G' sm r S' => k v H' G' F sm ⟨rfl, r⟩ S'
theorem pn_var (i : Nat) {x : Str} {pos : Pos} (h : PE X (.Name x pos) (tVar i)) : PN X fd W (.Name x pos) (mv i) := by
  refine PE.imp h fun σ H Q ⟨F, G, ρ, s, S, k⟩ => ?_
  unfold mv at k
  rcases e : ρ[i]? with _ | _ | t
  · rw [e] at k; exact k.elim
  · rw [e] at k; exact k.elim
  · rw [e] at k
    obtain ⟨v, A, e1, o1, nd, hF, S1⟩ := S.take e
    exact ⟨v, e1, k v H G _ (Same.refl G) ⟨A, rfl, o1, nd, hF⟩ S1⟩

/-! ### operators on plain values -/
/-- an operation on two values, that lays nothing -/
def DOp (X : Cx) (fd : Option Addr) (f : Value → Value → Sem Value) (h : D → D → Option D) : Prop :=
  ∃ r : R2, OpR X f r ∧ ∀ (G H : Hp) (d e w : D) (x y : V) (Q : VK), Same G H → Rep (ct X fd) G d x → Rep (ct X fd) G e y → h d e = some w → (∀ z, Rep (ct X fd) G w z → Q z H) → r x y H Q
theorem t2 {h : D → D → Option D} {c : Ct} {r : R2} (hr : ∀ (G H : Hp) (d e w : D) (x y : V) (Q : VK), Same G H → Rep c G d x → Rep c G e y → h d e = some w → (∀ z, Rep c G w z → Q z H) → r x y H Q)
    {σ : L2.St} {H : Hp} {Q : VK} (k : tM c W (RD c) (f.bnd fun x => g.bnd fun y => M.lft (h x y)) σ H Q) : tOp r (tM c W (RD c) f) (tM c W (RD c) g) σ H Q := by
  obtain ⟨F, G, ρ, s, k⟩ := k
  refine ⟨F, G, ρ, s, (k.bnd RD_F).mono fun x H1 ⟨d, G1, ρ1, s1, sm1, ⟨_, r1⟩, k1⟩ => ?_⟩
  refine ⟨F, G1, ρ1, s1, (k1.bnd RD_F).mono fun y H2 ⟨e, G2, ρ2, s2, sm2, ⟨_, r2⟩, k2⟩ => ?_⟩
  obtain ⟨w, e1, q, _⟩ := k2.fin
  exact hr G2 H2 d e w x y Q k2.1.sub (r1.mono sm2) r2 e1 q
theorem pd_op {op : Operator} {h : D → D → Option D} (ho : DOp X fd (binaryOp op) h) (ha : PD X fd W a f) (hb : PD X fd W b g) : PD X fd W (.BinOp a op b pos) (f.bnd fun x => g.bnd fun y => M.lft (h x y)) := by
  obtain ⟨r, o, hr⟩ := ho
  exact PE.imp (pe_op o ha hb) fun σ H Q k => t2 hr k
theorem pd_cmp {op : CmpOp} {h : D → D → Option D} (ho : DOp X fd (compareOp op) h) (ha : PD X fd W a f) (hb : PD X fd W b g) (hm : behindInMarks op b = false) : PD X fd W (.Compare a [op] [b] pos) (f.bnd fun x => g.bnd fun y => M.lft (h x y)) := by
  obtain ⟨r, o, hr⟩ := ho
  exact PE.imp (pe_cmpR o ha hb hm) fun σ H Q k => t2 hr k
/-- a plain value True or False as a test -/
def asB : D → Option Bool
  | .bl b => some b
  | _ => none
theorem td_val (h : PD X fd W a f) (he : ∀ whole, isTrue a X.env whole = (do let v ← whole; standAt a.pos; holding [v] (truthy v)) := by intro _; rfl) : TD X fd W a (f.bnd fun x => M.lft (asB x)) := by
  refine PT.imp (pt_val h he) fun σ H Q ⟨F, G, ρ, s, k⟩ => ⟨F, G, ρ, s, (k.bnd RD_F).mono fun x H1 ⟨d, G1, ρ1, s1, sm1, ⟨_, r1⟩, k1⟩ => ?_⟩
  obtain ⟨b, e, q⟩ := k1.finB
  cases r1 <;> simp [asB] at e
  subst e
  exact ⟨_, rfl, q⟩
theorem td_cmp {op : CmpOp} {h : D → D → Option D} (ho : DOp X fd (compareOp op) h) (ha : PD X fd W a f) (hb : PD X fd W b g) (hm : behindInMarks op b = false) :
    TD X fd W (.Compare a [op] [b] pos) (f.bnd fun x => g.bnd fun y => M.lft ((h x y).bind asB)) := by
  obtain ⟨r, o, hr⟩ := ho
  refine PT.imp (pt_cmpR o ha hb hm) fun σ H Q ⟨F, G, ρ, s, k⟩ => ⟨F, G, ρ, s, (k.bnd RD_F).mono fun x H1 ⟨d, G1, ρ1, s1, sm1, ⟨_, r1⟩, k1⟩ => ?_⟩
  refine ⟨F, G1, ρ1, s1, (k1.bnd RD_F).mono fun y H2 ⟨e, G2, ρ2, s2, sm2, ⟨_, r2⟩, k2⟩ => ?_⟩
  obtain ⟨w, e1, q⟩ := k2.finB
  cases e2 : h d e with
  | none => rw [e2] at e1; simp at e1
  | some z =>
    rw [e2] at e1
    refine hr G2 H2 d e z x y _ k2.1.sub (r1.mono sm2) r2 e2 fun u ru => ?_
    cases ru <;> simp [asB] at e1
    subst e1
    exact ⟨_, rfl, q⟩

def i2 (g : Int → Int → Option D) : D → D → Option D
  | .int i, .int j => g i j
  | _, _ => none
theorem dop_int {f : Value → Value → Sem Value} {C : Int → Int → Prop} {g : Int → Int → Int} {h : Int → Int → Option D} (ho : OpR X f (rI C fun i j => .int (g i j))) (hh : ∀ i j d, h i j = some d → C i j ∧ d = .int (g i j)) : DOp X fd f (i2 h) := by
  refine ⟨_, ho, fun G H d e w x y Q _ r1 r2 hw q => ?_⟩
  unfold i2 at hw
  split at hw
  · cases r1; cases r2
    obtain ⟨c1, rfl⟩ := hh _ _ _ hw
    exact ⟨_, _, rfl, rfl, c1, q _ (.int _)⟩
  · cases hw
theorem dop_int0 {f : Value → Value → Sem Value} {g : Int → Int → Int} (ho : OpR X f (rI0 fun i j => .int (g i j))) : DOp X fd f (i2 fun i j => some (.int (g i j))) := by
  refine ⟨_, ho, fun G H d e w x y Q _ r1 r2 hw q => ?_⟩
  unfold i2 at hw
  split at hw
  · cases r1; cases r2
    obtain rfl := Option.some.inj hw
    exact ⟨_, _, rfl, rfl, q _ (.int _)⟩
  · cases hw
theorem dop_cmp0 {f : Value → Value → Sem Value} {g : Int → Int → Bool} (ho : OpR X f (rI0 fun i j => .bl (g i j))) : DOp X fd f (i2 fun i j => some (.bl (g i j))) := by
  refine ⟨_, ho, fun G H d e w x y Q _ r1 r2 hw q => ?_⟩
  unfold i2 at hw
  split at hw
  · cases r1; cases r2
    obtain rfl := Option.some.inj hw
    exact ⟨_, _, rfl, rfl, q _ (.bl _)⟩
  · cases hw
def addI := i2 fun i j => some (.int (i + j))
def subI := i2 fun i j => some (.int (i - j))
def mulI := i2 fun i j => if (sm64 i || sm64 j) = true then some (.int (i * j)) else none
def divI := i2 fun i j => if 0 < j ∧ j < 1073741824 then some (.int (i / j)) else none
def modI := i2 fun i j => if 0 < j then some (.int (i % j)) else none
def xorI := i2 fun i j => some (.int (Builtin.bitXor i j))
def powI := i2 fun i j => if 0 ≤ j ∧ j ≤ 1000000 ∧ i.natAbs < 2 ^ 64 then some (.int (i ^ j.toNat)) else none
def ltI := i2 fun i j => some (.bl (decide (i < j)))
def leI := i2 fun i j => some (.bl (decide (i ≤ j)))
def gtI := i2 fun i j => some (.bl (decide (j < i)))
def geI := i2 fun i j => some (.bl (decide (j ≤ i)))
theorem d_add : DOp X fd (binaryOp .Add) addI := dop_int0 op_add
theorem d_sub : DOp X fd (binaryOp .Sub) subI := dop_int0 op_sub
theorem mulC {i j : Int} (c : (sm64 i || sm64 j) = true) : CMul i j := by
  rcases Bool.or_eq_true_iff.mp c with c | c
  · exact .inl (sm64_lt c)
  · exact .inr (sm64_lt c)
theorem d_mul : DOp X fd (binaryOp .Mult) mulI := dop_int op_mul fun i j d h => by
  split at h
  · rename_i c; exact ⟨mulC c, (Option.some.inj h).symm⟩
  · cases h
theorem d_div : DOp X fd (binaryOp .FloorDiv) divI := dop_int op_fdiv fun i j d h => by
  split at h
  · rename_i c; exact ⟨c, (Option.some.inj h).symm⟩
  · cases h
theorem d_mod : DOp X fd (binaryOp .Mod) modI := dop_int op_mod fun i j d h => by
  split at h
  · rename_i c; exact ⟨c, (Option.some.inj h).symm⟩
  · cases h
theorem d_xor : DOp X fd (binaryOp .BitXor) xorI := dop_int0 op_xor
theorem d_pow : DOp X fd (binaryOp .Pow) powI := dop_int op_pow fun i j d h => by
  split at h
  · rename_i c; exact ⟨c, (Option.some.inj h).symm⟩
  · cases h
theorem d_lt : DOp X fd (compareOp .Lt) ltI := dop_cmp0 op_lt
theorem d_le : DOp X fd (compareOp .LtE) leI := dop_cmp0 op_le
theorem d_gt : DOp X fd (compareOp .Gt) gtI := dop_cmp0 op_gt
theorem d_ge : DOp X fd (compareOp .GtE) geI := dop_cmp0 op_ge
theorem d_iadd : DOp X fd (inplaceOp .Add) addI := dop_int0 iop_add
theorem d_isub : DOp X fd (inplaceOp .Sub) subI := dop_int0 iop_sub
theorem d_imul : DOp X fd (inplaceOp .Mult) mulI := dop_int iop_mul fun i j d h => by
  split at h
  · rename_i c; exact ⟨mulC c, (Option.some.inj h).symm⟩
  · cases h
theorem d_idiv : DOp X fd (inplaceOp .FloorDiv) divI := dop_int iop_fdiv fun i j d h => by
  split at h
  · rename_i c; exact ⟨c, (Option.some.inj h).symm⟩
  · cases h
def isNonD : D → Bool
  | .non => true
  | _ => false
theorem rep_non {c : Ct} {G : Hp} {d : D} {x : V} (r : Rep c G d x) : decide (x = .non) = isNonD d := by cases r <;> simp [isNonD]
def isN (d e : D) : Option D := if isNonD e = true then some (.bl (isNonD d)) else none
def notN (d e : D) : Option D := if isNonD e = true then some (.bl (!isNonD d)) else none
theorem d_isN : DOp X fd (compareOp .Is) isN := by
  refine ⟨_, op_isN, fun G H d e w x y Q _ r1 r2 hw q => ?_⟩
  have h2 := rep_non r2
  unfold isN at hw
  split at hw
  · rename_i c
    rw [c] at h2
    refine ⟨of_decide_eq_true h2, ?_⟩
    obtain rfl := Option.some.inj hw
    exact q _ (by rw [rep_non r1]; exact .bl _)
  · cases hw
theorem d_notN : DOp X fd (compareOp .IsNot) notN := by
  refine ⟨_, op_notN, fun G H d e w x y Q _ r1 r2 hw q => ?_⟩
  have h2 := rep_non r2
  unfold notN at hw
  split at hw
  · rename_i c
    rw [c] at h2
    refine ⟨of_decide_eq_true h2, ?_⟩
    obtain rfl := Option.some.inj hw
    exact q _ (by rw [rep_non r1]; exact .bl _)
  · cases hw
end
end DL

set_option Elab.async false
set_option linter.all false
set_option maxRecDepth 100000
namespace DL
open PySem PySem.Spec PyProof.Rows L2

section
variable {α β α' β' : Type} {c : Ct} {W : Wish} {R : RT α β} {R' : RT α' β'} {F G H : Hp} {ρ : Env} {s : FS} {σ : L2.St}
theorem tAt.bndO {f : M α} {g : α → M α'} {Q : β' → Hp → Prop} (h : tAt c W R' F G ρ s (f.bnd g) σ H Q) (hR : ∀ F' G' H' a v, R F F' G' H' a v → Sat c F' G' H' σ ρ s ∨ True → ∀ a o, F a = some o → F' a = some o) :
    tAt c W R F G ρ s f σ H (fun v H1 => ∃ a F1 G1 ρ1 s1, Same G G1 ∧ R F F1 G1 H1 a v ∧ tAt c W (fun _ => R' F) F1 G1 ρ1 s1 (g a) σ H1 Q) := by
  refine ⟨h.1, ?_⟩
  have h2 := h.2
  unfold M.bnd at h2
  cases hf : f ρ s with
  | bad => rw [hf] at h2; exact h2
  | ex e s' => rw [hf] at h2; exact h2
  | ok a ρ1 s1 =>
    rw [hf] at h2
    intro v H1 G1 F1 sm r S
    refine ⟨a, F1, G1, ρ1, s1, sm, r, S, ?_⟩
    cases hg : g a ρ1 s1 with
    | bad => simp only [hg] at h2
    | ex e s' => simp only [hg] at h2; exact W.mono e s' _ _ _ _ (hR _ _ _ _ _ r (.inr trivial)) sm h2
    | ok b ρ2 s2 =>
      simp only [hg] at h2
      exact fun u H2 G2 F2 sm2 r2 S2 => h2 u H2 G2 F2 (sm.trans sm2) r2 S2
theorem ovl_sub {F H : Hp} {A : List Addr} (hF : ∀ a ∈ A, F a = none) : ∀ a o, F a = some o → ovl F H A a = some o := fun a o e => by
  rw [ovl_out fun z => by rw [hF a z] at e; cases e]; exact e
theorem RO_sub {c : Ct} {F F' G' H' : Hp} {t : OT} {v : V} (r : RO c F F' G' H' t v) : ∀ a o, F a = some o → F' a = some o := by
  obtain ⟨A, rfl, _, _, hF⟩ := r
  exact ovl_sub hF
theorem ROL_sub {c : Ct} {F F' G' H' : Hp} {t : List OT} {v : List V} (r : ROL c F F' G' H' t v) : ∀ a o, F a = some o → F' a = some o := by
  obtain ⟨A, rfl, _, _, hF⟩ := r
  exact ovl_sub hF
theorem ovl_app {F H1 H2 : Hp} {A B : List Addr} (h : ∀ a ∈ A, H2 a = H1 a) (hB : ∀ a ∈ B, a ∉ A) : ovl (ovl F H1 A) H2 B = ovl F H2 (A ++ B) := by
  funext a
  by_cases hb : a ∈ B
  · rw [ovl_in hb, ovl_in (by simp [hb])]
  · rw [ovl_out hb]
    by_cases ha : a ∈ A
    · rw [ovl_in ha, ovl_in (by simp [ha]), h a ha]
    · rw [ovl_out ha, ovl_out (by simp [ha, hb])]
end

/-! ### readable now (the last of what is evaluated) -/
def RH (c : Ct) : RT D V := fun F F' _ H' d v => F' = F ∧ Rep c H' d v
def RHL (c : Ct) : RT (List D) (List V) := fun F F' _ H' d v => F' = F ∧ RepL c H' d v
theorem RH_F {c : Ct} : ∀ F F' G' H' a v, RH c F F' G' H' a v → F' = F := fun _ _ _ _ _ _ h => h.1
theorem RHL_F {c : Ct} : ∀ F F' G' H' a v, RHL c F F' G' H' a v → F' = F := fun _ _ _ _ _ _ h => h.1
def HD (X : Cx) (fd : Option Addr) (W : Wish) (e : Expr) (f : M D) : Prop := PE X e (tM (ct X fd) W (RH (ct X fd)) f)
def AH (X : Cx) (fd : Option Addr) (W : Wish) (e : List Expr) (f : M (List D)) : Prop := PA X e (tM (ct X fd) W (RHL (ct X fd)) f)
def scalD : D → Bool
  | .non | .bl _ | .int _ | .str _ => true
  | _ => false
theorem Rep.scal {c : Ct} {G G' : Hp} {d : D} {v : V} (h : scalD d = true) (r : Rep c G d v) : Rep c G' d v := by
  cases r <;> first | (simp [scalD] at h; done) | constructor
/-- a reading's stage may be weakened -/
theorem tM.imp {α β : Type} {c : Ct} {W : Wish} {R R' : RT α β} {f : M α} {σ : L2.St} {H : Hp} {Q : β → Hp → Prop} (h : tM c W R' f σ H Q)
    (w : ∀ F F' G' H' ρ' s' a v, Sat c F' G' H' σ ρ' s' → R F F' G' H' a v → R' F F' G' H' a v) : tM c W R f σ H Q := by
  obtain ⟨F, G, ρ, s, S, k⟩ := h
  refine ⟨F, G, ρ, s, S, ?_⟩
  cases hf : f ρ s with
  | bad => rw [hf] at k; exact k
  | ex e s' => rw [hf] at k; exact k
  | ok a ρ' s' =>
    rw [hf] at k
    exact fun v H' G' F' sm r S' => k v H' G' F' sm (w _ _ _ _ _ _ _ _ S' r) S'

section
variable {X : Cx} {fd : Option Addr} {W : Wish} {a b e : Expr} {es : List Expr} {pos : Pos} {f g : M D}
theorem hd_of (h : PD X fd W a f) : HD X fd W a f := PE.imp h fun σ H Q k => tM.imp k fun F F' G' H' ρ' s' d v S r => ⟨r.1, r.2.mono S.sub⟩
theorem hd_var (i : Nat) {x : Str} {pos : Pos} (h : PE X (.Name x pos) (tVar i)) : HD X fd W (.Name x pos) (pk i) := by
  refine PE.imp h fun σ H Q ⟨F, G, ρ, s, S, k⟩ => ?_
  unfold pk at k
  rcases e : ρ[i]? with _ | _ | t
  · rw [e] at k; exact k.elim
  · rw [e] at k; exact k.elim
  · rw [e] at k
    obtain ⟨B, h1, h2, h3⟩ := id S.sl
    obtain ⟨v, A, A', e1, o1, p1, s1⟩ := h1.get e
    exact ⟨v, e1, k v H G F (Same.refl G) ⟨rfl, o1.freeze S.sub fun a ha => rfl⟩ S⟩

/-! ### argument lists -/
theorem ad_nil : AD X fd W [] (M.ret []) := PA.imp pa_nil fun σ H Q ⟨F, G, ρ, s, k⟩ => tAt.ret k [] H G F (Same.refl G) ⟨rfl, .nil⟩ k.1
def consM (f : M D) (g : M (List D)) : M (List D) := f.bnd fun x => g.bnd fun xs => M.ret (x :: xs)
theorem ad_cons {g : M (List D)} (h : PD X fd W e f) (hr : AD X fd W es g) (hs : starEach (e :: es) X.env = (false, eval e X.env) :: starEach es X.env := by rfl) : AD X fd W (e :: es) (consM f g) := by
  refine PA.imp (pa_cons h hr hs) fun σ H Q ⟨F, G, ρ, s, k⟩ => ⟨F, G, ρ, s, (tAt.bnd k RD_F).mono fun x H1 ⟨d, G1, ρ1, s1, sm1, ⟨_, r1⟩, k1⟩ => ?_⟩
  refine ⟨F, G1, ρ1, s1, (tAt.bnd k1 RDL_F).mono fun xs H2 ⟨ds, G2, ρ2, s2, sm2, ⟨_, r2⟩, k2⟩ => ?_⟩
  exact tAt.ret k2 (x :: xs) H2 G2 F (Same.refl G2) ⟨rfl, .cons (r1.mono sm2) r2⟩ k2.1
theorem ah_nil : AH X fd W [] (M.ret []) := PA.imp pa_nil fun σ H Q ⟨F, G, ρ, s, k⟩ => tAt.ret k [] H G F (Same.refl G) ⟨rfl, .nil⟩ k.1
/-- the last one may be an own thing that is looked at -/
theorem ah_one (h : HD X fd W e f) (hs : starEach (e :: []) X.env = (false, eval e X.env) :: starEach [] X.env := by rfl) : AH X fd W [e] (f.bnd fun x => M.ret [x]) := by
  refine PA.imp (pa_cons h pa_nil hs) fun σ H Q ⟨F, G, ρ, s, k⟩ => ⟨F, G, ρ, s, (tAt.bnd k RH_F).mono fun x H1 ⟨d, G1, ρ1, s1, sm1, ⟨_, r1⟩, k1⟩ => ?_⟩
  exact tAt.ret k1 [x] H1 G1 F (Same.refl G1) ⟨rfl, .one r1⟩ k1.1
theorem ah_cons {g : M (List D)} (h : PD X fd W e f) (hr : AH X fd W es g) (hs : starEach (e :: es) X.env = (false, eval e X.env) :: starEach es X.env := by rfl) : AH X fd W (e :: es) (consM f g) := by
  refine PA.imp (pa_cons h hr hs) fun σ H Q ⟨F, G, ρ, s, k⟩ => ⟨F, G, ρ, s, (tAt.bnd k RD_F).mono fun x H1 ⟨d, G1, ρ1, s1, sm1, ⟨_, r1⟩, k1⟩ => ?_⟩
  refine ⟨F, G1, ρ1, s1, (tAt.bnd k1 RHL_F).mono fun xs H2 ⟨ds, G2, ρ2, s2, sm2, ⟨_, r2⟩, k2⟩ => ?_⟩
  exact tAt.ret k2 (x :: xs) H2 G2 F (Same.refl G2) ⟨rfl, .cons (r1.mono (sm2.trans k2.1.sub)) r2⟩ k2.1
theorem ah_of {g : M (List D)} (h : AD X fd W es g) : AH X fd W es g := by
  refine PA.imp h fun σ H Q k => tM.imp k fun F F' G' H' ρ' s' d v S r => ⟨r.1, r.2.mono S.sub⟩
theorem an_nil : AN X fd W [] (M.ret []) := PA.imp pa_nil fun σ H Q ⟨F, G, ρ, s, k⟩ => tAt.ret k [] H G F (Same.refl G) ⟨[], by rw [ovl_nil], .nil, List.nodup_nil, fun _ h => by simp at h⟩ k.1
def consN (f : M OT) (g : M (List OT)) : M (List OT) := f.bnd fun x => g.bnd fun xs => M.ret (x :: xs)
theorem an_cons {f : M OT} {g : M (List OT)} (h : PN X fd W e f) (hr : AN X fd W es g) (hs : starEach (e :: es) X.env = (false, eval e X.env) :: starEach es X.env := by rfl) : AN X fd W (e :: es) (consN f g) := by
  refine PA.imp (pa_cons h hr hs) fun σ H Q ⟨F, G, ρ, s, k⟩ => ⟨F, G, ρ, s, (tAt.bndO k fun _ _ _ _ _ r _ => RO_sub r).mono fun x H1 ⟨t, F1, G1, ρ1, s1, sm1, r1, k1⟩ => ?_⟩
  refine ⟨F1, G1, ρ1, s1, (tAt.bndO k1 fun _ _ _ _ _ r _ => ROL_sub r).mono fun xs H2 ⟨ts, F2, G2, ρ2, s2, sm2, r2, k2⟩ => ?_⟩
  obtain ⟨A, rfl, o1, n1, f1⟩ := r1
  obtain ⟨B, rfl, o2, n2, f2⟩ := r2
  have dj : ∀ a ∈ B, a ∉ A := fun a hb ha => by
    have := f2 a hb
    rw [ovl_in ha] at this
    obtain ⟨o, e⟩ := o1.there a ha
    rw [e] at this; cases this
  have hk : ∀ a ∈ A, H2 a = H1 a := fun a ha => by
    obtain ⟨o, e⟩ := o1.there a ha
    rw [e]
    exact (k2.1.fr a o (by rw [ovl_out fun z => dj a z ha, ovl_in ha, e])).1
  have hF : ∀ a ∈ B, F a = none := fun a hb => by
    have := f2 a hb
    rwa [ovl_out (dj a hb)] at this
  refine tAt.ret k2 (x :: xs) H2 G2 _ (Same.refl G2) ⟨A ++ B, ovl_app hk dj, .cons (o1.mono sm2 hk) o2, ?_, fun a ha => ?_⟩ k2.1
  · exact List.nodup_append.mpr ⟨n1, n2, fun a ha b hb z => dj b hb (z ▸ ha)⟩
  · rcases List.mem_append.mp ha with ha | ha
    · exact f1 a ha
    · exact hF a ha

/-! ### displays -/
def lnB : Nat := 1000000
theorem lnB_le {n : Nat} (h : n ≤ lnB) : n ≤ sizeLine := by rw [sizeLine_eq]; unfold lnB at h; omega
theorem lnB_lt {n : Nat} (h : n < lnB) : n < sizeLine := by rw [sizeLine_eq]; unfold lnB at h; omega
def okLen {α : Type} (xs : List α) : Option (List α) := if xs.length ≤ lnB then some xs else none
theorem okLen_eq {α : Type} {xs ys : List α} (h : okLen xs = some ys) : ys = xs ∧ xs.length ≤ lnB := by
  unfold okLen at h
  split at h
  · exact ⟨(Option.some.inj h).symm, ‹_›⟩
  · cases h
theorem pn_lst {g : M (List OT)} (h : AN X fd W es g) : PN X fd W (.List es pos) (g.bnd fun ts => M.lft ((okLen ts).map .ow)) := by
  refine PE.imp (pe_lst h) fun σ H Q ⟨F, G, ρ, s, k⟩ => ⟨F, G, ρ, s, (tAt.bndO k fun _ _ _ _ _ r _ => ROL_sub r).mono fun xs H1 ⟨ts, F1, G1, ρ1, s1, sm1, r1, k1⟩ => ?_⟩
  obtain ⟨A, rfl, o1, n1, f1⟩ := r1
  obtain ⟨t, e, q⟩ := tAt.lft k1
  obtain ⟨ts', e2, rfl⟩ := Option.map_eq_some_iff.mp e
  obtain ⟨rfl, hl⟩ := okLen_eq e2
  refine ⟨by rw [← o1.length]; exact lnB_le hl, fun p hp => ?_⟩
  have pA : p ∉ A := fun z => by obtain ⟨o, e⟩ := o1.there p z; rw [hp] at e; cases e
  have S2 := k1.1.newL (o := .lst xs) hp
  have hk : ∀ a ∈ A, upd H1 p (.lst xs) a = H1 a := fun a ha => upd_ne fun z => pA (z ▸ ha)
  rw [ovl_app hk (by simpa using pA)] at S2
  have eq : ovl F (upd H1 p (.lst xs)) (A ++ [p]) = ovl F (upd H1 p (.lst xs)) (p :: A) := by
    funext a
    by_cases ha : a ∈ p :: A
    · rw [ovl_in ha, ovl_in (by simpa [or_comm] using ha)]
    · rw [ovl_out ha, ovl_out (by simpa [or_comm] using ha)]
  rw [eq] at S2
  refine q _ _ G1 _ (Same.refl G1) ⟨p :: A, rfl, .ow upd_same (o1.mono (Same.refl G1) hk), List.nodup_cons.mpr ⟨pA, n1⟩, fun a ha => ?_⟩ S2
  rcases List.mem_cons.mp ha with z | ha
  · rw [z]
    have := k1.1.F_none hp
    rwa [ovl_out pA] at this
  · exact f1 a ha
theorem pd_tup {k1} {g : M (List D)} (h : AD X fd W es g) : PD X fd W (.Tuple es k1 pos) (g.bnd fun ds => M.lft ((okLen ds).map .tup)) := by
  refine PE.imp (pe_tup h) fun σ H Q ⟨F, G, ρ, s, k⟩ => ⟨F, G, ρ, s, (tAt.bnd k RDL_F).mono fun xs H1 ⟨ds, G1, ρ1, s1, sm1, ⟨_, r1⟩, k1⟩ => ?_⟩
  obtain ⟨t, e, _, q⟩ := k1.fin
  obtain ⟨ds', e2, rfl⟩ := Option.map_eq_some_iff.mp e
  obtain ⟨rfl, hl⟩ := okLen_eq e2
  refine ⟨by rw [← r1.length]; exact lnB_le hl, fun p hp => ?_⟩
  obtain ⟨S2, sm2⟩ := (k1.1.new (o := .tup xs) hp).fz1 (k1.1.F_none hp)
  exact q _ _ _ sm2 (.tup (.inl (.inl upd_same)) (r1.mono sm2)) S2

/-! ### and, or, not, if -/
def andM (f g : M Bool) : M Bool := f.bnd fun b => if b = true then g else M.ret false
def orM (f g : M Bool) : M Bool := f.bnd fun b => if b = true then M.ret true else g
variable {h1 h2 : M Bool} {rest : List Expr}
theorem wd_and1 (h : TD X fd W a h1) : WD X fd W (.BoolOp .And [a] pos) h1 := pw_and1 h
theorem wd_or1 (h : TD X fd W a h1) : WD X fd W (.BoolOp .Or [a] pos) h1 := pw_or1 h
theorem wd_and (h : TD X fd W a h1) (hb : WD X fd W (.BoolOp .And (b :: rest) pos) h2) : WD X fd W (.BoolOp .And (a :: b :: rest) pos) (andM h1 h2) := by
  refine PW.imp (pw_and h hb) fun σ H Q ⟨F, G, ρ, s, k⟩ => ⟨F, G, ρ, s, (tAt.bnd k RB_F).mono fun x H1 ⟨d, G1, ρ1, s1, sm1, ⟨_, r1⟩, k1⟩ => ?_⟩
  subst r1
  cases x with
  | true => exact iteT ⟨F, G1, ρ1, s1, k1⟩
  | false => exact iteF (tAt.ret k1 false H1 G1 F (Same.refl _) ⟨rfl, rfl⟩ k1.1)
theorem wd_or (h : TD X fd W a h1) (hb : WD X fd W (.BoolOp .Or (b :: rest) pos) h2) : WD X fd W (.BoolOp .Or (a :: b :: rest) pos) (orM h1 h2) := by
  refine PW.imp (pw_or h hb) fun σ H Q ⟨F, G, ρ, s, k⟩ => ⟨F, G, ρ, s, (tAt.bnd k RB_F).mono fun x H1 ⟨d, G1, ρ1, s1, sm1, ⟨_, r1⟩, k1⟩ => ?_⟩
  subst r1
  cases x with
  | true => exact iteT (tAt.ret k1 true H1 G1 F (Same.refl _) ⟨rfl, rfl⟩ k1.1)
  | false => exact iteF ⟨F, G1, ρ1, s1, k1⟩
theorem td_W (h : WD X fd W a h1) : TD X fd W a h1 := PW.pt h
theorem td_not (h : TD X fd W a h1) : TD X fd W (.UnaryOp .Not a pos) (h1.bnd fun b => M.ret (!b)) := by
  refine PT.imp (pt_not h) fun σ H Q ⟨F, G, ρ, s, k⟩ => ⟨F, G, ρ, s, (tAt.bnd k RB_F).mono fun x H1 ⟨d, G1, ρ1, s1, sm1, ⟨_, r1⟩, k1⟩ => ?_⟩
  subst r1
  exact tAt.ret k1 (!x) H1 G1 F (Same.refl _) ⟨rfl, rfl⟩ k1.1
/-- as values -/
def andV (f g : M D) : M D := f.bnd fun x => (M.lft (asB x)).bnd fun b => if b = true then g else M.ret (.bl false)
def orV (f g : M D) : M D := f.bnd fun x => (M.lft (asB x)).bnd fun b => if b = true then M.ret (.bl true) else g
theorem pd_one {op} (h : PD X fd W a f) : PD X fd W (.BoolOp op [a] pos) f := pe_one h
theorem lft_bnd {α α' β' : Type} {c : Ct} {R' : RT α' β'} {F G H : Hp} {ρ : Env} {s : FS} {σ : L2.St} {o : Option α} {g : α → M α'} {Q : β' → Hp → Prop} (h : tAt c W R' F G ρ s ((M.lft o).bnd g) σ H Q) : ∃ a, o = some a ∧ tAt c W R' F G ρ s (g a) σ H Q := by
  cases o with
  | none => exact h.2.elim
  | some a => exact ⟨a, rfl, h⟩
theorem asB_rep {c : Ct} {G : Hp} {d : D} {x : V} {b : Bool} (r : Rep c G d x) (h : asB d = some b) : x = .bl b := by
  cases r <;> simp [asB] at h
  rw [h]
theorem pd_and (h : PD X fd W a f) (hb : PD X fd W (.BoolOp .And (b :: rest) pos) g) : PD X fd W (.BoolOp .And (a :: b :: rest) pos) (andV f g) := by
  refine PE.imp (pe_and h hb) fun σ H Q ⟨F, G, ρ, s, k⟩ => ⟨F, G, ρ, s, (tAt.bnd k RD_F).mono fun x H1 ⟨d, G1, ρ1, s1, sm1, ⟨_, r1⟩, k1⟩ => ?_⟩
  obtain ⟨b, e, k1⟩ := lft_bnd k1
  obtain rfl := asB_rep r1 e
  refine ⟨b, rfl, ?_⟩
  cases b with
  | true => exact iteT ⟨F, G1, ρ1, s1, k1⟩
  | false => exact iteF (tAt.ret k1 (.bl false) H1 G1 F (Same.refl _) ⟨rfl, .bl _⟩ k1.1)
theorem pd_or (h : PD X fd W a f) (hb : PD X fd W (.BoolOp .Or (b :: rest) pos) g) : PD X fd W (.BoolOp .Or (a :: b :: rest) pos) (orV f g) := by
  refine PE.imp (pe_or h hb) fun σ H Q ⟨F, G, ρ, s, k⟩ => ⟨F, G, ρ, s, (tAt.bnd k RD_F).mono fun x H1 ⟨d, G1, ρ1, s1, sm1, ⟨_, r1⟩, k1⟩ => ?_⟩
  obtain ⟨b, e, k1⟩ := lft_bnd k1
  obtain rfl := asB_rep r1 e
  refine ⟨b, rfl, ?_⟩
  cases b with
  | true => exact iteT (tAt.ret k1 (.bl true) H1 G1 F (Same.refl _) ⟨rfl, .bl _⟩ k1.1)
  | false => exact iteF ⟨F, G1, ρ1, s1, k1⟩
theorem pd_not (h : PD X fd W a f) : PD X fd W (.UnaryOp .Not a pos) (f.bnd fun x => M.lft ((asB x).map fun b => .bl (!b))) := by
  refine PE.imp (pe_not h) fun σ H Q ⟨F, G, ρ, s, k⟩ => ⟨F, G, ρ, s, (tAt.bnd k RD_F).mono fun x H1 ⟨d, G1, ρ1, s1, sm1, ⟨_, r1⟩, k1⟩ => ?_⟩
  obtain ⟨t, e, q, _⟩ := k1.fin
  obtain ⟨b, e2, rfl⟩ := Option.map_eq_some_iff.mp e
  obtain rfl := asB_rep r1 e2
  exact ⟨b, rfl, q _ (.bl _)⟩
theorem pd_if {c : Expr} (hc : TD X fd W c h1) (ha : PD X fd W a f) (hb : PD X fd W b g) : PD X fd W (.IfExp c a b pos) (h1.bnd fun t => if t = true then f else g) := by
  refine PE.imp (pe_ifExp hc ha hb) fun σ H Q ⟨F, G, ρ, s, k⟩ => ⟨F, G, ρ, s, (tAt.bnd k RB_F).mono fun x H1 ⟨d, G1, ρ1, s1, sm1, ⟨_, r1⟩, k1⟩ => ?_⟩
  subst r1
  cases x with
  | true => exact iteT ⟨F, G1, ρ1, s1, k1⟩
  | false => exact iteF ⟨F, G1, ρ1, s1, k1⟩
/-- truth of any plain value -/
def truD : D → Option Bool
  | .non => some false
  | .bl b => some b
  | .int i => some (i != 0)
  | .lst xs => some (!xs.isEmpty)
  | .tup xs => some (!xs.isEmpty)
  | _ => none
theorem RepL.isEmpty {c : Ct} {G : Hp} {ds : List D} {vs : List V} (r : RepL c G ds vs) : ds.isEmpty = vs.isEmpty := by cases r <;> rfl
theorem td_tru (h : HD X fd W a f) (he : ∀ whole, isTrue a X.env whole = (do let v ← whole; standAt a.pos; holding [v] (truthy v)) := by intro _; rfl) : TD X fd W a (f.bnd fun x => M.lft (truD x)) := by
  refine PT.imp (pt_truth h he) fun σ H Q ⟨F, G, ρ, s, k⟩ => ⟨F, G, ρ, s, (tAt.bnd k RH_F).mono fun x H1 ⟨d, G1, ρ1, s1, sm1, ⟨_, r1⟩, k1⟩ => ?_⟩
  obtain ⟨b, e, q⟩ := k1.finB
  refine ⟨b, ?_, q⟩
  cases r1 with
  | lst h r =>
    refine .inl ⟨_, .inl (.inl h), ?_⟩
    rw [← r.isEmpty]
    exact (Option.some.inj e).symm
  | tup h r =>
    refine .inr (.inl ⟨_, h, ?_⟩)
    rw [← r.isEmpty]
    exact (Option.some.inj e).symm
  | _ => first | exact (Option.some.inj e).symm | cases e

/-! ### chains a < b < c -/
def chainM (h h' : D → D → Option D) (f g k : M D) : M D := f.bnd fun x => g.bnd fun y => (M.lft ((h x y).bind asB)).bnd fun t => if t = true then k.bnd fun z => M.lft (h' y z) else M.ret (.bl false)
theorem tch {h h' : D → D → Option D} {ch : M D} {op op' : CmpOp} (ho : DOp X fd (compareOp op) h) (ho' : DOp X fd (compareOp op') h') :
    ∃ r r' : R2, OpR X (compareOp op) r ∧ OpR X (compareOp op') r' ∧ ∀ σ H Q, tM (ct X fd) W (RD (ct X fd)) (chainM h h' f g ch) σ H Q → tChain r r' (tM (ct X fd) W (RD (ct X fd)) f) (tM (ct X fd) W (RD (ct X fd)) g) (tM (ct X fd) W (RD (ct X fd)) ch) σ H Q := by
  obtain ⟨r, o, hr⟩ := ho
  obtain ⟨r', o', hr'⟩ := ho'
  refine ⟨r, r', o, o', fun σ H Q ⟨F, G, ρ, s, k⟩ => ⟨F, G, ρ, s, (tAt.bnd k RD_F).mono fun x H1 ⟨d, G1, ρ1, s1, sm1, ⟨_, r1⟩, k1⟩ => ?_⟩⟩
  refine ⟨F, G1, ρ1, s1, (k1.bnd RD_F).mono fun y H2 ⟨e, G2, ρ2, s2, sm2, ⟨_, r2⟩, k2⟩ => ?_⟩
  obtain ⟨t, e1, k2⟩ := lft_bnd k2
  obtain ⟨w, e2, e3⟩ := Option.bind_eq_some_iff.mp e1
  refine hr G2 H2 d e w x y _ k2.1.sub (r1.mono sm2) r2 e2 fun z rz => ?_
  obtain rfl := asB_rep rz e3
  refine ⟨t, rfl, ?_⟩
  cases t with
  | false => exact iteF (tAt.ret k2 (.bl false) H2 G2 F (Same.refl _) ⟨rfl, .bl _⟩ k2.1)
  | true =>
    refine iteT ⟨F, G2, ρ2, s2, (tAt.bnd (f := ch) k2 RD_F).mono fun z H3 ⟨e', G3, ρ3, s3, sm3, ⟨_, r3⟩, k3⟩ => ?_⟩
    obtain ⟨w', e4, q, _⟩ := k3.fin
    exact hr' G3 H3 e e' w' y z Q k3.1.sub (r2.mono sm3) r3 e4 q
theorem pd_chain {h h' : D → D → Option D} {c : Expr} {ch : M D} {op op' : CmpOp} (ho : DOp X fd (compareOp op) h) (ho' : DOp X fd (compareOp op') h') (ha : PD X fd W a f) (hb : PD X fd W b g) (hc : PD X fd W c ch)
    (hm : lastMarks [op, op'] [b, c] = false := by with_unfolding_all rfl) : PD X fd W (.Compare a [op, op'] [b, c] pos) (chainM h h' f g ch) := by
  obtain ⟨r, r', o, o', k⟩ := tch (W := W) (f := f) (g := g) (ch := ch) ho ho'
  exact PE.imp (pe_chain o o' ha hb hc hm) k
theorem td_chain {h h' : D → D → Option D} {c : Expr} {ch : M D} {op op' : CmpOp} (ho : DOp X fd (compareOp op) h) (ho' : DOp X fd (compareOp op') h') (ha : PD X fd W a f) (hb : PD X fd W b g) (hc : PD X fd W c ch)
    (hm : lastMarks [op, op'] [b, c] = false := by with_unfolding_all rfl) : TD X fd W (.Compare a [op, op'] [b, c] pos) ((chainM h h' f g ch).bnd fun x => M.lft (asB x)) := by
  obtain ⟨r, r', o, o', k⟩ := tch (W := W) (f := f) (g := g) (ch := ch) ho ho'
  refine PT.imp (pt_chain o o' ha hb hc hm) fun σ H Q kk => k σ H _ ?_
  obtain ⟨F, G, ρ, s, kk⟩ := kk
  refine ⟨F, G, ρ, s, (kk.bnd RD_F).mono fun x H1 ⟨d, G1, ρ1, s1, sm1, ⟨_, r1⟩, k1⟩ => ?_⟩
  obtain ⟨b, e, q⟩ := k1.finB
  obtain rfl := asB_rep r1 e
  exact ⟨b, rfl, q⟩

/-! ### operators whose last operand may be an own name that is looked at -/
/-- as DOp, what comes out is plain and flat -/
def SOp (X : Cx) (fd : Option Addr) (f : Value → Value → Sem Value) (h : D → D → Option D) : Prop :=
  (∀ d e w, h d e = some w → scalD w = true) ∧ ∃ r : R2, OpR X f r ∧ ∀ (H : Hp) (d e w : D) (x y : V) (Q : VK), Rep (ct X fd) H d x → Rep (ct X fd) H e y → h d e = some w → (∀ z, Rep (ct X fd) H w z → Q z H) → r x y H Q
theorem SOp.dop {f : Value → Value → Sem Value} {h : D → D → Option D} (o : SOp X fd f h) : DOp X fd f h := by
  obtain ⟨sc, r, o, hr⟩ := o
  exact ⟨r, o, fun G H d e w x y Q sm r1 r2 hw q => hr H d e w x y Q (r1.mono sm) (r2.mono sm) hw fun z rz => q z (rz.scal (sc _ _ _ hw))⟩
theorem sH {h : D → D → Option D} {c : Ct} {r : R2} (sc : ∀ d e w, h d e = some w → scalD w = true) (hr : ∀ (H : Hp) (d e w : D) (x y : V) (Q : VK), Rep c H d x → Rep c H e y → h d e = some w → (∀ z, Rep c H w z → Q z H) → r x y H Q)
    {σ : L2.St} {H : Hp} {Q : VK} (k : tM c W (RD c) (f.bnd fun x => g.bnd fun y => M.lft (h x y)) σ H Q) : tOp r (tM c W (RD c) f) (tM c W (RH c) g) σ H Q := by
  obtain ⟨F, G, ρ, s, k⟩ := k
  refine ⟨F, G, ρ, s, (k.bnd RD_F).mono fun x H1 ⟨d, G1, ρ1, s1, sm1, ⟨_, r1⟩, k1⟩ => ?_⟩
  refine ⟨F, G1, ρ1, s1, (k1.bnd RH_F).mono fun y H2 ⟨e, G2, ρ2, s2, sm2, ⟨_, r2⟩, k2⟩ => ?_⟩
  obtain ⟨w, e1, q, _⟩ := k2.fin
  exact hr H2 d e w x y Q (r1.mono (sm2.trans k2.1.sub)) r2 e1 fun z rz => q z (rz.scal (sc _ _ _ e1))
theorem pd_cmpS {op : CmpOp} {h : D → D → Option D} (ho : SOp X fd (compareOp op) h) (ha : PD X fd W a f) (hb : HD X fd W b g) (hm : behindInMarks op b = false) : PD X fd W (.Compare a [op] [b] pos) (f.bnd fun x => g.bnd fun y => M.lft (h x y)) := by
  obtain ⟨sc, r, o, hr⟩ := ho
  exact PE.imp (pe_cmpR o ha hb hm) fun σ H Q k => sH sc hr k
theorem td_cmpS {op : CmpOp} {h : D → D → Option D} (ho : SOp X fd (compareOp op) h) (ha : PD X fd W a f) (hb : HD X fd W b g) (hm : behindInMarks op b = false) :
    TD X fd W (.Compare a [op] [b] pos) ((f.bnd fun x => g.bnd fun y => M.lft (h x y)).bnd fun x => M.lft (asB x)) := by
  obtain ⟨sc, r, o, hr⟩ := ho
  refine PT.imp (pt_cmpR o ha hb hm) fun σ H Q kk => sH sc hr ?_
  obtain ⟨F, G, ρ, s, kk⟩ := kk
  refine ⟨F, G, ρ, s, (kk.bnd RD_F).mono fun x H1 ⟨d, G1, ρ1, s1, sm1, ⟨_, r1⟩, k1⟩ => ?_⟩
  obtain ⟨b, e, q⟩ := k1.finB
  obtain rfl := asB_rep r1 e
  exact ⟨b, rfl, q⟩
/-- the first operand an own name that is looked at -/
theorem sV {h : D → D → Option D} {i : Nat} {c : Ct} {r : R2} (sc : ∀ d e w, h d e = some w → scalD w = true) (hr : ∀ (H : Hp) (d e w : D) (x y : V) (Q : VK), Rep c H d x → Rep c H e y → h d e = some w → (∀ z, Rep c H w z → Q z H) → r x y H Q)
    {σ : L2.St} {H : Hp} {Q : VK} (k : tM c W (RD c) (g.bnd fun y => (pk i).bnd fun x => M.lft (h x y)) σ H Q) (hv : ∀ {F G H ρ s}, Sat c F G H σ ρ s → ∀ t, ρ[i]? = some (some t) → ∃ v, σ[i]? = some (some v) ∧ Rep c H t.fzD v) (h0 : ∃ v, σ[i]? = some (some v)) : tOp r (tVar i) (tM c W (RH c) g) σ H Q := by
  obtain ⟨F, G, ρ, s, k⟩ := k
  obtain ⟨v, e0⟩ := h0
  refine ⟨v, e0, F, G, ρ, s, (k.bnd RH_F).mono fun y H2 ⟨e, G2, ρ2, s2, sm2, ⟨_, r2⟩, k2⟩ => ?_⟩
  have k3 := k2.2
  unfold M.bnd pk at k3
  rcases e1 : ρ2[i]? with _ | _ | t
  · simp only [e1] at k3
  · simp only [e1] at k3
  · simp only [e1] at k3
    obtain ⟨v', e2, r1⟩ := hv k2.1 t e1
    rw [e0] at e2
    cases e2
    have k4 : tAt c W (RD c) F G2 ρ2 s2 (M.lft (h t.fzD e)) σ H2 Q := ⟨k2.1, k3⟩
    obtain ⟨w, e3, q, _⟩ := k4.fin
    exact hr H2 _ e w v y Q r1 r2 e3 fun z rz => q z (rz.scal (sc _ _ _ e3))
theorem Sat.peek {c : Ct} {F G H : Hp} {σ : L2.St} {ρ : Env} {s : FS} (S : Sat c F G H σ ρ s) {i : Nat} {t : OT} (e : ρ[i]? = some (some t)) : ∃ v, σ[i]? = some (some v) ∧ Rep c H t.fzD v := by
  obtain ⟨B, h1, h2, h3⟩ := id S.sl
  obtain ⟨v, A, A', e1, o1, p1, s1⟩ := h1.get e
  exact ⟨v, e1, o1.freeze S.sub fun a ha => rfl⟩
/-- the name i is there -/
def thr (i : Nat) : M Unit := fun ρ s => match ρ[i]? with
  | some (some _) => .ok () ρ s
  | _ => .bad
theorem thr_at {α β : Type} {c : Ct} {R : RT α β} {F G H : Hp} {ρ : Env} {s : FS} {σ : L2.St} {i : Nat} {g : M α} {Q : β → Hp → Prop} (h : tAt c W R F G ρ s ((thr i).bnd fun _ => g) σ H Q) : (∃ v, σ[i]? = some (some v)) ∧ tAt c W R F G ρ s g σ H Q := by
  have h2 := h.2
  unfold M.bnd thr at h2
  rcases e1 : ρ[i]? with _ | _ | t
  · simp only [e1] at h2
  · simp only [e1] at h2
  · simp only [e1] at h2
    obtain ⟨v, e, _⟩ := h.1.peek e1
    exact ⟨⟨v, e⟩, h.1, h2⟩
def nameOp (i : Nat) (g : M D) (h : D → D → Option D) : M D := (thr i).bnd fun _ => g.bnd fun y => (pk i).bnd fun x => M.lft (h x y)
theorem pd_cmpV (i : Nat) {x : Str} {p : Pos} {op : CmpOp} {h : D → D → Option D} (ho : SOp X fd (compareOp op) h) (ha : PE X (.Name x p) (tVar i)) (hb : HD X fd W b g) (hm : behindInMarks op b = false) : PD X fd W (.Compare (.Name x p) [op] [b] pos) (nameOp i g h) := by
  obtain ⟨sc, r, o, hr⟩ := ho
  refine PE.imp (pe_cmpR o ha hb hm) fun σ H Q ⟨F, G, ρ, s, k⟩ => ?_
  obtain ⟨h0, k⟩ := thr_at k
  exact sV sc hr ⟨F, G, ρ, s, k⟩ (fun S t e => S.peek e) h0
theorem td_cmpV (i : Nat) {x : Str} {p : Pos} {op : CmpOp} {h : D → D → Option D} (ho : SOp X fd (compareOp op) h) (ha : PE X (.Name x p) (tVar i)) (hb : HD X fd W b g) (hm : behindInMarks op b = false) :
    TD X fd W (.Compare (.Name x p) [op] [b] pos) ((nameOp i g h).bnd fun x => M.lft (asB x)) := by
  obtain ⟨sc, r, o, hr⟩ := ho
  refine PT.imp (pt_cmpR o ha hb hm) fun σ H Q kk => ?_
  have kk' : tM (ct X fd) W (RD (ct X fd)) (nameOp i g h) σ H (fun x H1 => ∃ k, x = .bl k ∧ Q k H1) := by
    obtain ⟨F, G, ρ, s, kk⟩ := kk
    refine ⟨F, G, ρ, s, (kk.bnd RD_F).mono fun x H1 ⟨d, G1, ρ1, s1, sm1, ⟨_, r1⟩, k1⟩ => ?_⟩
    obtain ⟨b, e, q⟩ := k1.finB
    obtain rfl := asB_rep r1 e
    exact ⟨b, rfl, q⟩
  obtain ⟨F, G, ρ, s, k⟩ := kk'
  obtain ⟨h0, k⟩ := thr_at k
  exact sV sc hr ⟨F, G, ρ, s, k⟩ (fun S t e => S.peek e) h0

/-! ### == and in, of data -/
mutual
def D.eqv : D → D → Bool
  | .non, .non => true
  | .bl a, .bl b => a == b
  | .bl a, .int j => (if a then 1 else 0) == j
  | .int i, .bl b => i == (if b then 1 else 0)
  | .int i, .int j => i == j
  | .str x, .str y => x == y
  | .lst xs, .lst ys => D.eqvL xs ys
  | .tup xs, .tup ys => D.eqvL xs ys
  | _, _ => false
def D.eqvL : List D → List D → Bool
  | [], [] => true
  | x :: xs, y :: ys => D.eqv x y && D.eqvL xs ys
  | _, _ => false
end
mutual
/-- no dict within, at most n deep -/
def D.shp : D → Nat → Bool
  | .non, _ | .bl _, _ | .int _, _ => true
  | .str x, _ => PyData.strOk x
  | .lst xs, n => match n with
    | 0 => false
    | n + 1 => D.shpL xs n
  | .tup xs, n => match n with
    | 0 => false
    | n + 1 => D.shpL xs n
  | _, _ => false
def D.shpL : List D → Nat → Bool
  | [], _ => true
  | x :: xs, n => D.shp x n && D.shpL xs n
end
mutual
def D.py : D → PyData
  | .non => .none
  | .bl b => .bool b
  | .int i => .int i
  | .str x => .str x
  | .lst xs => .list (D.pyL xs)
  | .tup xs => .tuple (D.pyL xs)
  | _ => .none
def D.pyL : List D → List PyData
  | [] => []
  | x :: xs => D.py x :: D.pyL xs
end
mutual
theorem shp_py : ∀ (d : D) (n : Nat), d.shp n = true → d.py.canLay0 = true ∧ d.py.depth ≤ n
  | .non, _, _ => by simp [D.py, PyData.canLay0, PyData.depth]
  | .bl _, _, _ => by simp [D.py, PyData.canLay0, PyData.depth]
  | .int _, _, _ => by simp [D.py, PyData.canLay0, PyData.depth]
  | .str _, _, h => by simpa [D.py, PyData.canLay0, PyData.depth, D.shp] using h
  | .lst xs, 0, h => by simp [D.shp] at h
  | .lst xs, n + 1, h => by
    have := shp_pyL xs n (by simpa [D.shp] using h)
    simp [D.py, PyData.canLay0, PyData.depth]
    exact ⟨this.1, by omega⟩
  | .tup xs, 0, h => by simp [D.shp] at h
  | .tup xs, n + 1, h => by
    have := shp_pyL xs n (by simpa [D.shp] using h)
    simp [D.py, PyData.canLay0, PyData.depth]
    exact ⟨this.1, by omega⟩
  | .dk _, _, h => by simp [D.shp] at h
  | .dt _, _, h => by simp [D.shp] at h
  | .feed, _, h => by simp [D.shp] at h
theorem shp_pyL : ∀ (ds : List D) (n : Nat), D.shpL ds n = true → PyData.canLayAll0 (D.pyL ds) = true ∧ PyData.depthAll (D.pyL ds) ≤ n
  | [], _, _ => by simp [D.pyL, PyData.canLayAll0, PyData.depthAll]
  | d :: ds, n, h => by
    simp only [D.shpL, Bool.and_eq_true] at h
    have h1 := shp_py d n h.1
    have h2 := shp_pyL ds n h.2
    simp [D.pyL, PyData.canLayAll0, PyData.depthAll, h1.1, h2.1]
    omega
end
mutual
theorem eqv_py : ∀ (d e : D) (n m : Nat), d.shp n = true → e.shp m = true → PyData.eqv d.py e.py = d.eqv e
  | .lst xs, .lst ys, n + 1, m + 1, h1, h2 => by
    have := eqv_pyL xs ys n m (by simpa [D.shp] using h1) (by simpa [D.shp] using h2)
    simpa [D.py, D.eqv, PyData.eqv] using this
  | .tup xs, .tup ys, n + 1, m + 1, h1, h2 => by
    have := eqv_pyL xs ys n m (by simpa [D.shp] using h1) (by simpa [D.shp] using h2)
    simpa [D.py, D.eqv, PyData.eqv] using this
  | .lst _, _, 0, _, h, _ => by simp [D.shp] at h
  | .tup _, _, 0, _, h, _ => by simp [D.shp] at h
  | .lst _, .lst _, _, 0, _, h => by simp [D.shp] at h
  | .tup _, .tup _, _, 0, _, h => by simp [D.shp] at h
  | .dk _, _, _, _, h, _ => by simp [D.shp] at h
  | .dt _, _, _, _, h, _ => by simp [D.shp] at h
  | .feed, _, _, _, h, _ => by simp [D.shp] at h
  | _, .dk _, _, _, _, h => by simp [D.shp] at h
  | _, .dt _, _, _, _, h => by simp [D.shp] at h
  | _, .feed, _, _, _, h => by simp [D.shp] at h
  | .non, .non, _, _, _, _ => by simp [D.py, D.eqv, PyData.eqv]
  | .non, .bl _, _, _, _, _ => by simp [D.py, D.eqv, PyData.eqv]
  | .non, .int _, _, _, _, _ => by simp [D.py, D.eqv, PyData.eqv]
  | .non, .str _, _, _, _, _ => by simp [D.py, D.eqv, PyData.eqv]
  | .non, .lst _, _, _, _, _ => by simp [D.py, D.eqv, PyData.eqv]
  | .non, .tup _, _, _, _, _ => by simp [D.py, D.eqv, PyData.eqv]
  | .bl _, .non, _, _, _, _ => by simp [D.py, D.eqv, PyData.eqv]
  | .bl _, .bl _, _, _, _, _ => by simp [D.py, D.eqv, PyData.eqv]
  | .bl _, .int _, _, _, _, _ => by simp [D.py, D.eqv, PyData.eqv]
  | .bl _, .str _, _, _, _, _ => by simp [D.py, D.eqv, PyData.eqv]
  | .bl _, .lst _, _, _, _, _ => by simp [D.py, D.eqv, PyData.eqv]
  | .bl _, .tup _, _, _, _, _ => by simp [D.py, D.eqv, PyData.eqv]
  | .int _, .non, _, _, _, _ => by simp [D.py, D.eqv, PyData.eqv]
  | .int _, .bl _, _, _, _, _ => by simp [D.py, D.eqv, PyData.eqv]
  | .int _, .int _, _, _, _, _ => by simp [D.py, D.eqv, PyData.eqv]
  | .int _, .str _, _, _, _, _ => by simp [D.py, D.eqv, PyData.eqv]
  | .int _, .lst _, _, _, _, _ => by simp [D.py, D.eqv, PyData.eqv]
  | .int _, .tup _, _, _, _, _ => by simp [D.py, D.eqv, PyData.eqv]
  | .str _, .non, _, _, _, _ => by simp [D.py, D.eqv, PyData.eqv]
  | .str _, .bl _, _, _, _, _ => by simp [D.py, D.eqv, PyData.eqv]
  | .str _, .int _, _, _, _, _ => by simp [D.py, D.eqv, PyData.eqv]
  | .str _, .str _, _, _, _, _ => by simp [D.py, D.eqv, PyData.eqv]
  | .str _, .lst _, _, _, _, _ => by simp [D.py, D.eqv, PyData.eqv]
  | .str _, .tup _, _, _, _, _ => by simp [D.py, D.eqv, PyData.eqv]
  | .lst _, .non, _, _, _, _ => by simp [D.py, D.eqv, PyData.eqv]
  | .lst _, .bl _, _, _, _, _ => by simp [D.py, D.eqv, PyData.eqv]
  | .lst _, .int _, _, _, _, _ => by simp [D.py, D.eqv, PyData.eqv]
  | .lst _, .str _, _, _, _, _ => by simp [D.py, D.eqv, PyData.eqv]
  | .lst _, .tup _, _, _, _, _ => by simp [D.py, D.eqv, PyData.eqv]
  | .tup _, .non, _, _, _, _ => by simp [D.py, D.eqv, PyData.eqv]
  | .tup _, .bl _, _, _, _, _ => by simp [D.py, D.eqv, PyData.eqv]
  | .tup _, .int _, _, _, _, _ => by simp [D.py, D.eqv, PyData.eqv]
  | .tup _, .str _, _, _, _, _ => by simp [D.py, D.eqv, PyData.eqv]
  | .tup _, .lst _, _, _, _, _ => by simp [D.py, D.eqv, PyData.eqv]
theorem eqv_pyL : ∀ (ds es : List D) (n m : Nat), D.shpL ds n = true → D.shpL es m = true → PyData.eqvAll (D.pyL ds) (D.pyL es) = D.eqvL ds es
  | [], [], _, _, _, _ => by simp [D.pyL, D.eqvL, PyData.eqvAll]
  | [], _ :: _, _, _, _, _ => by simp [D.pyL, D.eqvL, PyData.eqvAll]
  | _ :: _, [], _, _, _, _ => by simp [D.pyL, D.eqvL, PyData.eqvAll]
  | d :: ds, e :: es, n, m, h1, h2 => by
    simp only [D.shpL, Bool.and_eq_true] at h1 h2
    simp [D.pyL, D.eqvL, PyData.eqvAll, eqv_py d e n m h1.1 h2.1, eqv_pyL ds es n m h1.2 h2.2]
end
mutual
theorem Rep.dp {c : Ct} {H : Hp} : ∀ {d : D} {v : V}, Rep c H d v → ∀ n, d.shp n = true → Dp c.K H v d.py
  | _, _, .non, _, _ => by rw [D.py]; exact .non
  | _, _, .bl _, _, _ => by rw [D.py]; exact .bl _
  | _, _, .int _, _, _ => by rw [D.py]; exact .int _
  | _, _, .str _, _, _ => by rw [D.py]; exact .str _
  | _, _, .lst h r, 0, q => by simp [D.shp] at q
  | _, _, .lst h r, n + 1, q => by rw [D.py]; exact .lst (.inl (.inl h)) (RepL.dp r n (by simpa [D.shp] using q))
  | _, _, .tup h r, 0, q => by simp [D.shp] at q
  | _, _, .tup h r, n + 1, q => by rw [D.py]; exact .tup h (RepL.dp r n (by simpa [D.shp] using q))
  | _, _, .dk _ _ _, _, q => by simp [D.shp] at q
  | _, _, .dt _ _ _, _, q => by simp [D.shp] at q
  | _, _, .feed _, _, q => by simp [D.shp] at q
theorem RepL.dp {c : Ct} {H : Hp} : ∀ {ds : List D} {vs : List V}, RepL c H ds vs → ∀ n, D.shpL ds n = true → DpAll c.K H vs (D.pyL ds)
  | _, _, .nil, _, _ => by rw [D.pyL]; exact .nil
  | _, _, .cons h r, n, q => by
    simp only [D.shpL, Bool.and_eq_true] at q
    rw [D.pyL]
    exact .cons (Rep.dp h n q.1) (RepL.dp r n q.2)
end
theorem shaped_of {d : D} (h : d.shp 60 = true) : SeqAt.shaped d.py = true := by
  have := shp_py d 60 h
  unfold SeqAt.shaped
  rw [this.1, Bool.true_and, decide_eq_true_eq]
  omega
def eqD (d e : D) : Option D := if d.shp 60 && e.shp 60 then some (.bl (d.eqv e)) else none
def neD (d e : D) : Option D := if d.shp 60 && e.shp 60 then some (.bl (!d.eqv e)) else none
def inD (d e : D) : Option D := match e with
  | .lst xs => if d.shp 60 && D.shp (.lst xs) 60 then some (.bl (xs.any fun z => z.eqv d)) else none
  | _ => none
def ninD (d e : D) : Option D := match e with
  | .lst xs => if d.shp 60 && D.shp (.lst xs) 60 then some (.bl (!xs.any fun z => z.eqv d)) else none
  | _ => none
theorem any_py {d : D} (hd : d.shp 60 = true) : ∀ {xs : List D} {n : Nat}, D.shpL xs n = true → ((D.pyL xs).any fun z => PyData.eqv z d.py) = xs.any fun z => z.eqv d
  | [], _, _ => by simp [D.pyL]
  | x :: xs, n, h => by
    simp only [D.shpL, Bool.and_eq_true] at h
    simp [D.pyL, eqv_py x d n 60 h.1 hd, any_py hd h.2]
theorem s_eq (hu : X.A.units + 64 < cLine) : SOp X fd (compareOp .Eq) eqD := by
  refine ⟨fun d e w h => ?_, _, op_eqD hu, fun H d e w x y Q r1 r2 h q => ?_⟩
  · unfold eqD at h; split at h
    · obtain rfl := Option.some.inj h; rfl
    · cases h
  · unfold eqD at h
    split at h
    · rename_i sh
      simp only [Bool.and_eq_true] at sh
      obtain rfl := Option.some.inj h
      refine ⟨d.py, e.py, r1.dp _ sh.1, r2.dp _ sh.2, shaped_of sh.1, shaped_of sh.2, ?_⟩
      rw [eqv_py d e 60 60 sh.1 sh.2]
      exact q _ (.bl _)
    · cases h
theorem s_ne (hu : X.A.units + 64 < cLine) : SOp X fd (compareOp .NotEq) neD := by
  refine ⟨fun d e w h => ?_, _, op_neD hu, fun H d e w x y Q r1 r2 h q => ?_⟩
  · unfold neD at h; split at h
    · obtain rfl := Option.some.inj h; rfl
    · cases h
  · unfold neD at h
    split at h
    · rename_i sh
      simp only [Bool.and_eq_true] at sh
      obtain rfl := Option.some.inj h
      refine ⟨d.py, e.py, r1.dp _ sh.1, r2.dp _ sh.2, shaped_of sh.1, shaped_of sh.2, ?_⟩
      rw [eqv_py d e 60 60 sh.1 sh.2]
      exact q _ (.bl _)
    · cases h
theorem s_in (hu : X.A.units + 65 < cLine) : SOp X fd (compareOp .In) inD := by
  refine ⟨fun d e w h => ?_, _, op_inD hu, fun H d e w x y Q r1 r2 h q => ?_⟩
  · unfold inD at h; split at h
    · split at h
      · obtain rfl := Option.some.inj h; rfl
      · cases h
    · cases h
  · unfold inD at h
    split at h
    · rename_i xs
      split at h
      · rename_i sh
        simp only [Bool.and_eq_true] at sh
        obtain rfl := Option.some.inj h
        have e2 := shaped_of sh.2
        have d2 := r2.dp _ sh.2
        rw [D.py] at e2 d2
        refine ⟨d.py, D.pyL xs, r1.dp _ sh.1, d2, shaped_of sh.1, e2, ?_⟩
        rw [any_py sh.1 (n := 59) (by simpa [D.shp] using sh.2)]
        exact q _ (.bl _)
      · cases h
    · cases h
theorem s_nin (hu : X.A.units + 65 < cLine) : SOp X fd (compareOp .NotIn) ninD := by
  refine ⟨fun d e w h => ?_, _, op_notInD hu, fun H d e w x y Q r1 r2 h q => ?_⟩
  · unfold ninD at h; split at h
    · split at h
      · obtain rfl := Option.some.inj h; rfl
      · cases h
    · cases h
  · unfold ninD at h
    split at h
    · rename_i xs
      split at h
      · rename_i sh
        simp only [Bool.and_eq_true] at sh
        obtain rfl := Option.some.inj h
        have e2 := shaped_of sh.2
        have d2 := r2.dp _ sh.2
        rw [D.py] at e2 d2
        refine ⟨d.py, D.pyL xs, r1.dp _ sh.1, d2, shaped_of sh.1, e2, ?_⟩
        rw [any_py sh.1 (n := 59) (by simpa [D.shp] using sh.2)]
        exact q _ (.bl _)
      · cases h
    · cases h
end
end DL

set_option Elab.async false
set_option linter.all false
set_option maxRecDepth 100000
namespace DL
open PySem PySem.Spec PyProof.Rows L2

/-! ### items -/
def atF {α : Type} (xs : List α) : Int → Option α
  | .ofNat k => xs[k]?
  | .negSucc k => if k < xs.length then xs[xs.length - (k + 1)]? else none
theorem atF_atI {α : Type} (xs : List α) (i : Int) : atF xs i = atI xs i := by
  unfold atI ixN
  cases i with
  | ofNat k =>
    simp only [atF]
    have h0 : (0 : Int) ≤ Int.ofNat k := Int.natCast_nonneg k
    rw [if_pos h0]
    by_cases h : k < xs.length
    · rw [if_pos (show Int.ofNat k < (xs.length : Int) from Int.ofNat_lt.mpr h)]; rfl
    · rw [if_neg (show ¬ Int.ofNat k < (xs.length : Int) from fun z => h (Int.ofNat_lt.mp z))]
      exact List.getElem?_eq_none (by omega)
  | negSucc k =>
    simp only [atF]
    have h0 : ¬ (0 : Int) ≤ Int.negSucc k := by omega
    rw [if_neg h0]
    by_cases h : k < xs.length
    · rw [if_pos h, if_pos (by omega)]
      have : (Int.negSucc k + (xs.length : Int)).toNat = xs.length - (k + 1) := by omega
      rw [Option.bind_some, this]
    · rw [if_neg h, if_neg (by omega)]; rfl
theorem atF_get {α : Type} {xs : List α} {i : Int} {x : α} (h : atF xs i = some x) : ∃ j, ixN xs.length i = some j ∧ xs[j]? = some x := by
  rw [atF_atI] at h
  unfold atI at h
  exact Option.bind_eq_some_iff.mp h
theorem atI_of {α : Type} {xs : List α} {i : Int} {j : Nat} {x : α} {n : Nat} (hn : xs.length = n) (h : ixN n i = some j) (e : xs[j]? = some x) : atI xs i = some x := by
  unfold atI
  rw [hn, h]
  exact e
theorem RepL.atI {c : Ct} {G : Hp} {ds : List D} {vs : List V} (r : RepL c G ds vs) {i : Int} {d : D} (h : atF ds i = some d) : ∃ v, L2.atI vs i = some v ∧ Rep c G d v := by
  obtain ⟨j, e1, e2⟩ := atF_get h
  obtain ⟨v, e3, q⟩ := r.get e2
  exact ⟨v, atI_of r.length.symm e1 e3, q⟩
def ixD (d e : D) : Option D := match d, e with
  | .lst xs, .int i => atF xs i
  | .tup xs, .int i => atF xs i
  | _, _ => none
section
variable {X : Cx} {fd : Option Addr} {W : Wish} {a b e : Expr} {es : List Expr} {pos : Pos} {f g : M D}
theorem pd_ix (ha : PD X fd W a f) (hb : PD X fd W b g) (hs : PlainIx b) : PD X fd W (.Subscript a b pos) (f.bnd fun x => g.bnd fun y => M.lft (ixD x y)) := by
  refine PE.imp (pe_ix ix_seq ha hb hs) fun σ H Q k => ?_
  refine t2 (h := ixD) (fun G H d e w x y Q sm r1 r2 hw q => ?_) k
  unfold ixD at hw
  split at hw
  · cases r2
    cases r1 with
    | lst h r =>
      obtain ⟨v, e1, q1⟩ := r.atI hw
      exact .inl ⟨_, _, _, v, rfl, rfl, .inl (.inl (sm _ _ h)), e1, q v q1⟩
  · cases r2
    cases r1 with
    | tup h r =>
      obtain ⟨v, e1, q1⟩ := r.atI hw
      exact .inr (.inl ⟨_, _, _, v, rfl, rfl, sqT_mono sm h, e1, q v q1⟩)
  · cases hw

theorem Sat.chg' {c : Ct} {F G H : Hp} {σ : L2.St} {ρ : Env} {s : FS} {p : Addr} {o o' : HO} (S : Sat c F G H σ ρ s) (h : F p = some o) : Sat c (upd F p o') G (upd H p o') σ ρ s := by
  refine Sat.chg (o := o) ?_
  have : upd F p o = F := by
    funext a
    by_cases ha : a = p
    · subst ha; rw [upd_same, h]
    · rw [upd_ne ha]
  rw [this]; exact S
/-- the own list of a name, while a thing of one's own stands beside -/
theorem Sat.upd1 {c : Ct} {F G H : Hp} {σ : L2.St} {ρ : Env} {s : FS} {i : Nat} {ts : List OT} {A : List Addr} (S : Sat c (ovl F H A) G H σ ρ s) (hF : ∀ a ∈ A, F a = none) (hH : ∀ a ∈ A, ∃ o, H a = some o) (e : ρ[i]? = some (some (.ow ts))) :
    ∃ a vs B, σ[i]? = some (some (.ref a)) ∧ H a = some (.lst vs) ∧ OwnL c G H ts vs B ∧ a ∉ B ∧ B.Nodup ∧ (∀ b ∈ a :: B, b ∉ A) ∧
      ∀ ts' vs' B', OwnL c G H ts' vs' B' → B'.Nodup → (∀ b ∈ B', b ∈ B ∨ b ∈ A) → Sat c F G (upd H a (.lst vs')) σ (ρ.set i (some (.ow ts'))) s := by
  obtain ⟨v, C, e1, o1, nd, hC, S1⟩ := S.take e
  cases o1 with
  | ow h1 r1 =>
    rename_i a vs B
    have nA : ∀ b ∈ a :: B, b ∉ A := fun b hb z => by
      have := hC b hb
      rw [ovl_in z] at this
      obtain ⟨o, q⟩ := hH b z
      rw [q] at this; cases this
    have nF : ∀ b ∈ a :: B, F b = none := fun b hb => by
      have := hC b hb
      rwa [ovl_out (nA b hb)] at this
    refine ⟨a, vs, B, e1, h1, r1, (List.nodup_cons.mp nd).1, (List.nodup_cons.mp nd).2, nA, fun ts' vs' B' r' nd' hB' => ?_⟩
    have aB' : a ∉ B' := fun z => by
      rcases hB' a z with q | q
      · exact (List.nodup_cons.mp nd).1 q
      · exact nA a (by simp) q
    have S2 := S1.chg' (p := a) (o := .lst vs) (o' := .lst vs') (by rw [ovl_in (by simp), h1])
    have hi : i < ρ.length := (List.getElem?_eq_some_iff.mp e).1
    have S3 : Sat c (ovl F (upd H a (.lst vs')) (a :: B')) G (upd H a (.lst vs')) σ (ρ.set i none) s := S2.less fun b o q => by
      by_cases hb : b = a
      · subst hb; rw [upd_same]; rw [ovl_in (by simp), upd_same] at q; exact q
      · rw [upd_ne hb]
        by_cases hb2 : b ∈ B'
        · rw [ovl_in (by simp [hb2]), upd_ne hb] at q
          by_cases hb3 : b ∈ B
          · rw [ovl_in (by simp [hb3])]; exact q
          · have hbA := (hB' b hb2).resolve_left hb3
            rw [ovl_out (fun z => nA b z hbA), ovl_in hbA]; exact q
        · rw [ovl_out (by simp [hb, hb2])] at q
          have n1 : b ∉ a :: B := fun z => by rw [nF b z] at q; cases q
          have n2 : b ∉ A := fun z => by rw [hF b z] at q; cases q
          rw [ovl_out n1, ovl_out n2]; exact q
    have S4 := S3.put (i := i) (t := .ow ts') (by simpa using hi) (.ow upd_same (r'.mono (Same.refl G) fun b hb => upd_ne fun z => aB' (z ▸ hb))) (List.nodup_cons.mpr ⟨aB', nd'⟩) (fun b hb => by
      rcases List.mem_cons.mp hb with z | hb
      · rw [z]; exact nF a (by simp)
      · rcases hB' b hb with q | q
        · exact nF b (by simp [q])
        · exact hF b q)
    rw [set_same e1, List.set_set] at S4
    exact S4
theorem Sat.upd0 {c : Ct} {F G H : Hp} {σ : L2.St} {ρ : Env} {s : FS} {i : Nat} {ts : List OT} (S : Sat c F G H σ ρ s) (e : ρ[i]? = some (some (.ow ts))) :
    ∃ a vs B, σ[i]? = some (some (.ref a)) ∧ H a = some (.lst vs) ∧ OwnL c G H ts vs B ∧ a ∉ B ∧ B.Nodup ∧
      ∀ ts' vs' B', OwnL c G H ts' vs' B' → B'.Nodup → (∀ b ∈ B', b ∈ B) → Sat c F G (upd H a (.lst vs')) σ (ρ.set i (some (.ow ts'))) s := by
  obtain ⟨a, vs, B, h1, h2, h3, h4, h5, _, h6⟩ := Sat.upd1 (A := []) (F := F) (by rw [ovl_nil]; exact S) (fun _ h => by simp at h) (fun _ h => by simp at h) e
  exact ⟨a, vs, B, h1, h2, h3, h4, h5, fun ts' vs' B' r n k => h6 ts' vs' B' r n fun b hb => .inl (k b hb)⟩
theorem OwnL.getFz {c : Ct} {G H : Hp} {ts : List OT} {vs : List V} {B : List Addr} (r : OwnL c G H ts vs B) {j : Nat} {d : D} (h : ts[j]? = some (.fz d)) : ∃ v, vs[j]? = some v ∧ Rep c G d v := by
  obtain ⟨v, C, A', e1, o1, _⟩ := r.at h
  cases o1 with
  | fz r => exact ⟨v, e1, r⟩

/-- an item of a name's list; the list is looked at -/
def ixT (t : OT) (e : D) : Option D := match t, e with
  | .fz (.lst xs), .int i => atF xs i
  | .fz (.tup xs), .int i => atF xs i
  | .ow ts, .int i => match atF ts i with
    | some (.fz d) => some d
    | _ => none
  | _, _ => none
def pkT (i : Nat) : M OT := fun ρ s => match ρ[i]? with
  | some (some t) => .ok t ρ s
  | _ => .bad
def nameIx (i : Nat) (g : M D) : M D := (thr i).bnd fun _ => g.bnd fun y => (pkT i).bnd fun t => M.lft (ixT t y)
theorem pkT_at {α β : Type} {c : Ct} {R : RT α β} {F G H : Hp} {ρ : Env} {s : FS} {σ : L2.St} {i : Nat} {g : OT → M α} {Q : β → Hp → Prop} (h : tAt c W R F G ρ s ((pkT i).bnd g) σ H Q) : ∃ t, ρ[i]? = some (some t) ∧ tAt c W R F G ρ s (g t) σ H Q := by
  have h2 := h.2
  unfold M.bnd pkT at h2
  rcases e1 : ρ[i]? with _ | _ | t
  · simp only [e1] at h2
  · simp only [e1] at h2
  · simp only [e1] at h2
    exact ⟨t, rfl, h.1, h2⟩
theorem pd_ixV (i : Nat) {x : Str} {p : Pos} (ha : PE X (.Name x p) (tVar i)) (hb : PD X fd W b g) (hs : PlainIx b) : PD X fd W (.Subscript (.Name x p) b pos) (nameIx i g) := by
  refine PE.imp (pe_ix ix_seq ha hb hs) fun σ H Q ⟨F, G, ρ, s, k⟩ => ?_
  obtain ⟨⟨v, e0⟩, k⟩ := thr_at k
  refine ⟨v, e0, F, G, ρ, s, (k.bnd RD_F).mono fun y H2 ⟨e, G2, ρ2, s2, sm2, ⟨_, r2⟩, k2⟩ => ?_⟩
  obtain ⟨t, e1, k2⟩ := pkT_at k2
  obtain ⟨w, e2, q, _⟩ := k2.fin
  unfold ixT at e2
  split at e2
  · cases r2
    obtain ⟨B, h1, h2, h3⟩ := id k2.1.sl
    obtain ⟨v', A, A', e3, o1, p1, s1⟩ := h1.get e1
    rw [e0] at e3
    cases e3
    cases o1 with
    | fz r =>
      cases r with
      | lst h r =>
        obtain ⟨z, e4, q1⟩ := r.atI e2
        exact .inl ⟨_, _, _, z, rfl, rfl, .inl (.inl (k2.1.sub _ _ h)), e4, q z q1⟩
  · cases r2
    obtain ⟨B, h1, h2, h3⟩ := id k2.1.sl
    obtain ⟨v', A, A', e3, o1, p1, s1⟩ := h1.get e1
    rw [e0] at e3
    cases e3
    cases o1 with
    | fz r =>
      cases r with
      | tup h r =>
        obtain ⟨z, e4, q1⟩ := r.atI e2
        exact .inr (.inl ⟨_, _, _, z, rfl, rfl, sqT_mono k2.1.sub h, e4, q z q1⟩)
  · cases r2
    split at e2
    · rename_i d e5
      cases e2
      obtain ⟨a, vs, B, h1, h2, h3, _⟩ := k2.1.upd0 e1
      rw [e0] at h1
      cases h1
      obtain ⟨j, e6, e7⟩ := atF_get e5
      obtain ⟨z, e8, q1⟩ := h3.getFz e7
      exact .inl ⟨_, _, _, z, rfl, rfl, .inl (.inl h2), atI_of h3.length.symm e6 e8, q z q1⟩
    · cases e2
  · cases e2

/-! ### slices -/
def cutD {α : Type} (xs : List α) (lo hi : Option Int) : List α := (xs.drop (HT.sIx xs.length 0 lo)).take (HT.sIx xs.length xs.length hi - HT.sIx xs.length 0 lo)
theorem RepL.cut {c : Ct} {G : Hp} {ds : List D} {vs : List V} (r : RepL c G ds vs) (lo hi : Option Int) : RepL c G (cutD ds lo hi) (cutV vs lo hi) := by
  unfold cutD cutV
  rw [r.length]
  exact (r.drop _).take _
abbrev ODx (X : Cx) (fd : Option Addr) (W : Wish) (e : Option Expr) (f : M (Option Int)) : Prop := PO X e (tM (ct X fd) W (fun F F' _ _ (d : Option Int) (v : Option Int) => F' = F ∧ v = d) f)
def asI : D → Option Int
  | .int i => some i
  | _ => none
theorem PO.imp {X : Cx} {e : Option Expr} {t t' : TO} (h : PO X e t) (w : ∀ σ H Q, t' σ H Q → t σ H Q) : PO X e t' := ⟨fun pins s σ H Q I k => h.run pins s σ H Q I (w σ H Q k)⟩
theorem od_no : ODx X fd W none (M.ret none) := PO.imp po_none fun σ H Q ⟨F, G, ρ, s, k⟩ => tAt.ret k none H G F (Same.refl G) ⟨rfl, rfl⟩ k.1
theorem od_so (h : PD X fd W a f) : ODx X fd W (some a) (f.bnd fun x => M.lft ((asI x).map some)) := by
  refine PO.imp (po_some h) fun σ H Q ⟨F, G, ρ, s, k⟩ => ⟨F, G, ρ, s, (k.bnd RD_F).mono fun x H1 ⟨d, G1, ρ1, s1, sm1, ⟨_, r1⟩, k1⟩ => ?_⟩
  obtain ⟨w, e, q⟩ := k1.lft
  obtain ⟨i, e2, rfl⟩ := Option.map_eq_some_iff.mp e
  cases r1 <;> simp [asI] at e2
  subst e2
  exact ⟨_, rfl, q _ H1 G1 F (Same.refl _) ⟨rfl, rfl⟩ k1.1⟩
def slM (f : M D) (l h : M (Option Int)) : M OT := f.bnd fun x => l.bnd fun lo => h.bnd fun hi => M.lft (match x with
  | .lst xs => some (.ow ((cutD xs lo hi).map .fz))
  | _ => none)
/-- a new list of plain things, the end of a reading -/
theorem tAt.newL {c : Ct} {F G H : Hp} {ρ : Env} {s : FS} {σ : L2.St} {ds : List D} {Q : VK} (S : Sat c F G H σ ρ s)
    (q : ∀ v H' G' A, Same G G' → Own c G' H' (.ow (ds.map .fz)) v A → A.Nodup → (∀ a ∈ A, F a = none) → Sat c (ovl F H' A) G' H' σ ρ s → Q v H') {p : Addr} {vs : List V} (hp : H p = none) (r : RepL c G ds vs) : Q (.ref p) (upd H p (.lst vs)) := by
  refine q _ _ G [p] (Same.refl G) (.ow upd_same (OwnL.ofRep r)) (by simp) (fun a ha => ?_) (S.newL hp)
  rw [show a = p by simpa using ha]
  exact S.F_none hp
theorem pn_sl {p2 : Pos} {lo hi : Option Expr} {l h : M (Option Int)} (ha : PD X fd W a f) (hl : ODx X fd W lo l) (hh : ODx X fd W hi h) : PN X fd W (.Subscript a (.Slice lo hi none p2) pos) (slM f l h) := by
  refine PE.imp (pe_slice sl_list ha hl hh) fun σ H Q ⟨F, G, ρ, s, k⟩ => ⟨F, G, ρ, s, (k.bnd RD_F).mono fun x H1 ⟨d, G1, ρ1, s1, sm1, ⟨_, r1⟩, k1⟩ => ?_⟩
  refine ⟨F, G1, ρ1, s1, (k1.bnd fun _ _ _ _ _ _ h => h.1).mono fun y H2 ⟨lo', G2, ρ2, s2, sm2, ⟨_, e2⟩, k2⟩ => ?_⟩
  refine ⟨F, G2, ρ2, s2, (k2.bnd fun _ _ _ _ _ _ h => h.1).mono fun z H3 ⟨hi', G3, ρ3, s3, sm3, ⟨_, e3⟩, k3⟩ => ?_⟩
  subst e2 e3
  obtain ⟨t, e, q⟩ := k3.finN
  cases d <;> simp at e
  subst e
  have r1 := r1.mono (sm2.trans sm3)
  cases r1 with
  | lst h r =>
    exact ⟨_, _, rfl, .inl (.inl (k3.1.sub _ _ h)), fun p hp => tAt.newL k3.1 q hp (r.cut _ _)⟩
/-- the plain items of a name's list -/
def fzsT : List OT → Option (List D)
  | [] => some []
  | .fz d :: ts => (fzsT ts).map (d :: ·)
  | _ => none
theorem fzsT_eq : ∀ {ts : List OT} {ds : List D}, fzsT ts = some ds → ts = ds.map .fz
  | [], ds, h => by simp [fzsT] at h; subst h; rfl
  | .fz d :: ts, ds, h => by
    simp only [fzsT] at h
    obtain ⟨es, e, rfl⟩ := Option.map_eq_some_iff.mp h
    rw [fzsT_eq e]; rfl
  | .ow _ :: _, _, h => by simp [fzsT] at h
  | .odk _ :: _, _, h => by simp [fzsT] at h
  | .odt _ :: _, _, h => by simp [fzsT] at h
theorem OwnL.toRep {c : Ct} {G H : Hp} : ∀ {ds : List D} {vs : List V} {B : List Addr}, OwnL c G H (ds.map .fz) vs B → RepL c G ds vs
  | [], _, _, .nil => .nil
  | d :: ds, _, _, .cons (.fz h) r => .cons h (OwnL.toRep r)
def lsT : OT → Option (List D)
  | .fz (.lst ds) => some ds
  | .ow ts => fzsT ts
  | _ => none
theorem Sat.peekL {c : Ct} {F G H : Hp} {σ : L2.St} {ρ : Env} {s : FS} (S : Sat c F G H σ ρ s) {i : Nat} {t : OT} {ds : List D} (e : ρ[i]? = some (some t)) (h : lsT t = some ds) : ∃ a vs, σ[i]? = some (some (.ref a)) ∧ H a = some (.lst vs) ∧ RepL c G ds vs := by
  obtain ⟨B, h1, h2, h3⟩ := id S.sl
  obtain ⟨v, A, A', e1, o1, p1, s1⟩ := h1.get e
  unfold lsT at h
  split at h
  · cases h
    cases o1 with
    | fz r =>
      cases r with
      | lst h r => exact ⟨_, _, e1, S.sub _ _ h, r⟩
  · rename_i ts
    rw [fzsT_eq h] at o1
    cases o1 with
    | ow h r => exact ⟨_, _, e1, h, r.toRep⟩
  · cases h
def nameSl (i : Nat) (l h : M (Option Int)) : M OT := (thr i).bnd fun _ => l.bnd fun lo => h.bnd fun hi => (pkT i).bnd fun t => M.lft ((lsT t).map fun xs => .ow ((cutD xs lo hi).map .fz))
theorem pn_slV (i : Nat) {x : Str} {p p2 : Pos} {lo hi : Option Expr} {l h : M (Option Int)} (ha : PE X (.Name x p) (tVar i)) (hl : ODx X fd W lo l) (hh : ODx X fd W hi h) : PN X fd W (.Subscript (.Name x p) (.Slice lo hi none p2) pos) (nameSl i l h) := by
  refine PE.imp (pe_slice sl_list ha hl hh) fun σ H Q ⟨F, G, ρ, s, k⟩ => ?_
  obtain ⟨⟨v, e0⟩, k1⟩ := thr_at k
  refine ⟨v, e0, F, G, ρ, s, (k1.bnd fun _ _ _ _ _ _ h => h.1).mono fun y H2 ⟨lo', G2, ρ2, s2, sm2, ⟨_, e2⟩, k2⟩ => ?_⟩
  refine ⟨F, G2, ρ2, s2, (k2.bnd fun _ _ _ _ _ _ h => h.1).mono fun z H3 ⟨hi', G3, ρ3, s3, sm3, ⟨_, e3⟩, k3⟩ => ?_⟩
  subst e2 e3
  obtain ⟨t, e1, k3⟩ := pkT_at k3
  obtain ⟨w, e, q⟩ := k3.finN
  obtain ⟨ds, e4, rfl⟩ := Option.map_eq_some_iff.mp e
  obtain ⟨a, vs, e5, h5, r5⟩ := k3.1.peekL e1 e4
  rw [e0] at e5
  cases e5
  exact ⟨_, _, rfl, .inl (.inl h5), fun p hp => tAt.newL k3.1 q hp (r5.cut _ _)⟩
/-- a tuple's slice -/
def slTM (f : M D) (l h : M (Option Int)) : M D := f.bnd fun x => l.bnd fun lo => h.bnd fun hi => M.lft (match x with
  | .tup xs => if HT.sIx xs.length 0 lo = 0 ∧ HT.sIx xs.length xs.length hi = xs.length then none else some (.tup (cutD xs lo hi))
  | _ => none)
theorem pd_slT {p2 : Pos} {lo hi : Option Expr} {l h : M (Option Int)} (ha : PD X fd W a f) (hl : ODx X fd W lo l) (hh : ODx X fd W hi h) : PD X fd W (.Subscript a (.Slice lo hi none p2) pos) (slTM f l h) := by
  refine PE.imp (pe_slice sl_tup ha hl hh) fun σ H Q ⟨F, G, ρ, s, k⟩ => ⟨F, G, ρ, s, (k.bnd RD_F).mono fun x H1 ⟨d, G1, ρ1, s1, sm1, ⟨_, r1⟩, k1⟩ => ?_⟩
  refine ⟨F, G1, ρ1, s1, (k1.bnd fun _ _ _ _ _ _ h => h.1).mono fun y H2 ⟨lo', G2, ρ2, s2, sm2, ⟨_, e2⟩, k2⟩ => ?_⟩
  refine ⟨F, G2, ρ2, s2, (k2.bnd fun _ _ _ _ _ _ h => h.1).mono fun z H3 ⟨hi', G3, ρ3, s3, sm3, ⟨_, e3⟩, k3⟩ => ?_⟩
  subst e2 e3
  obtain ⟨t, e, _, q⟩ := k3.fin
  cases d <;> simp at e
  obtain ⟨e1, rfl⟩ := e
  have r1 := r1.mono (sm2.trans sm3)
  cases r1 with
  | tup h r =>
    refine ⟨_, _, rfl, sqT_mono k3.1.sub h, by rw [← r.length]; exact fun z => e1 z.1 z.2, fun p hp => ?_⟩
    obtain ⟨S2, sm⟩ := (k3.1.new (o := .tup (cutV _ y z)) hp).fz1 (k3.1.F_none hp)
    exact q _ _ _ sm (.tup (.inl (.inl upd_same)) ((r.cut _ _).mono sm)) S2

/-! ### new lists by + and * -/
def catD (d e : D) : Option OT := match d, e with
  | .lst xs, .lst ys => if xs.length + ys.length ≤ lnB then some (.ow ((xs ++ ys).map .fz)) else none
  | _, _ => none
def repD (d e : D) : Option OT := match d, e with
  | .lst xs, .int k => if sm k = true ∧ xs.length * k.toNat ≤ lnB then some (.ow ((List.replicate k.toNat xs).flatten.map .fz)) else none
  | _, _ => none
theorem catD_eq {xs : List D} {e : D} {t : OT} (h : catD (.lst xs) e = some t) : ∃ ys, e = .lst ys ∧ xs.length + ys.length ≤ lnB ∧ t = .ow ((xs ++ ys).map .fz) := by
  cases e <;> simp [catD] at h
  exact ⟨_, rfl, h.1, by rw [← h.2, List.map_append]⟩
theorem catD_eq' {d e : D} {t : OT} (h : catD d e = some t) : ∃ xs, d = .lst xs := by
  cases d <;> first | exact ⟨_, rfl⟩ | (simp [catD] at h; done)
theorem pn_cat (ha : PD X fd W a f) (hb : PD X fd W b g) : PN X fd W (.BinOp a .Add b pos) (f.bnd fun x => g.bnd fun y => M.lft (catD x y)) := by
  refine PE.imp (pe_op op_cat ha hb) fun σ H Q ⟨F, G, ρ, s, k⟩ => ⟨F, G, ρ, s, (k.bnd RD_F).mono fun x H1 ⟨d, G1, ρ1, s1, sm1, ⟨_, r1⟩, k1⟩ => ?_⟩
  refine ⟨F, G1, ρ1, s1, (k1.bnd RD_F).mono fun y H2 ⟨e, G2, ρ2, s2, sm2, ⟨_, r2⟩, k2⟩ => ?_⟩
  obtain ⟨t, e1, q⟩ := k2.finN
  obtain ⟨xs, rfl⟩ := catD_eq' e1
  obtain ⟨ys, rfl, hl, rfl⟩ := catD_eq e1
  have r1 := r1.mono sm2
  cases r1 with
  | lst h1 r3 =>
    cases r2 with
    | lst h2 r4 =>
      exact ⟨_, _, _, _, rfl, rfl, k2.1.sub _ _ h1, k2.1.sub _ _ h2, by rw [← r3.length, ← r4.length]; exact lnB_le hl, fun p hp => tAt.newL k2.1 q hp (r3.append r4)⟩
/-- .. the first a name that is looked at, the second any -/
def nameCat (i : Nat) (g : M D) : M OT := (thr i).bnd fun _ => g.bnd fun y => (pkT i).bnd fun t => M.lft ((lsT t).bind fun xs => catD (.lst xs) y)
theorem pn_catV (i : Nat) {x : Str} {p : Pos} (ha : PE X (.Name x p) (tVar i)) (hb : PD X fd W b g) : PN X fd W (.BinOp (.Name x p) .Add b pos) (nameCat i g) := by
  refine PE.imp (pe_op op_cat ha hb) fun σ H Q ⟨F, G, ρ, s, k⟩ => ?_
  obtain ⟨⟨v, e0⟩, k1⟩ := thr_at k
  refine ⟨v, e0, F, G, ρ, s, (k1.bnd RD_F).mono fun y H2 ⟨e, G2, ρ2, s2, sm2, ⟨_, r2⟩, k2⟩ => ?_⟩
  obtain ⟨t, e1, k2⟩ := pkT_at k2
  obtain ⟨w, e3, q⟩ := k2.finN
  obtain ⟨ds, e4, e3⟩ := Option.bind_eq_some_iff.mp e3
  obtain ⟨a, vs, e5, h5, r5⟩ := k2.1.peekL e1 e4
  rw [e0] at e5
  cases e5
  obtain ⟨ys, rfl, hl, rfl⟩ := catD_eq e3
  cases r2 with
  | lst h2 r4 =>
    exact ⟨_, _, _, _, rfl, rfl, h5, k2.1.sub _ _ h2, by rw [← r5.length, ← r4.length]; exact lnB_le hl, fun p hp => tAt.newL k2.1 q hp (r5.append r4)⟩
theorem repD_eq {d e : D} {t : OT} (h : repD d e = some t) : ∃ xs k, d = .lst xs ∧ e = .int k ∧ (sm k = true ∧ xs.length * k.toNat ≤ lnB) ∧ t = .ow ((List.replicate k.toNat xs).flatten.map .fz) := by
  unfold repD at h
  split at h
  · split at h
    · exact ⟨_, _, rfl, rfl, ‹_›, (Option.some.inj h).symm⟩
    · cases h
  · cases h
theorem pn_rep (ha : PD X fd W a f) (hb : PD X fd W b g) : PN X fd W (.BinOp a .Mult b pos) (f.bnd fun x => g.bnd fun y => M.lft (repD x y)) := by
  refine PE.imp (pe_op op_rep ha hb) fun σ H Q ⟨F, G, ρ, s, k⟩ => ⟨F, G, ρ, s, (k.bnd RD_F).mono fun x H1 ⟨d, G1, ρ1, s1, sm1, ⟨_, r1⟩, k1⟩ => ?_⟩
  refine ⟨F, G1, ρ1, s1, (k1.bnd RD_F).mono fun y H2 ⟨e, G2, ρ2, s2, sm2, ⟨_, r2⟩, k2⟩ => ?_⟩
  obtain ⟨t, e1, q⟩ := k2.finN
  obtain ⟨xs, kk, rfl, rfl, hl, rfl⟩ := repD_eq e1
  cases r2
  have r1 := r1.mono sm2
  cases r1 with
  | lst h1 r3 =>
    exact ⟨_, _, _, rfl, rfl, k2.1.sub _ _ h1, by have := sm_lt hl.1; omega, by have := sm_lt hl.1; omega, by rw [← r3.length]; exact lnB_le hl.2, fun p hp => tAt.newL k2.1 q hp (r3.rep _)⟩

/-! ### built-ins -/
/-- a built-in's call that lays nothing and gives a flat thing -/
def SCall (X : Cx) (fd : Option Addr) (v : Value) (h : List D → Option D) : Prop :=
  (∀ ds w, h ds = some w → scalD w = true) ∧ ∃ r : List V → Hp → VK → Prop, CallR X v r ∧ ∀ (H : Hp) (ds : List D) (w : D) (vs : List V) (Q : VK), RepL (ct X fd) H ds vs → h ds = some w → (∀ z, Rep (ct X fd) H w z → Q z H) → r vs H Q
def scM (g : M (List D)) (h : List D → Option D) : M D := g.bnd fun ds => M.lft (h ds)
theorem pd_scB {id : String} {x : Str} {p : Pos} {h : List D → Option D} {g : M (List D)} (hc : SCall X fd (.builtin id) h) (hg : Gl X x) (hm : X.mg x = none) (hv : bootBuiltins x = some (.builtin id)) (ha : AH X fd W (e :: es) g)
    (hn : x ≠ "__name__" := by decide) (hdb : (x == ("__debug__" : Str)) = false := by decide) (he : starEach (e :: es) X.env = (false, eval e X.env) :: starEach es X.env := by rfl) (hpl : (backTo pos (starEach es X.env)).any (·.1) = false := by rfl) :
    PD X fd W (.Call (.Name x p) (e :: es) [] pos) (scM g h) := by
  obtain ⟨sc, r, o, hr⟩ := hc
  refine PE.imp (pe_callB o hg hm hv ha hn hdb he hpl) fun σ H Q ⟨F, G, ρ, s, k⟩ => ⟨F, G, ρ, s, (tAt.bnd k RHL_F).mono fun xs H1 ⟨ds, G1, ρ1, s1, sm1, ⟨_, r1⟩, k1⟩ => ?_⟩
  obtain ⟨w, e1, q, _⟩ := k1.fin
  exact hr H1 ds w xs Q r1 e1 fun z rz => q z (rz.scal (sc _ _ e1))
theorem pd_scT {T : String} {x : Str} {p : Pos} {h : List D → Option D} {g : M (List D)} (hc : SCall X fd (.type T) h) (hg : Gl X x) (hm : X.mg x = none) (hv : bootBuiltins x = some (.type T)) (ha : AH X fd W (e :: es) g)
    (hn : x ≠ "__name__" := by decide) (hdb : (x == ("__debug__" : Str)) = false := by decide) (he : starEach (e :: es) X.env = (false, eval e X.env) :: starEach es X.env := by rfl) (hpl : (backTo pos (starEach es X.env)).any (·.1) = false := by rfl) :
    PD X fd W (.Call (.Name x p) (e :: es) [] pos) (scM g h) := by
  obtain ⟨sc, r, o, hr⟩ := hc
  refine PE.imp (pe_callTy o hg hm hv ha hn hdb he hpl) fun σ H Q ⟨F, G, ρ, s, k⟩ => ⟨F, G, ρ, s, (tAt.bnd k RHL_F).mono fun xs H1 ⟨ds, G1, ρ1, s1, sm1, ⟨_, r1⟩, k1⟩ => ?_⟩
  obtain ⟨w, e1, q, _⟩ := k1.fin
  exact hr H1 ds w xs Q r1 e1 fun z rz => q z (rz.scal (sc _ _ e1))
def lenD : List D → Option D
  | [.lst xs] => some (.int xs.length)
  | [.tup xs] => some (.int xs.length)
  | _ => none
theorem sc_len : SCall X fd (.builtin "len") lenD := by
  refine ⟨fun ds w h => ?_, _, call_len_seq, fun H ds w vs Q r h q => ?_⟩
  · unfold lenD at h; split at h <;> cases h <;> rfl
  · unfold lenD at h
    split at h
    · cases h
      cases r with
      | cons r rr =>
        cases rr
        cases r with
        | lst h r => exact ⟨_, _, rfl, .inl (.inl (.inl h)), by rw [← r.length]; exact q _ (.int _)⟩
    · cases h
      cases r with
      | cons r rr =>
        cases rr
        cases r with
        | tup h r => exact ⟨_, _, rfl, .inr h, by rw [← r.length]; exact q _ (.int _)⟩
    · cases h
def absD : List D → Option D
  | [.int i] => some (.int (if i < 0 then -i else i))
  | _ => none
theorem sc_abs : SCall X fd (.builtin "abs") absD := by
  refine ⟨fun ds w h => ?_, _, call_abs, fun H ds w vs Q r h q => ?_⟩
  · unfold absD at h; split at h <;> cases h; rfl
  · unfold absD at h
    split at h
    · cases h
      cases r with
      | cons r rr => cases rr; cases r; exact ⟨_, rfl, q _ (.int _)⟩
    · cases h
def intD : List D → Option D
  | [.int i] => some (.int i)
  | [.bl k] => some (.int (if k then 1 else 0))
  | _ => none
theorem sc_int : SCall X fd (.type "int") intD := by
  refine ⟨fun ds w h => ?_, _, call_int1, fun H ds w vs Q r h q => ?_⟩
  · unfold intD at h; split at h <;> cases h <;> rfl
  · unfold intD at h
    split at h
    · cases h
      cases r with
      | cons r rr => cases rr; cases r; exact .inl ⟨_, rfl, q _ (.int _)⟩
    · cases h
      cases r with
      | cons r rr => cases rr; cases r; exact .inr ⟨_, rfl, q _ (.int _)⟩
    · cases h
def max2D : List D → Option D
  | [.int i, .int j] => some (.int (if j > i then j else i))
  | _ => none
theorem sc_max2 (hc : X.calm = true) : SCall X fd (.builtin "max") max2D := by
  refine ⟨fun ds w h => ?_, _, call_max2 hc, fun H ds w vs Q r h q => ?_⟩
  · unfold max2D at h; split at h <;> cases h; rfl
  · unfold max2D at h
    split at h
    · cases h
      cases r with
      | cons r rr =>
        cases rr with
        | cons r' rr => cases rr; cases r; cases r'; exact ⟨_, _, rfl, q _ (.int _)⟩
    · cases h
def min2D : List D → Option D
  | [.int i, .int j] => some (.int (if j < i then j else i))
  | _ => none
theorem sc_min2 (hc : X.calm = true) : SCall X fd (.builtin "min") min2D := by
  refine ⟨fun ds w h => ?_, _, call_min2 hc, fun H ds w vs Q r h q => ?_⟩
  · unfold min2D at h; split at h <;> cases h; rfl
  · unfold min2D at h
    split at h
    · cases h
      cases r with
      | cons r rr =>
        cases rr with
        | cons r' rr => cases rr; cases r; cases r'; exact ⟨_, _, rfl, q _ (.int _)⟩
    · cases h
def intsD : List D → Option (List Int)
  | [] => some []
  | .int i :: ds => (intsD ds).map (i :: ·)
  | _ => none
theorem intsD_eq : ∀ {ds : List D} {ns : List Int}, intsD ds = some ns → ds = ns.map .int
  | [], ns, h => by simp [intsD] at h; subst h; rfl
  | .int i :: ds, ns, h => by
    simp only [intsD] at h
    obtain ⟨es, e, rfl⟩ := Option.map_eq_some_iff.mp h
    rw [intsD_eq e]; rfl
  | .non :: _, _, h => by simp [intsD] at h
  | .bl _ :: _, _, h => by simp [intsD] at h
  | .str _ :: _, _, h => by simp [intsD] at h
  | .lst _ :: _, _, h => by simp [intsD] at h
  | .tup _ :: _, _, h => by simp [intsD] at h
  | .dk _ :: _, _, h => by simp [intsD] at h
  | .dt _ :: _, _, h => by simp [intsD] at h
  | .feed :: _, _, h => by simp [intsD] at h
theorem intsD_map (ns : List Int) : intsD (ns.map .int) = some ns := by induction ns with
  | nil => rfl
  | cons n ns ih => simp [intsD, ih]
def blsD : List D → Option (List Bool)
  | [] => some []
  | .bl i :: ds => (blsD ds).map (i :: ·)
  | _ => none
theorem blsD_eq : ∀ {ds : List D} {ns : List Bool}, blsD ds = some ns → ds = ns.map .bl
  | [], ns, h => by simp [blsD] at h; subst h; rfl
  | .bl i :: ds, ns, h => by
    simp only [blsD] at h
    obtain ⟨es, e, rfl⟩ := Option.map_eq_some_iff.mp h
    rw [blsD_eq e]; rfl
  | .non :: _, _, h => by simp [blsD] at h
  | .int _ :: _, _, h => by simp [blsD] at h
  | .str _ :: _, _, h => by simp [blsD] at h
  | .lst _ :: _, _, h => by simp [blsD] at h
  | .tup _ :: _, _, h => by simp [blsD] at h
  | .dk _ :: _, _, h => by simp [blsD] at h
  | .dt _ :: _, _, h => by simp [blsD] at h
  | .feed :: _, _, h => by simp [blsD] at h
theorem blsD_map (ns : List Bool) : blsD (ns.map .bl) = some ns := by induction ns with
  | nil => rfl
  | cons n ns ih => simp [blsD, ih]
def onInts (f : List Int → Option Int) : List D → Option D
  | [.lst xs] => ((intsD xs).bind f).map .int
  | _ => none
def sumD := onInts fun ns => some ns.sum
theorem on_ints {c : Ct} {H : Hp} {f : List Int → Option Int} {ds : List D} {w : D} {vs : List V} (r : RepL c H ds vs) (h : onInts f ds = some w) : ∃ a ns n, vs = [.ref a] ∧ H a = some (.lst (ns.map V.int)) ∧ f ns = some n ∧ w = .int n := by
  unfold onInts at h
  split at h
  · obtain ⟨n, e, rfl⟩ := Option.map_eq_some_iff.mp h
    obtain ⟨ns, e1, e2⟩ := Option.bind_eq_some_iff.mp e
    have := intsD_eq e1
    subst this
    cases r with
    | cons r rr =>
      cases rr
      cases r with
      | lst h r =>
        rw [r.ints] at h
        exact ⟨_, ns, n, rfl, h, e2, rfl⟩
  · cases h
theorem onInts_sc {f : List Int → Option Int} : ∀ ds w, onInts f ds = some w → scalD w = true := fun ds w h => by
  unfold onInts at h
  split at h
  · obtain ⟨n, e, rfl⟩ := Option.map_eq_some_iff.mp h; rfl
  · cases h
theorem sc_sum (hc : X.calm = true) : SCall X fd (.builtin "sum") sumD := by
  refine ⟨onInts_sc, _, cr_sum hc, fun H ds w vs Q r h q => ?_⟩
  obtain ⟨a, ns, n, rfl, h1, h2, rfl⟩ := on_ints r h
  cases h2
  exact ⟨a, ns, rfl, .inl (.inl h1), q _ (.int _)⟩
def maxL : List Int → Option Int
  | [] => none
  | n :: ns => some (ns.foldl max n)
def minL : List Int → Option Int
  | [] => none
  | n :: ns => some (ns.foldl min n)
theorem foldl_max (ns : List Int) : ∀ n : Int, (ns.foldl max n ∈ n :: ns) ∧ ∀ y ∈ n :: ns, y ≤ ns.foldl max n := by
  induction ns with
  | nil => intro n; simp
  | cons m ns ih =>
    intro n
    rw [List.foldl_cons]
    obtain ⟨h1, h2⟩ := ih (max n m)
    refine ⟨?_, fun y hy => ?_⟩
    · rcases List.mem_cons.mp h1 with e | e
      · by_cases hm : n ≤ m
        · have : max n m = m := by omega
          rw [this] at e ⊢; rw [e]; simp
        · have : max n m = n := by omega
          rw [this] at e ⊢; rw [e]; simp
      · simp [e]
    · have h3 := h2 (max n m) (by simp)
      rcases List.mem_cons.mp hy with e | hy
      · omega
      · rcases List.mem_cons.mp hy with e | hy
        · omega
        · exact h2 y (by simp [hy])
theorem foldl_min (ns : List Int) : ∀ n : Int, (ns.foldl min n ∈ n :: ns) ∧ ∀ y ∈ n :: ns, ns.foldl min n ≤ y := by
  induction ns with
  | nil => intro n; simp
  | cons m ns ih =>
    intro n
    rw [List.foldl_cons]
    obtain ⟨h1, h2⟩ := ih (min n m)
    refine ⟨?_, fun y hy => ?_⟩
    · rcases List.mem_cons.mp h1 with e | e
      · by_cases hm : n ≤ m
        · have : min n m = n := by omega
          rw [this] at e ⊢; rw [e]; simp
        · have : min n m = m := by omega
          rw [this] at e ⊢; rw [e]; simp
      · simp [e]
    · have h3 := h2 (min n m) (by simp)
      rcases List.mem_cons.mp hy with e | hy
      · omega
      · rcases List.mem_cons.mp hy with e | hy
        · omega
        · exact h2 y (by simp [hy])
def maxD := onInts maxL
def minD := onInts minL
theorem sc_max (hc : X.calm = true) : SCall X fd (.builtin "max") maxD := by
  refine ⟨onInts_sc, _, cr_max hc, fun H ds w vs Q r h q => ?_⟩
  obtain ⟨a, ns, n, rfl, h1, h2, rfl⟩ := on_ints r h
  cases ns with
  | nil => cases h2
  | cons m ns =>
    cases h2
    refine ⟨a, m :: ns, rfl, .inl (.inl h1), by simp, fun k hk hb => ?_⟩
    have := foldl_max ns m
    have e : k = ns.foldl max m := by
      have h3 := hb _ this.1
      have h4 := this.2 _ hk
      omega
    rw [e]; exact q _ (.int _)
theorem sc_min (hc : X.calm = true) : SCall X fd (.builtin "min") minD := by
  refine ⟨onInts_sc, _, cr_min hc, fun H ds w vs Q r h q => ?_⟩
  obtain ⟨a, ns, n, rfl, h1, h2, rfl⟩ := on_ints r h
  cases ns with
  | nil => cases h2
  | cons m ns =>
    cases h2
    refine ⟨a, m :: ns, rfl, .inl (.inl h1), by simp, fun k hk hb => ?_⟩
    have := foldl_min ns m
    have e : k = ns.foldl min m := by
      have h3 := hb _ this.1
      have h4 := this.2 _ hk
      omega
    rw [e]; exact q _ (.int _)
def onBls (f : List Bool → Bool) : List D → Option D
  | [.lst xs] => (blsD xs).map fun bs => .bl (f bs)
  | _ => none
def anyD := onBls fun bs => bs.any id
def allD := onBls fun bs => bs.all id
theorem sc_all (hc : X.calm = true) : SCall X fd (.builtin "all") allD := by
  refine ⟨fun ds w h => ?_, _, cr_all hc, fun H ds w vs Q r h q => ?_⟩
  · unfold allD onBls at h
    split at h
    · obtain ⟨n, e, rfl⟩ := Option.map_eq_some_iff.mp h; rfl
    · cases h
  · unfold allD onBls at h
    split at h
    · obtain ⟨bs, e, rfl⟩ := Option.map_eq_some_iff.mp h
      have := blsD_eq e
      subst this
      cases r with
      | cons r rr =>
        cases rr
        cases r with
        | lst h r =>
          rw [r.bls] at h
          exact ⟨_, bs, rfl, .inl (.inl h), q _ (.bl _)⟩
    · cases h
theorem sc_any (hc : X.calm = true) : SCall X fd (.builtin "any") anyD := by
  refine ⟨fun ds w h => ?_, _, cr_any hc, fun H ds w vs Q r h q => ?_⟩
  · unfold anyD onBls at h
    split at h
    · obtain ⟨n, e, rfl⟩ := Option.map_eq_some_iff.mp h; rfl
    · cases h
  · unfold anyD onBls at h
    split at h
    · obtain ⟨bs, e, rfl⟩ := Option.map_eq_some_iff.mp h
      have := blsD_eq e
      subst this
      cases r with
      | cons r rr =>
        cases rr
        cases r with
        | lst h r =>
          rw [r.bls] at h
          exact ⟨_, bs, rfl, .inl (.inl h), q _ (.bl _)⟩
    · cases h
/-- isinstance(e, T) -/
def tyN : D → Option String
  | .non => some "NoneType"
  | .bl _ => some "bool"
  | .int _ => some "int"
  | .str _ => some "str"
  | .lst _ => some "list"
  | .tup _ => some "tuple"
  | .dk _ => some "dict"
  | .dt _ => some "dict"
  | .feed => none
def isiD (T : String) (d : D) : Option D := (tyN d).map fun n => .bl (n == T || (n == "bool" && T == "int"))
theorem tyx {c : Ct} {H : Hp} {d : D} {v : V} {n : String} (r : Rep c H d v) (h : tyN d = some n) : TyX c.K H v (.type n) := by
  cases r with
  | non => cases h; exact .base .non
  | bl b => cases h; exact .base (.bl b)
  | int i => cases h; exact .base (.int i)
  | str i => cases h; exact .base (.str i)
  | lst h' r => cases h; exact .base (.lst h')
  | tup h' r =>
    cases h
    rcases h' with (h' | ⟨o, h'⟩) | ⟨o, its, n, h1, h2, _⟩
    · exact .base (.tup h')
    · exact .fTuple h'
    · exact .kTuple h1 h2
  | dk h' _ _ => cases h; exact .base (.dK h')
  | dt h' _ _ => cases h; exact .base (.dT h')
  | feed h' => cases h
end
end DL

set_option Elab.async false
set_option linter.all false
set_option maxRecDepth 100000
namespace DL
open PySem PySem.Spec PyProof.Rows L2

section
variable {X : Cx} {fd : Option Addr} {W : Wish} {a b e : Expr} {es : List Expr} {pos : Pos} {f g : M D}
/-! ### isinstance -/
def isB (n T : String) : Bool := n == T || (n == "bool" && T == "int")
def kit7 (T : String) : Bool := ["NoneType", "bool", "int", "str", "list", "tuple", "dict"].all fun n => kitB n T == some (isB n T)
def isiB (T : String) (d : D) : Option D := (tyN d).map fun n => .bl (isB n T)
theorem kit7_at {T : String} (h : kit7 T = true) {d : D} {n : String} (e : tyN d = some n) : kitB n T = some (isB n T) := by
  have hm : n ∈ ["NoneType", "bool", "int", "str", "list", "tuple", "dict"] := by cases d <;> simp [tyN] at e <;> subst e <;> simp
  exact eq_of_beq (List.all_eq_true.mp h n hm)
theorem k7_int : kit7 "int" = true := by decide +kernel
theorem k7_bool : kit7 "bool" = true := by decide +kernel
theorem k7_list : kit7 "list" = true := by decide +kernel
theorem k7_tuple : kit7 "tuple" = true := by decide +kernel
theorem k7_str : kit7 "str" = true := by decide +kernel
theorem pd_isi {T : Str} {T' : String} {p q : Pos} (hT : kit7 T' = true) (hg : Gl X "isinstance") (hm : X.mg "isinstance" = none) (h : PD X fd W a f) (hgT : Gl X T) (hmT : X.mg T = none) (hvT : bootBuiltins T = some (.type T')) (hn : T ≠ "__name__" := by decide) (hd : (T == ("__debug__" : Str)) = false := by decide)
    (hs : starEach (a :: [.Name T q]) X.env = (false, eval a X.env) :: starEach [.Name T q] X.env := by rfl) (hs2 : starEach [.Name T q] X.env = (false, eval (.Name T q) X.env) :: starEach [] X.env := by rfl) (hpl : (backTo pos (starEach [.Name T q] X.env)).any (·.1) = false := by rfl) :
    PD X fd W (.Call (.Name "isinstance" p) [a, .Name T q] [] pos) (f.bnd fun x => M.lft (isiB T' x)) := by
  refine PE.imp (pe_callB call_isi hg hm (by decide +kernel) (pa_cons h (pa_cons (pe_bltn (v := .ty T') hgT hmT hvT rfl hn hd) pa_nil hs2) hs) (by decide) (by decide) hs hpl) fun σ H Q ⟨F, G, ρ, s, k⟩ => ⟨F, G, ρ, s, (k.bnd RD_F).mono fun x H1 ⟨d, G1, ρ1, s1, sm1, ⟨_, r1⟩, k1⟩ => ?_⟩
  obtain ⟨w, e, q, _⟩ := k1.fin
  obtain ⟨n, e2, rfl⟩ := Option.map_eq_some_iff.mp e
  exact ⟨x, .ty T', .type n, .type T', _, rfl, .ty T', tyx (r1.mono k1.1.sub) e2, kit_ty (kit7_at hT e2), q _ (.bl _)⟩

/-! ### list(range(..)), list(xs), tuple(xs), sorted(xs) -/
def rgD (a b : Int) : List Int := (List.range (b - a).toNat).map fun i => a + (i : Nat)
theorem rgV_eq (a b : Int) : rgV a b = (rgD a b).map V.int := by unfold rgV rgD; rw [List.map_map]; rfl
def okRg (a b : Int) : Bool := sm a && sm b && Nat.ble (b - a).toNat 1000000
theorem okRg_ok {a b : Int} (h : okRg a b = true) : RgOk a b := by
  unfold okRg at h
  simp only [Bool.and_eq_true] at h
  have h1 := sm_lt h.1.1
  have h2 := sm_lt h.1.2
  have h3 := Nat.le_of_ble_eq_true h.2
  exact ⟨by omega, by omega, by omega, by omega, by omega⟩
def lstRg (a b : Int) : Option OT := if okRg a b then some (.ow ((rgD a b).map fun n => .fz (.int n))) else none
def lrM1 (f : M D) : M OT := f.bnd fun x => M.lft ((asI x).bind fun n => lstRg 0 n)
def lrM2 (f g : M D) : M OT := f.bnd fun x => g.bnd fun y => M.lft ((asI x).bind fun n => (asI y).bind fun m => lstRg n m)
theorem lstRg_eq {a b : Int} {t : OT} (h : lstRg a b = some t) : RgOk a b ∧ t = .ow (((rgD a b).map D.int).map .fz) := by
  unfold lstRg at h
  split at h
  · rename_i c; exact ⟨okRg_ok c, by rw [← Option.some.inj h, List.map_map]; rfl⟩
  · cases h
theorem asI_rep {c : Ct} {G : Hp} {d : D} {x : V} {i : Int} (r : Rep c G d x) (h : asI d = some i) : x = .int i := by cases r <;> simp [asI] at h; rw [h]
theorem pn_listRg1 {p q pos' : Pos} (hc : X.calm = true) (hg : Gl X "list") (hm : X.mg "list" = none) (hg2 : Gl X "range") (hm2 : X.mg "range" = none) (h : PD X fd W a f)
    (na : starEach [a] X.env = (false, eval a X.env) :: starEach [] X.env := by rfl) (na2 : starEach [.Call (.Name "range" q) [a] [] pos'] X.env = (false, eval (.Call (.Name "range" q) [a] [] pos') X.env) :: starEach [] X.env := by rfl) :
    PN X fd W (.Call (.Name "list" p) [.Call (.Name "range" q) [a] [] pos'] [] pos) (lrM1 f) := by
  refine PE.imp (pe_listRg hc hg hm (prg_1 hg2 hm2 h na) na2) fun σ H Q ⟨F, G, ρ, s, k⟩ => ⟨F, G, ρ, s, (k.bnd RD_F).mono fun x H1 ⟨d, G1, ρ1, s1, sm1, ⟨_, r1⟩, k1⟩ => ?_⟩
  obtain ⟨t, e, q⟩ := k1.finN
  obtain ⟨n, e1, e2⟩ := Option.bind_eq_some_iff.mp e
  obtain ⟨ok, rfl⟩ := lstRg_eq e2
  obtain rfl := asI_rep r1 e1
  exact ⟨n, rfl, ok, fun p hp => by rw [rgV_eq]; exact tAt.newL k1.1 q hp (.ofInts _)⟩
theorem pn_listRg2 {p q pos' : Pos} (hc : X.calm = true) (hg : Gl X "list") (hm : X.mg "list" = none) (hg2 : Gl X "range") (hm2 : X.mg "range" = none) (h : PD X fd W a f) (h' : PD X fd W b g)
    (na : starEach [a, b] X.env = (false, eval a X.env) :: starEach [b] X.env := by rfl) (nb : starEach [b] X.env = (false, eval b X.env) :: starEach [] X.env := by rfl) (hp : (backTo pos' (starEach [b] X.env)).any (·.1) = false := by rfl)
    (na2 : starEach [.Call (.Name "range" q) [a, b] [] pos'] X.env = (false, eval (.Call (.Name "range" q) [a, b] [] pos') X.env) :: starEach [] X.env := by rfl) :
    PN X fd W (.Call (.Name "list" p) [.Call (.Name "range" q) [a, b] [] pos'] [] pos) (lrM2 f g) := by
  refine PE.imp (pe_listRg hc hg hm (prg_2 hg2 hm2 h h' na nb hp) na2) fun σ H Q ⟨F, G, ρ, s, k⟩ => ⟨F, G, ρ, s, (k.bnd RD_F).mono fun x H1 ⟨d, G1, ρ1, s1, sm1, ⟨_, r1⟩, k1⟩ => ?_⟩
  refine ⟨F, G1, ρ1, s1, (k1.bnd RD_F).mono fun y H2 ⟨e, G2, ρ2, s2, sm2, ⟨_, r2⟩, k2⟩ => ?_⟩
  obtain ⟨t, e, q⟩ := k2.finN
  obtain ⟨n, e1, e2⟩ := Option.bind_eq_some_iff.mp e
  obtain ⟨m, e3, e2⟩ := Option.bind_eq_some_iff.mp e2
  obtain ⟨ok, rfl⟩ := lstRg_eq e2
  obtain rfl := asI_rep r1 e1
  obtain rfl := asI_rep r2 e3
  exact ⟨n, m, rfl, rfl, ok, fun p hp => by rw [rgV_eq]; exact tAt.newL k2.1 q hp (.ofInts _)⟩
/-- a name (looked at) or a plain thing as a list or tuple of plain items -/
def itsD : D → Option (List D)
  | .lst ds => some ds
  | .tup ds => some ds
  | _ => none
def RLs (c : Ct) : RT (List D) V := fun F F' G' H' ds v => F' = F ∧ ∃ a vs, v = .ref a ∧ (H' a = some (.lst vs) ∨ SqT c.K G' a vs) ∧ RepL c G' ds vs
def LD (X : Cx) (fd : Option Addr) (W : Wish) (e : Expr) (f : M (List D)) : Prop := PE X e (tM (ct X fd) W (RLs (ct X fd)) f)
theorem RLs_F {c : Ct} : ∀ F F' G' H' a v, RLs c F F' G' H' a v → F' = F := fun _ _ _ _ _ _ h => h.1
theorem bnd_lft {α β α' : Type} {c : Ct} {R : RT α β} {F G H : Hp} {ρ : Env} {s : FS} {σ : L2.St} {f : M α'} {o : α' → Option α} {Q : β → Hp → Prop} (h : tAt c W R F G ρ s (f.bnd fun x => M.lft (o x)) σ H Q) :
    Sat c F G H σ ρ s ∧ match f ρ s with
      | .bad => False
      | .ok a ρ' s' => ∃ w, o a = some w ∧ ∀ v H' G' F', Same G G' → R F F' G' H' w v → Sat c F' G' H' σ ρ' s' → Q v H'
      | .ex e s' => W.w e s' F G := by
  refine ⟨h.1, ?_⟩
  have h2 := h.2
  unfold M.bnd M.lft at h2
  cases hf : f ρ s with
  | bad => simp only [hf] at h2
  | ex e s' => simp only [hf] at h2; exact h2
  | ok a ρ' s' =>
    simp only [hf] at h2
    cases ho : o a with
    | none => simp only [ho] at h2
    | some w => simp only [ho] at h2; exact ⟨w, ho, h2⟩
theorem ld_of (h : PD X fd W a f) : LD X fd W a (f.bnd fun x => M.lft (itsD x)) := by
  refine PE.imp h fun σ H Q ⟨F, G, ρ, s, k⟩ => ⟨F, G, ρ, s, ?_⟩
  obtain ⟨S, k⟩ := bnd_lft k
  refine ⟨S, ?_⟩
  cases hf : f ρ s with
  | bad => simp only [hf] at k
  | ex e s' => simp only [hf] at k; exact k
  | ok a ρ' s' =>
    simp only [hf] at k
    obtain ⟨w, e, k⟩ := k
    rintro v H' G' F' sm ⟨rfl, r⟩ S'
    refine k v H' G' F' sm ⟨rfl, ?_⟩ S'
    cases r <;> simp [itsD] at e
    · subst e; exact ⟨_, _, rfl, .inl (S'.sub _ _ ‹_›), ‹_›⟩
    · subst e; exact ⟨_, _, rfl, .inr ‹_›, ‹_›⟩
def itsT : OT → Option (List D)
  | .fz (.lst ds) => some ds
  | .fz (.tup ds) => some ds
  | .ow ts => fzsT ts
  | _ => none
theorem Sat.peekI {c : Ct} {F G H : Hp} {σ : L2.St} {ρ : Env} {s : FS} (S : Sat c F G H σ ρ s) {i : Nat} {t : OT} {ds : List D} (e : ρ[i]? = some (some t)) (h : itsT t = some ds) : ∃ a vs, σ[i]? = some (some (.ref a)) ∧ (H a = some (.lst vs) ∨ SqT c.K G a vs) ∧ RepL c G ds vs := by
  obtain ⟨B, h1, h2, h3⟩ := id S.sl
  obtain ⟨v, A, A', e1, o1, p1, s1⟩ := h1.get e
  unfold itsT at h
  split at h
  · cases h
    cases o1 with
    | fz r =>
      cases r with
      | lst h r => exact ⟨_, _, e1, .inl (S.sub _ _ h), r⟩
  · cases h
    cases o1 with
    | fz r =>
      cases r with
      | tup h r => exact ⟨_, _, e1, .inr h, r⟩
  · rename_i ts
    rw [fzsT_eq h] at o1
    cases o1 with
    | ow h r => exact ⟨_, _, e1, .inl h, r.toRep⟩
  · cases h
def pkI (i : Nat) : M (List D) := fun ρ s => match ρ[i]? with
  | some (some t) => match itsT t with
    | some ds => .ok ds ρ s
    | none => .bad
  | _ => .bad
theorem ld_var (i : Nat) {x : Str} {pos : Pos} (h : PE X (.Name x pos) (tVar i)) : LD X fd W (.Name x pos) (pkI i) := by
  refine PE.imp h fun σ H Q ⟨F, G, ρ, s, S, k⟩ => ?_
  unfold pkI at k
  rcases e : ρ[i]? with _ | _ | t
  · simp only [e] at k
  · simp only [e] at k
  · simp only [e] at k
    cases e2 : itsT t with
    | none => simp only [e2] at k
    | some ds =>
      simp only [e2] at k
      obtain ⟨a, vs, e1, h1, r1⟩ := S.peekI e e2
      exact ⟨_, e1, k _ H G F (Same.refl G) ⟨rfl, a, vs, rfl, h1, r1⟩ S⟩
def lstM (f : M (List D)) : M OT := f.mp fun ds => .ow (ds.map .fz)
theorem pn_list {g : M (List D)} {p : Pos} (hg : Gl X "list") (hm : X.mg "list" = none) (h : LD X fd W a g) (hs : starEach [a] X.env = (false, eval a X.env) :: starEach [] X.env := by rfl) : PN X fd W (.Call (.Name "list" p) [a] [] pos) (lstM g) := by
  refine PE.imp (pe_callTy call_list_of hg hm (by decide +kernel) (pa_cons h pa_nil hs) (by decide) (by decide) hs rfl) fun σ H Q ⟨F, G, ρ, s, S, k⟩ => ⟨F, G, ρ, s, S, ?_⟩
  unfold lstM M.mp at k
  cases hf : g ρ s with
  | bad => simp only [hf] at k
  | ex e s' => simp only [hf] at k; exact k
  | ok ds ρ' s' =>
    simp only [hf] at k
    rintro v H' G' F' sm ⟨rfl, a, vs, rfl, h1, r⟩ S'
    refine ⟨a, vs, rfl, ?_, fun p hp => ?_⟩
    · rcases h1 with h1 | h1
      · exact .inl (.inl (.inl h1))
      · exact .inr (sqT_mono S'.sub h1)
    · exact tAt.newL (Q := Q) S' (fun v H2 G2 A sm2 o nd hF S2 => k v H2 G2 _ (sm.trans sm2) ⟨A, rfl, o, nd, hF⟩ S2) hp r
/-- tuple(xs) -/
theorem pd_tuple {g : M (List D)} {p : Pos} (hg : Gl X "tuple") (hm : X.mg "tuple" = none) (h : LD X fd W a g) (hs : starEach [a] X.env = (false, eval a X.env) :: starEach [] X.env := by rfl) : PD X fd W (.Call (.Name "tuple" p) [a] [] pos) (g.mp .tup) := by
  refine PE.imp (pe_callTy call_tuple_of hg hm (by decide +kernel) (pa_cons h pa_nil hs) (by decide) (by decide) hs rfl) fun σ H Q ⟨F, G, ρ, s, S, k⟩ => ⟨F, G, ρ, s, S, ?_⟩
  unfold M.mp at k
  cases hf : g ρ s with
  | bad => simp only [hf] at k
  | ex e s' => simp only [hf] at k; exact k
  | ok ds ρ' s' =>
    simp only [hf] at k
    rintro v H' G' F' sm ⟨rfl, a, vs, rfl, h1, r⟩ S'
    refine ⟨a, vs, rfl, ?_⟩
    rcases h1 with h1 | h1
    · refine .inl ⟨.inl (.inl h1), fun p hp => ?_⟩
      obtain ⟨S2, sm2⟩ := (S'.new (o := .tup vs) hp).fz1 (S'.F_none hp)
      exact k _ _ _ _ (sm.trans sm2) ⟨rfl, .tup (.inl (.inl upd_same)) (r.mono sm2)⟩ S2
    · exact .inr ⟨sqT_mono S'.sub h1, k _ _ _ _ sm ⟨rfl, .tup h1 r⟩ S'⟩
/-- sorted(xs) of ints -/
def insI (x : Int) : List Int → List Int
  | [] => [x]
  | y :: ys => if x ≤ y then x :: y :: ys else y :: insI x ys
def srtI : List Int → List Int
  | [] => []
  | x :: xs => insI x (srtI xs)
theorem insI_perm (x : Int) : ∀ ys : List Int, (insI x ys).Perm (x :: ys)
  | [] => .refl _
  | y :: ys => by
    unfold insI
    split
    · exact .refl _
    · exact ((insI_perm x ys).cons y).trans (.swap x y ys)
theorem srtI_perm : ∀ xs : List Int, (srtI xs).Perm xs
  | [] => .refl _
  | x :: xs => (insI_perm x (srtI xs)).trans ((srtI_perm xs).cons x)
theorem insI_sorted (x : Int) : ∀ {ys : List Int}, ys.Pairwise (· ≤ ·) → (insI x ys).Pairwise (· ≤ ·)
  | [], _ => by simp [insI]
  | y :: ys, h => by
    rw [List.pairwise_cons] at h
    unfold insI
    split
    · rename_i c
      rw [List.pairwise_cons, List.pairwise_cons]
      refine ⟨fun z hz => ?_, h⟩
      rcases List.mem_cons.mp hz with e | hz
      · omega
      · have := h.1 z hz; omega
    · rename_i c
      rw [List.pairwise_cons]
      refine ⟨fun z hz => ?_, insI_sorted x h.2⟩
      rcases List.mem_cons.mp ((insI_perm x ys).mem_iff.mp hz) with e | hz
      · omega
      · exact h.1 z hz
theorem srtI_sorted : ∀ xs : List Int, (srtI xs).Pairwise (· ≤ ·)
  | [] => .nil
  | x :: xs => insI_sorted x (srtI_sorted xs)
theorem sorted_uniq : ∀ {xs ys : List Int}, xs.Perm ys → xs.Pairwise (· ≤ ·) → ys.Pairwise (· ≤ ·) → xs = ys
  | [], ys, p, _, _ => (List.Perm.nil_eq p)
  | x :: xs, [], p, _, _ => by have := p.length_eq; simp at this
  | x :: xs, y :: ys, p, h1, h2 => by
    rw [List.pairwise_cons] at h1 h2
    have e : x = y := by
      have m1 : x ∈ y :: ys := p.mem_iff.mp (by simp)
      have m2 : y ∈ x :: xs := p.mem_iff.mpr (by simp)
      rcases List.mem_cons.mp m1 with e | m1
      · exact e
      · rcases List.mem_cons.mp m2 with e | m2
        · exact e.symm
        · have := h2.1 x m1
          have := h1.1 y m2
          omega
    subst e
    rw [sorted_uniq ((List.perm_cons x).mp p) h1.2 h2.2]
def srtM (g : M (List D)) : M OT := g.bnd fun ds => M.lft ((intsD ds).map fun ns => .ow ((srtI ns).map fun n => .fz (.int n)))
theorem pn_sorted {g : M (List D)} {p : Pos} (hg : Gl X "sorted") (hm : X.mg "sorted" = none) (h : HD X fd W a f) (hs : starEach [a] X.env = (false, eval a X.env) :: starEach [] X.env := by rfl) :
    PN X fd W (.Call (.Name "sorted" p) [a] [] pos) (f.bnd fun x => M.lft (match x with
      | .lst ds => (intsD ds).map fun ns => .ow ((srtI ns).map fun n => .fz (.int n))
      | _ => none)) := by
  refine PE.imp (pe_callB cr_sortedI hg hm (by decide +kernel) (pa_cons h pa_nil hs) (by decide) (by decide) hs rfl) fun σ H Q ⟨F, G, ρ, s, k⟩ => ⟨F, G, ρ, s, (k.bnd RH_F).mono fun x H1 ⟨d, G1, ρ1, s1, sm1, ⟨_, r1⟩, k1⟩ => ?_⟩
  obtain ⟨t, e, q⟩ := k1.finN
  cases d <;> simp at e
  obtain ⟨ns, e1, rfl⟩ := e
  have := intsD_eq e1
  subst this
  cases r1 with
  | lst h1 r =>
    rw [r.ints] at h1
    refine ⟨_, ns, rfl, .inl (.inl h1), fun ns' p pm sr hp => ?_⟩
    rw [sorted_uniq (pm.trans (srtI_perm ns).symm) sr (srtI_sorted ns)]
    have q' : ∀ v H' G' A, Same G1 G' → Own (ct X fd) G' H' (.ow (((srtI ns).map D.int).map .fz)) v A → A.Nodup → (∀ a ∈ A, F a = none) → Sat (ct X fd) (ovl F H' A) G' H' σ ρ1 s1 → Q v H' := by
      rw [List.map_map]; exact q
    exact tAt.newL k1.1 q' hp (.ofInts _)

/-! ### methods of lists -/
/-- the name i holds an own list -/
def thrL (i : Nat) : M Unit := fun ρ s => match ρ[i]? with
  | some (some (.ow _)) => .ok () ρ s
  | _ => .bad
theorem thrL_at {α β : Type} {c : Ct} {R : RT α β} {F G H : Hp} {ρ : Env} {s : FS} {σ : L2.St} {i : Nat} {g : M α} {Q : β → Hp → Prop} (h : tAt c W R F G ρ s ((thrL i).bnd fun _ => g) σ H Q) :
    (∃ a vs, σ[i]? = some (some (.ref a)) ∧ H a = some (.lst vs)) ∧ tAt c W R F G ρ s g σ H Q := by
  have h2 := h.2
  unfold M.bnd thrL at h2
  rcases e1 : ρ[i]? with _ | _ | t
  · simp only [e1] at h2
  · simp only [e1] at h2
  · cases t with
    | ow ts =>
      simp only [e1] at h2
      obtain ⟨a, vs, B, h3, h4, _⟩ := h.1.upd0 e1
      exact ⟨⟨a, vs, h3, h4⟩, h.1, h2⟩
    | _ => simp only [e1] at h2
def setO (i : Nat) (k : List OT → Option (D × List OT)) : M D := fun ρ s => match ρ[i]? with
  | some (some (.ow ts)) => match k ts with
    | some (d, ts') => .ok d (ρ.set i (some (.ow ts'))) s
    | none => .bad
  | _ => .bad
theorem setO_at {β : Type} {c : Ct} {R : RT D β} {F F0 G H : Hp} {ρ : Env} {s : FS} {σ : L2.St} {i : Nat} {k : List OT → Option (D × List OT)} {Q : β → Hp → Prop} (h : tAt c W (fun _ => R F0) F G ρ s (setO i k) σ H Q) :
    ∃ ts d ts', ρ[i]? = some (some (.ow ts)) ∧ k ts = some (d, ts') ∧ ∀ v H' G' F', Same G G' → R F0 F' G' H' d v → Sat c F' G' H' σ (ρ.set i (some (.ow ts'))) s → Q v H' := by
  have h2 := h.2
  unfold setO at h2
  rcases e1 : ρ[i]? with _ | _ | t
  · simp only [e1] at h2
  · simp only [e1] at h2
  · cases t with
    | ow ts =>
      simp only [e1] at h2
      cases e2 : k ts with
      | none => simp only [e2] at h2
      | some p =>
        obtain ⟨d, ts'⟩ := p
        simp only [e2] at h2
        exact ⟨ts, d, ts', rfl, e2, h2⟩
    | _ => simp only [e1] at h2
def apM (i : Nat) (g : M (List OT)) : M D := (thrL i).bnd fun _ => g.bnd fun xs => setO i fun ts => match xs with
  | [t] => if ts.length < lnB then some (.non, ts ++ [t]) else none
  | _ => none
theorem pd_append (i : Nat) {x : Str} {p apos : Pos} {g : M (List OT)} (ho : PE X (.Name x p) (tVar i)) (ha : AN X fd W [e] g) (hbase : attributeBase (.Name x p) "append" X.env (eval (.Name x p) X.env) = eval (.Name x p) X.env := by rfl)
    (hfew : ((backTo pos (starEach [e] X.env)).all (fun x => !x.1) && (backToKw pos (keywordEach [] X.env)).all (fun x => x.1.isSome)
      && decide ([e].length + ([] : List Keyword).length + (if ([] : List Keyword).isEmpty then 0 else 1) < 30)) = true := by rfl)
    (hline : (apos.endLine == pos.line) = true := by rfl) (hs : starEach (e :: []) X.env = (false, eval e X.env) :: starEach [] X.env := by rfl) (hplain : (backTo pos (starEach [] X.env)).any (·.1) = false := by rfl) :
    PD X fd W (.Call (.Attribute (.Name x p) "append" apos) [e] [] pos) (apM i g) := by
  refine PE.imp (pe_bm PySem.F.plainAttrs_list PySem.F.slot_list_append PySem.F.type_list_append mt_append ho ha hbase hfew hline hs hplain) fun σ H Q ⟨F, G, ρ, s, k⟩ => ?_
  obtain ⟨⟨a, vs, e0, h0⟩, k⟩ := thrL_at k
  refine ⟨_, e0, .inl ⟨rfl, vs, .inl (.inl h0)⟩, F, G, ρ, s, (tAt.bndO k fun _ _ _ _ _ r _ => ROL_sub r).mono fun xs H1 ⟨ts, F1, G1, ρ1, s1, sm1, ⟨A, hF1, o1, n1, f1⟩, k1⟩ => ?_⟩
  subst hF1
  obtain ⟨us, d, us', e1, e2, q⟩ := setO_at k1
  split at e2
  · rename_i t
    split at e2
    · rename_i hl
      cases e2
      cases o1 with
      | cons o1 o2 =>
        cases o2
        obtain ⟨a', vs', B, e3, h3, r3, n3, n4, n5, u3⟩ := k1.1.upd1 f1 (fun a ha => o1.there a (by simpa using ha)) e1
        rw [e0] at e3
        cases e3
        refine ⟨a, vs', _, rfl, rfl, h3, by rw [← r3.length]; exact lnB_lt hl, ?_⟩
        have S2 := u3 _ _ _ (r3.append (.cons o1 .nil)) (List.nodup_append.mpr ⟨n4, n1, fun b hb c hc z => n5 b (by simp [hb]) (z ▸ hc)⟩) (fun b hb => by simpa using hb)
        exact q _ _ G1 F (Same.refl _) ⟨rfl, .non⟩ S2
    · cases e2
  · cases e2
theorem OwnL.erase {c : Ct} {G H : Hp} : ∀ {ts : List OT} {vs : List V} {B : List Addr}, OwnL c G H ts vs B → ∀ {j : Nat} {d : D}, ts[j]? = some (.fz d) → OwnL c G H (ts.eraseIdx j) (vs.eraseIdx j) B
  | _, _, _, .nil, _, _, e => by simp at e
  | _, _, _, .cons h r, 0, _, e => by
    simp at e
    subst e
    cases h
    simpa using r
  | _, _, _, .cons h r, j + 1, _, e => by
    have := OwnL.erase r (j := j) (by simpa using e)
    simpa using OwnL.cons h this
def popK (e : D) (ts : List OT) : Option (D × List OT) := match e with
  | .int k => if sm k = true then (ixN ts.length k).bind fun j => match ts[j]? with
    | some (.fz d) => some (d, ts.eraseIdx j)
    | _ => none
    else none
  | _ => none
def popM (i : Nat) (g : M D) : M D := (thrL i).bnd fun _ => g.bnd fun x => setO i (popK x)
theorem pd_popAt (i : Nat) {x : Str} {p apos : Pos} (ho : PE X (.Name x p) (tVar i)) (ha : PD X fd W e g) (hbase : attributeBase (.Name x p) "pop" X.env (eval (.Name x p) X.env) = eval (.Name x p) X.env := by rfl)
    (hfew : ((backTo pos (starEach [e] X.env)).all (fun x => !x.1) && (backToKw pos (keywordEach [] X.env)).all (fun x => x.1.isSome)
      && decide ([e].length + ([] : List Keyword).length + (if ([] : List Keyword).isEmpty then 0 else 1) < 30)) = true := by rfl)
    (hline : (apos.endLine == pos.line) = true := by rfl) (hs : starEach (e :: []) X.env = (false, eval e X.env) :: starEach [] X.env := by rfl) (hplain : (backTo pos (starEach [] X.env)).any (·.1) = false := by rfl) :
    PD X fd W (.Call (.Attribute (.Name x p) "pop" apos) [e] [] pos) (popM i g) := by
  refine PE.imp (pe_bm PySem.F.plainAttrs_list PySem.F.slot_list_pop PySem.F.type_list_pop mt_popAt ho (pa_cons ha pa_nil hs) hbase hfew hline hs hplain) fun σ H Q ⟨F, G, ρ, s, k⟩ => ?_
  obtain ⟨⟨a, vs, e0, h0⟩, k⟩ := thrL_at k
  refine ⟨_, e0, .inl ⟨rfl, vs, .inl (.inl h0)⟩, F, G, ρ, s, (tAt.bnd k RD_F).mono fun x H1 ⟨dx, G1, ρ1, s1, sm1, ⟨_, r1⟩, k1⟩ => ?_⟩
  obtain ⟨us, d, us', e1, e2, q⟩ := setO_at (F0 := F) (R := RD (ct X fd)) (by
    have : tAt (ct X fd) W (fun _ => RD (ct X fd) F) F G1 ρ1 s1 (setO i (popK dx)) σ H1 Q := ⟨k1.1, k1.2⟩
    exact this)
  unfold popK at e2
  split at e2
  · split at e2
    · rename_i kk hk
      obtain ⟨j, e4, e5⟩ := Option.bind_eq_some_iff.mp e2
      split at e5
      · rename_i d' e6
        cases e5
        cases r1
        obtain ⟨a', vs', B, e3, h3, r3, n3, n4, u3⟩ := k1.1.upd0 e1
        rw [e0] at e3
        cases e3
        obtain ⟨v, e7, r7⟩ := r3.getFz e6
        rw [r3.length] at e4
        refine ⟨a, vs', kk, j, v, rfl, rfl, h3, by have := sm_lt hk; omega, by have := sm_lt hk; omega, (ixN_seq e4).1, e7, ?_⟩
        have S2 := u3 _ _ B (r3.erase e6) n4 (fun b hb => hb)
        exact q _ _ G1 F (Same.refl _) ⟨rfl, r7⟩ S2
      · cases e5
    · cases e2
  · cases e2
def popLM (i : Nat) : M D := (thrL i).bnd fun _ => setO i fun ts => match ts[ts.length - 1]? with
  | some (.fz d) => some (d, ts.dropLast)
  | _ => none
theorem OwnL.dropLast {c : Ct} {G H : Hp} : ∀ {ts : List OT} {vs : List V} {B : List Addr}, OwnL c G H ts vs B → ∀ {d : D}, ts[ts.length - 1]? = some (.fz d) → OwnL c G H ts.dropLast vs.dropLast B
  | _, _, _, .nil, _, e => by simp at e
  | _, _, _, .cons h .nil, _, e => by
    simp at e
    subst e
    cases h
    exact .nil
  | _, _, _, .cons h (.cons h2 r), _, e => by
    have := OwnL.dropLast (.cons h2 r) (by simpa using e)
    exact .cons h this
theorem pd_pop (i : Nat) {x : Str} {p apos : Pos} (ho : PE X (.Name x p) (tVar i)) (hbase : attributeBase (.Name x p) "pop" X.env (eval (.Name x p) X.env) = eval (.Name x p) X.env := by rfl) (hline : (apos.endLine == pos.line) = true := by rfl) :
    PD X fd W (.Call (.Attribute (.Name x p) "pop" apos) [] [] pos) (popLM i) := by
  refine PE.imp (pe_bm0 PySem.F.plainAttrs_list PySem.F.slot_list_pop PySem.F.type_list_pop mt_pop ho hbase hline) fun σ H Q ⟨F, G, ρ, s, k⟩ => ?_
  obtain ⟨⟨a, vs, e0, h0⟩, k⟩ := thrL_at k
  refine ⟨_, e0, .inl ⟨rfl, vs, .inl (.inl h0)⟩, ?_⟩
  obtain ⟨us, d, us', e1, e2, q⟩ := setO_at (F0 := F) (R := RD (ct X fd)) (show tAt (ct X fd) W (fun _ => RD (ct X fd) F) F G ρ s (setO i _) σ H Q from ⟨k.1, k.2⟩)
  split at e2
  · rename_i d' e6
    cases e2
    obtain ⟨a', vs', B, e3, h3, r3, n3, n4, u3⟩ := k.1.upd0 e1
    rw [e0] at e3
    cases e3
    obtain ⟨v, e7, r7⟩ := r3.getFz e6
    rw [r3.length] at e7
    refine ⟨a, vs', v, rfl, rfl, h3, e7, ?_⟩
    exact q _ _ G F (Same.refl _) ⟨rfl, r7⟩ (u3 _ _ B (r3.dropLast e6) n4 (fun b hb => hb))
  · cases e2
def exM (i : Nat) (g : M D) : M D := (thrL i).bnd fun _ => g.bnd fun x => setO i fun ts => match x with
  | .lst ds => if ts.length + ds.length ≤ lnB then some (.non, ts ++ ds.map .fz) else none
  | _ => none
theorem pd_extend (i : Nat) {x : Str} {p apos : Pos} (ho : PE X (.Name x p) (tVar i)) (ha : PD X fd W e g) (hbase : attributeBase (.Name x p) "extend" X.env (eval (.Name x p) X.env) = eval (.Name x p) X.env := by rfl)
    (hfew : ((backTo pos (starEach [e] X.env)).all (fun x => !x.1) && (backToKw pos (keywordEach [] X.env)).all (fun x => x.1.isSome)
      && decide ([e].length + ([] : List Keyword).length + (if ([] : List Keyword).isEmpty then 0 else 1) < 30)) = true := by rfl)
    (hline : (apos.endLine == pos.line) = true := by rfl) (hs : starEach (e :: []) X.env = (false, eval e X.env) :: starEach [] X.env := by rfl) (hplain : (backTo pos (starEach [] X.env)).any (·.1) = false := by rfl) :
    PD X fd W (.Call (.Attribute (.Name x p) "extend" apos) [e] [] pos) (exM i g) := by
  refine PE.imp (pe_bm PySem.F.plainAttrs_list PySem.F.slot_list_extend PySem.F.type_list_extend mt_extend ho (pa_cons ha pa_nil hs) hbase hfew hline hs hplain) fun σ H Q ⟨F, G, ρ, s, k⟩ => ?_
  obtain ⟨⟨a, vs, e0, h0⟩, k⟩ := thrL_at k
  refine ⟨_, e0, .inl ⟨rfl, vs, .inl (.inl h0)⟩, F, G, ρ, s, (tAt.bnd k RD_F).mono fun x H1 ⟨dx, G1, ρ1, s1, sm1, ⟨_, r1⟩, k1⟩ => ?_⟩
  obtain ⟨us, d, us', e1, e2, q⟩ := setO_at (F0 := F) (R := RD (ct X fd)) (show tAt (ct X fd) W (fun _ => RD (ct X fd) F) F G1 ρ1 s1 (setO i _) σ H1 Q from ⟨k1.1, k1.2⟩)
  cases dx <;> simp only at e2 <;> try (cases e2; done)
  split at e2
  · rename_i hl
    cases e2
    obtain ⟨a', vs', B, e3, h3, r3, n3, n4, u3⟩ := k1.1.upd0 e1
    rw [e0] at e3
    cases e3
    cases r1 with
    | lst h5 r5 =>
      refine ⟨a, _, vs', _, rfl, rfl, h3, k1.1.sub _ _ h5, by rw [← r3.length, ← r5.length]; exact lnB_le hl, ?_⟩
      refine q _ _ G1 F (Same.refl _) ⟨rfl, .non⟩ (u3 _ _ (B ++ []) (r3.append (OwnL.ofRep r5)) (by simpa using n4) (fun b hb => by simpa using hb))
  · cases e2
/-- x.index(e) -/
def fndD (xs : List D) (d : D) : Option Nat := xs.findIdx? fun z => z.eqv d
def indD (x d : D) : Option D := match x with
  | .lst xs => if d.shp 60 && D.shp (.lst xs) 60 then (fndD xs d).map fun j => .int (j : Nat) else none
  | _ => none
theorem pyL_get : ∀ {xs : List D} {m : Nat} {z : PyData}, (D.pyL xs)[m]? = some z → ∃ d, xs[m]? = some d ∧ z = d.py
  | [], m, z, h => by simp [D.pyL] at h
  | x :: xs, 0, z, h => by simp [D.pyL] at h; exact ⟨x, rfl, h.symm⟩
  | x :: xs, m + 1, z, h => by
    obtain ⟨d, e1, e2⟩ := pyL_get (xs := xs) (m := m) (z := z) (by simpa [D.pyL] using h)
    exact ⟨d, by simpa using e1, e2⟩
theorem pyL_at : ∀ {xs : List D} {m : Nat} {d : D}, xs[m]? = some d → (D.pyL xs)[m]? = some d.py
  | [], m, z, h => by simp at h
  | x :: xs, 0, z, h => by simp at h; subst h; simp [D.pyL]
  | x :: xs, m + 1, z, h => by
    have := pyL_at (xs := xs) (m := m) (d := z) (by simpa using h)
    simpa [D.pyL] using this
theorem shpL_at {n : Nat} : ∀ {xs : List D} {m : Nat} {d : D}, D.shpL xs n = true → xs[m]? = some d → d.shp n = true
  | [], m, z, _, h => by simp at h
  | x :: xs, 0, z, q, h => by
    simp at h; subst h
    simp only [D.shpL, Bool.and_eq_true] at q
    exact q.1
  | x :: xs, m + 1, z, q, h => by
    simp only [D.shpL, Bool.and_eq_true] at q
    exact shpL_at q.2 (by simpa using h)
theorem indD_ok {c : Ct} {H : Hp} {x d w : D} {v y : V} {Q : VK} (r1 : Rep c H x v) (r2 : Rep c H d y) (h : indD x d = some w) (q : ∀ z, Rep c H w z → Q z H) : rIndexD c.K v [y] H Q := by
  unfold indD at h
  split at h
  · rename_i xs
    split at h
    · rename_i sh
      simp only [Bool.and_eq_true] at sh
      obtain ⟨j, e1, rfl⟩ := Option.map_eq_some_iff.mp h
      have e2 := List.findIdx?_eq_some_iff_getElem.mp e1
      obtain ⟨hj, p1, p2⟩ := e2
      have sx := shaped_of sh.2
      have dx := r1.dp _ sh.2
      rw [D.py] at sx dx
      have shx : D.shpL xs 59 = true := by simpa [D.shp] using sh.2
      cases r1 with
      | lst h1 r =>
        refine ⟨_, y, d.py, D.pyL xs, j, (xs[j]).py, rfl, rfl, dx, r2.dp _ sh.1, sx, shaped_of sh.1, pyL_at (List.getElem?_eq_getElem hj), ?_, fun m z' hm e => ?_, q _ (.int _)⟩
        · rw [eqv_py _ _ 59 60 (shpL_at shx (List.getElem?_eq_getElem hj)) sh.1]; exact p1
        · obtain ⟨d', e3, rfl⟩ := pyL_get e
          rw [eqv_py _ _ 59 60 (shpL_at shx e3) sh.1]
          have := p2 m hm
          rw [List.getElem?_eq_getElem (by omega)] at e3
          have e3 := Option.some.inj e3
          rw [e3] at this
          simpa using this
    · cases h
  · cases h
theorem indD_sc {x d w : D} (h : indD x d = some w) : scalD w = true := by
  unfold indD at h
  split at h
  · split at h
    · obtain ⟨j, e1, rfl⟩ := Option.map_eq_some_iff.mp h; rfl
    · cases h
  · cases h
theorem lst_of_indD {x d w : D} (h : indD x d = some w) : ∃ xs, x = .lst xs := by
  cases x <;> first | exact ⟨_, rfl⟩ | (simp [indD] at h; done)
def isLst : D → Option Unit
  | .lst _ => some ()
  | _ => none
def indM (f g : M D) : M D := f.bnd fun x => (M.lft (isLst x)).bnd fun _ => g.bnd fun y => M.lft (indD x y)
theorem pd_index {p apos : Pos} (hu : X.A.units + 65 < cLine) (ho : PD X fd W a f) (ha : HD X fd W e g) (hbase : attributeBase a "index" X.env (eval a X.env) = eval a X.env := by rfl)
    (hfew : ((backTo pos (starEach [e] X.env)).all (fun x => !x.1) && (backToKw pos (keywordEach [] X.env)).all (fun x => x.1.isSome)
      && decide ([e].length + ([] : List Keyword).length + (if ([] : List Keyword).isEmpty then 0 else 1) < 30)) = true := by rfl)
    (hline : (apos.endLine == pos.line) = true := by rfl) (hs : starEach (e :: []) X.env = (false, eval e X.env) :: starEach [] X.env := by rfl) (hplain : (backTo pos (starEach [] X.env)).any (·.1) = false := by rfl) :
    PD X fd W (.Call (.Attribute a "index" apos) [e] [] pos) (indM f g) := by
  refine PE.imp (pe_bm PySem.F.plainAttrs_list PySem.F.slot_list_index PySem.F.type_list_index (mt_indexD hu) ho (pa_cons ha pa_nil hs) hbase hfew hline hs hplain) fun σ H Q ⟨F, G, ρ, s, k⟩ => ⟨F, G, ρ, s, (tAt.bnd k RD_F).mono fun x H1 ⟨dx, G1, ρ1, s1, sm1, ⟨_, r1⟩, k1⟩ => ?_⟩
  obtain ⟨_, ex, k1⟩ := lft_bnd k1
  refine ⟨?_, F, G1, ρ1, s1, (k1.bnd RH_F).mono fun y H2 ⟨dy, G2, ρ2, s2, sm2, ⟨_, r2⟩, k2⟩ => ?_⟩
  · cases r1 <;> simp [isLst] at ex
    exact .inl ⟨rfl, _, .inl (.inl (k1.1.sub _ _ ‹_›))⟩
  · obtain ⟨w, e1, q, _⟩ := k2.fin
    exact indD_ok (r1.mono (sm2.trans k2.1.sub)) r2 e1 fun z rz => q z (rz.scal (indD_sc e1))
def thrS (i : Nat) : M Unit := fun ρ s => match ρ[i]? with
  | some (some (.ow _)) => .ok () ρ s
  | some (some (.fz (.lst _))) => .ok () ρ s
  | _ => .bad
theorem thrS_at {α β : Type} {c : Ct} {R : RT α β} {F G H : Hp} {ρ : Env} {s : FS} {σ : L2.St} {i : Nat} {g : M α} {Q : β → Hp → Prop} (h : tAt c W R F G ρ s ((thrS i).bnd fun _ => g) σ H Q) :
    (∃ a vs, σ[i]? = some (some (.ref a)) ∧ H a = some (.lst vs)) ∧ tAt c W R F G ρ s g σ H Q := by
  have h2 := h.2
  unfold M.bnd thrS at h2
  rcases e1 : ρ[i]? with _ | _ | t
  · simp only [e1] at h2
  · simp only [e1] at h2
  · cases t with
    | ow ts =>
      simp only [e1] at h2
      obtain ⟨a, vs, B, h3, h4, _⟩ := h.1.upd0 e1
      exact ⟨⟨a, vs, h3, h4⟩, h.1, h2⟩
    | fz d =>
      cases d with
      | lst ds =>
        simp only [e1] at h2
        obtain ⟨a, vs, h3, h4, _⟩ := h.1.peekL e1 (show lsT (.fz (.lst ds)) = some ds from rfl)
        exact ⟨⟨a, vs, h3, h4⟩, h.1, h2⟩
      | _ => simp only [e1] at h2
    | _ => simp only [e1] at h2
def nameInd (i : Nat) (g : M D) : M D := (thrS i).bnd fun _ => g.bnd fun y => (pk i).bnd fun x => M.lft (indD x y)
theorem pk_at {α β : Type} {c : Ct} {R : RT α β} {F G H : Hp} {ρ : Env} {s : FS} {σ : L2.St} {i : Nat} {g : D → M α} {Q : β → Hp → Prop} (h : tAt c W R F G ρ s ((pk i).bnd g) σ H Q) :
    ∃ d v, σ[i]? = some (some v) ∧ Rep c H d v ∧ tAt c W R F G ρ s (g d) σ H Q := by
  have h2 := h.2
  unfold M.bnd pk at h2
  rcases e1 : ρ[i]? with _ | _ | t
  · simp only [e1] at h2
  · simp only [e1] at h2
  · simp only [e1] at h2
    obtain ⟨v, e2, r⟩ := h.1.peek e1
    exact ⟨_, v, e2, r, h.1, h2⟩
theorem pd_indexV (i : Nat) {x : Str} {p apos : Pos} (hu : X.A.units + 65 < cLine) (ho : PE X (.Name x p) (tVar i)) (ha : HD X fd W e g) (hbase : attributeBase (.Name x p) "index" X.env (eval (.Name x p) X.env) = eval (.Name x p) X.env := by rfl)
    (hfew : ((backTo pos (starEach [e] X.env)).all (fun x => !x.1) && (backToKw pos (keywordEach [] X.env)).all (fun x => x.1.isSome)
      && decide ([e].length + ([] : List Keyword).length + (if ([] : List Keyword).isEmpty then 0 else 1) < 30)) = true := by rfl)
    (hline : (apos.endLine == pos.line) = true := by rfl) (hs : starEach (e :: []) X.env = (false, eval e X.env) :: starEach [] X.env := by rfl) (hplain : (backTo pos (starEach [] X.env)).any (·.1) = false := by rfl) :
    PD X fd W (.Call (.Attribute (.Name x p) "index" apos) [e] [] pos) (nameInd i g) := by
  refine PE.imp (pe_bm PySem.F.plainAttrs_list PySem.F.slot_list_index PySem.F.type_list_index (mt_indexD hu) ho (pa_cons ha pa_nil hs) hbase hfew hline hs hplain) fun σ H Q ⟨F, G, ρ, s, k⟩ => ?_
  obtain ⟨⟨a, vs, e0, h0⟩, k⟩ := thrS_at k
  refine ⟨_, e0, .inl ⟨rfl, vs, .inl (.inl h0)⟩, F, G, ρ, s, (k.bnd RH_F).mono fun y H2 ⟨dy, G2, ρ2, s2, sm2, ⟨_, r2⟩, k2⟩ => ?_⟩
  obtain ⟨d, v, e1, r1, k2⟩ := pk_at k2
  rw [e0] at e1
  cases e1
  obtain ⟨w, e1, q, _⟩ := k2.fin
  exact indD_ok r1 r2 e1 fun z rz => q z (rz.scal (indD_sc e1))
end
end DL

set_option Elab.async false
set_option linter.all false
set_option maxRecDepth 100000
namespace DL
open PySem PySem.Spec PyProof.Rows L2

/-! ### what is walked -/
structure ItOk (c : Ct) (J : It) (G : Hp) (ds : List D) : Prop where
  go : ∀ i H, i < ds.length → Same G H → J.go i H
  stop : ∀ H, Same G H → J.stop ds.length H
  yld : ∀ i H x H' d, ds[i]? = some d → Same G H → J.yld i H x H' →
    (H' = H ∧ Rep c G d x) ∨ ∃ T xs es, x = .ref T ∧ H T = none ∧ H' = upd H T (.tup xs) ∧ d = .tup es ∧ RepL c G es xs
theorem ItOk.turn {c : Ct} {J : It} {G0 F G H H' : Hp} {ds : List D} {σ : L2.St} {ρ : Env} {s : FS} {i : Nat} {x : V} {d : D} (h : ItOk c J G0 ds) (S : Sat c F G H σ ρ s) (sm : Same G0 G) (e : ds[i]? = some d) (y : J.yld i H x H') :
    ∃ G1, Same G G1 ∧ Sat c F G1 H' σ ρ s ∧ Rep c G1 d x := by
  rcases h.yld i H x H' d e (sm.trans S.sub) y with ⟨rfl, r⟩ | ⟨T, xs, es, rfl, hT, rfl, rfl, r⟩
  · exact ⟨G, Same.refl G, S, r.mono sm⟩
  · obtain ⟨S2, sm2⟩ := (S.new (o := .tup xs) hT).fz1 (S.F_none hT)
    exact ⟨_, sm2, S2, .tup (.inl (.inl upd_same)) (r.mono (sm.trans sm2))⟩
def RI (c : Ct) : RT (List D) It := fun F F' G' _ ds J => F' = F ∧ ItOk c J G' ds
theorem RI_F {c : Ct} : ∀ F F' G' H' a v, RI c F F' G' H' a v → F' = F := fun _ _ _ _ _ _ h => h.1
def ID (X : Cx) (fd : Option Addr) (W : Wish) (tg e : Expr) (f : M (List D)) : Prop := PI X tg e (tM (ct X fd) W (RI (ct X fd)) f)
theorem lst_inj {K : PySem.W.Frag} {H : Hp} {a : Addr} {vs : List V} (h : H a = some (.lst vs)) : SqL K H a vs := .inl (.inl h)

section
variable {X : Cx} {fd : Option Addr} {W : Wish} {a b e tg : Expr} {es : List Expr} {pos : Pos} {f g : M D}
/-- a list or a tuple, by what it is -/
theorem pi_seq {l : Expr} {tl : TE} (hl : PE X l tl) : PI X tg l (fun σ H R => tl σ H fun x H1 => ∃ a, x = .ref a ∧ (((∃ xs, SqL X.K H1 a xs) ∧ R (Itl X.K a) H1) ∨ ((∃ xs, SqT X.K H1 a xs) ∧ R (Itt X.K a) H1))) := by
  refine ⟨fun pins s σ H R I h => ?_⟩
  refine thn (hl.run pins s σ H _ I h) fun v s1 ⟨x, H1, I1, r1, q1⟩ => ?_
  obtain ⟨a, e, q1⟩ := q1
  subst e
  cases r1
  rcases q1 with ⟨⟨xs, hq⟩, q⟩ | ⟨⟨xs, hq⟩, q⟩
  · obtain ⟨its, rv, p, hz⟩ := I1.list hq
    refine wpAny_pyIter_list p.isList ?_
    refine ⟨s1.heap.objs.size, [s1.heap.objs.size], _, _, H1, rfl, I1.kept (t' := s1.toks) fun b o e => Heap.get?_push_of_some _ e, turn_list a _, ⟨_, Heap.get?_push_size _ rfl, rfl, rfl⟩, fun b hb => ?_, q⟩
    have e : b = s1.heap.objs.size := by simpa using hb
    subst e
    exact I1.fpOk (Nat.le_refl _) (I1.hok.fresh (Nat.le_refl _))
  · obtain ⟨its, rv, p, hz⟩ := I1.tuple hq
    refine wpAny_pyIter_tuple (show s1.heap.IsTuple a its.toArray from p) ?_
    refine ⟨s1.heap.objs.size, [s1.heap.objs.size], _, _, H1, rfl, I1.kept (t' := s1.toks) fun b o e => Heap.get?_push_of_some _ e, turn_tuple a _, ⟨_, Heap.get?_push_size _ rfl, rfl, rfl⟩, fun b hb => ?_, q⟩
    have e : b = s1.heap.objs.size := by simpa using hb
    subst e
    exact I1.fpOk (Nat.le_refl _) (I1.hok.fresh (Nat.le_refl _))
theorem itl_ok {c : Ct} {G : Hp} {p : Addr} {ds : List D} {vs : List V} (h : G p = some (.lst vs)) (r : RepL c G ds vs) : ItOk c (Itl c.K p) G ds := by
  refine ⟨fun i H hi sm => ?_, fun H sm => ⟨vs, lst_inj (sm _ _ h), by rw [r.length]; exact Nat.le_refl _⟩, fun i H x H' d e sm y => ?_⟩
  · have hi' : i < vs.length := by rw [← r.length]; exact hi
    exact ⟨vs, vs[i], lst_inj (sm _ _ h), List.getElem?_eq_getElem hi'⟩
  · obtain ⟨rfl, y⟩ := y
    obtain ⟨v, e1, q⟩ := r.get e
    have := y vs (lst_inj (sm _ _ h))
    rw [e1] at this
    cases this
    exact .inl ⟨rfl, q⟩
theorem itt_ok {c : Ct} {G : Hp} {p : Addr} {ds : List D} {vs : List V} (h : SqT c.K G p vs) (r : RepL c G ds vs) : ItOk c (Itt c.K p) G ds := by
  refine ⟨fun i H hi sm => ?_, fun H sm => ⟨vs, sqT_mono sm h, by rw [r.length]; exact Nat.le_refl _⟩, fun i H x H' d e sm y => ?_⟩
  · have hi' : i < vs.length := by rw [← r.length]; exact hi
    exact ⟨vs, vs[i], sqT_mono sm h, List.getElem?_eq_getElem hi'⟩
  · obtain ⟨rfl, y⟩ := y
    obtain ⟨v, e1, q⟩ := r.get e
    have := y vs (sqT_mono sm h)
    rw [e1] at this
    cases this
    exact .inl ⟨rfl, q⟩
theorem id_seq (h : PD X fd W a f) : ID X fd W tg a (f.bnd fun x => M.lft (itsD x)) := by
  refine PI.imp (pi_seq h) fun σ H Q ⟨F, G, ρ, s, k⟩ => ⟨F, G, ρ, s, (tAt.bnd k RD_F).mono fun x H1 ⟨d, G1, ρ1, s1, sm1, ⟨_, r1⟩, k1⟩ => ?_⟩
  obtain ⟨ds, e, q⟩ := k1.lft
  cases r1 <;> simp [itsD] at e
  · subst e
    exact ⟨_, rfl, .inl ⟨⟨_, lst_inj (k1.1.sub _ _ ‹_›)⟩, q _ _ G1 F (Same.refl _) ⟨rfl, itl_ok ‹_› ‹_›⟩ k1.1⟩⟩
  · subst e
    exact ⟨_, rfl, .inr ⟨⟨_, sqT_mono k1.1.sub ‹_›⟩, q _ _ G1 F (Same.refl _) ⟨rfl, itt_ok ‹_› ‹_›⟩ k1.1⟩⟩
theorem itr_ok {c : Ct} {G : Hp} (lo : Int) (n : Nat) : ItOk c (Itr lo n) G ((List.range n).map fun i => D.int (lo + (i : Nat))) := by
  refine ⟨fun i H hi sm => show i < n from by simpa using hi, fun H sm => by simp [Itr], fun i H x H' d e sm y => ?_⟩
  obtain ⟨rfl, rfl⟩ := y
  rw [List.getElem?_map] at e
  obtain ⟨j, e1, rfl⟩ := Option.map_eq_some_iff.mp e
  have : j = i := by
    obtain ⟨h1, h2⟩ := List.getElem?_eq_some_iff.mp e1
    rw [List.getElem_range] at h2
    exact h2.symm
  subst this
  exact .inl ⟨rfl, .int _⟩
def rngI (a b : Int) : List D := (List.range (b - a).toNat).map fun i => D.int (a + (i : Nat))
def rg1 : List D → Option (List D)
  | [.int j] => if sm j = true then some (rngI 0 j) else none
  | _ => none
def rg2 : List D → Option (List D)
  | [.int i, .int j] => if (sm i && sm j) = true then some (rngI i j) else none
  | _ => none
def szR (i j c : Int) : Int := Builtin.Range.rangeSize i j c
def rg3 : List D → Option (List D)
  | [.int i, .int j, .int c] => if c ≠ 0 ∧ c.natAbs < 1073741824 ∧ Builtin.Range.small i j c = true ∧ 0 ≤ szR i j c then some ((List.range (szR i j c).toNat).map fun k => D.int (i + (k : Nat) * c)) else none
  | _ => none
theorem repL1 {c : Ct} {G : Hp} {ds : List D} {vs : List V} (r : RepL c G ds vs) {d : D} (e : ds = [d]) : ∃ v, vs = [v] ∧ Rep c G d v := by
  subst e
  cases r with
  | cons h r => cases r; exact ⟨_, rfl, h⟩
theorem id_rg1 {g : M (List D)} {p : Pos} (hg : Gl X "range") (hm : X.mg "range" = none) (h : AD X fd W [a] g) (hs : starEach [a] X.env = [(false, eval a X.env)] := by rfl) :
    ID X fd W tg (.Call (.Name "range" p) [a] [] pos) (g.bnd fun ds => M.lft (rg1 ds)) := by
  refine PI.imp (pi_range1 hg hm h hs) fun σ H Q ⟨F, G, ρ, s, k⟩ => ⟨F, G, ρ, s, (tAt.bnd k RDL_F).mono fun x H1 ⟨ds, G1, ρ1, s1, sm1, ⟨_, r1⟩, k1⟩ => ?_⟩
  obtain ⟨w, e, q⟩ := k1.lft
  unfold rg1 at e
  split at e
  · split at e
    · rename_i c
      cases e
      obtain ⟨v, rfl, r⟩ := repL1 r1 rfl
      cases r
      refine ⟨_, rfl, by have := sm_lt c; omega, by have := sm_lt c; omega, q _ _ G1 F (Same.refl _) ⟨rfl, ?_⟩ k1.1⟩
      have := itr_ok (c := ct X fd) (G := G1) 0 (Int.toNat ‹_›)
      unfold rngI
      rw [Int.sub_zero]
      exact this
    · cases e
  · cases e
theorem id_rg2 {g : M (List D)} {p : Pos} (hg : Gl X "range") (hm : X.mg "range" = none) (h : AD X fd W [a, b] g) (hs : starEach [a, b] X.env = [(false, eval a X.env), (false, eval b X.env)] := by rfl) (hs2 : starEach [b] X.env = [(false, eval b X.env)] := by rfl) :
    ID X fd W tg (.Call (.Name "range" p) [a, b] [] pos) (g.bnd fun ds => M.lft (rg2 ds)) := by
  refine PI.imp (pi_range2 hg hm h hs hs2) fun σ H Q ⟨F, G, ρ, s, k⟩ => ⟨F, G, ρ, s, (tAt.bnd k RDL_F).mono fun x H1 ⟨ds, G1, ρ1, s1, sm1, ⟨_, r1⟩, k1⟩ => ?_⟩
  obtain ⟨w, e, q⟩ := k1.lft
  unfold rg2 at e
  split at e
  · split at e
    · rename_i c
      cases e
      cases r1 with
      | cons r r' =>
        obtain ⟨v, rfl, r2⟩ := repL1 r' rfl
        cases r
        cases r2
        have c := Bool.and_eq_true_iff.mp c
        have c1 := sm_lt c.1
        have c2 := sm_lt c.2
        exact ⟨_, _, rfl, ⟨by omega, by omega, by omega, by omega⟩, q _ _ G1 F (Same.refl _) ⟨rfl, itr_ok _ _⟩ k1.1⟩
    · cases e
  · cases e
theorem itc_ok {c : Ct} {G : Hp} (lo st : Int) (n : Nat) : ItOk c (Itc lo st n) G ((List.range n).map fun i => D.int (lo + (i : Nat) * st)) := by
  refine ⟨fun i H hi sm => show i < n from by simpa using hi, fun H sm => by simp [Itc], fun i H x H' d e sm y => ?_⟩
  obtain ⟨rfl, rfl⟩ := y
  rw [List.getElem?_map] at e
  obtain ⟨j, e1, rfl⟩ := Option.map_eq_some_iff.mp e
  have : j = i := by
    obtain ⟨h1, h2⟩ := List.getElem?_eq_some_iff.mp e1
    rw [List.getElem_range] at h2
    exact h2.symm
  subst this
  exact .inl ⟨rfl, .int _⟩
theorem id_rg3 {c : Expr} {g : M (List D)} {p : Pos} (hg : Gl X "range") (hm : X.mg "range" = none) (h : AD X fd W [a, b, c] g)
    (hi : ∀ {ta : TA}, PA X [a, b, c] ta → PI X tg (.Call (.Name "range" p) [a, b, c] [] pos) (iRng3 ta)) :
    ID X fd W tg (.Call (.Name "range" p) [a, b, c] [] pos) (g.bnd fun ds => M.lft (rg3 ds)) := by
  refine PI.imp (hi h) fun σ H Q ⟨F, G, ρ, s, k⟩ => ⟨F, G, ρ, s, (tAt.bnd k RDL_F).mono fun x H1 ⟨ds, G1, ρ1, s1, sm1, ⟨_, r1⟩, k1⟩ => ?_⟩
  obtain ⟨w, e, q⟩ := k1.lft
  unfold rg3 at e
  split at e
  · split at e
    · rename_i c
      cases e
      cases r1 with
      | cons r r' =>
        cases r' with
        | cons r' r3 =>
          obtain ⟨v, rfl, r4⟩ := repL1 r3 rfl
          cases r
          cases r'
          cases r4
          exact ⟨_, _, _, _, rfl, ⟨c.1, c.2.1, c.2.2.1, by unfold szR at c; exact (Int.toNat_of_nonneg c.2.2.2).symm⟩, q _ _ G1 F (Same.refl _) ⟨rfl, itc_ok _ _ _⟩ k1.1⟩
    · cases e
  · cases e
def enD : List D → Option (List D)
  | [.lst xs] => some ((List.range xs.length).zipWith (fun i x => .tup [.int (i : Nat), x]) xs)
  | _ => none
theorem ite_ok {c : Ct} {G : Hp} {p : Addr} {ds : List D} {vs : List V} (h : G p = some (.lst vs)) (r : RepL c G ds vs) : ItOk c (Ite c.K p) G ((List.range ds.length).zipWith (fun i x => .tup [.int (i : Nat), x]) ds) := by
  refine ⟨fun i H hi sm => ?_, fun H sm => ⟨vs, lst_inj (sm _ _ h), by simp [r.length]⟩, fun i H x H' d e sm y => ?_⟩
  · have hi' : i < vs.length := by rw [← r.length]; simpa using hi
    exact ⟨vs, vs[i], lst_inj (sm _ _ h), List.getElem?_eq_getElem hi'⟩
  · obtain ⟨T, z, rfl, hT, rfl, y⟩ := y
    rw [List.getElem?_zipWith] at e
    cases e1 : ds[i]? with
    | none => rw [e1] at e; simp at e
    | some d' =>
      have hi : i < ds.length := (List.getElem?_eq_some_iff.mp e1).1
      rw [e1, List.getElem?_range hi] at e
      have e := Option.some.inj e
      subst e
      obtain ⟨v, e2, q⟩ := r.get e1
      have := y vs (lst_inj (sm _ _ h))
      rw [e2] at this
      cases this
      exact .inr ⟨T, _, _, rfl, hT, rfl, rfl, .cons (.int _) (.one q)⟩
theorem id_enum {g : M (List D)} {p tpos : Pos} {elts : List Expr} {kk : Nat} (hg : Gl X "enumerate") (hm : X.mg "enumerate" = none) (h : AD X fd W [a] g) (hs : starEach [a] X.env = [(false, eval a X.env)] := by rfl) :
    ID X fd W (.Tuple elts kk tpos) (.Call (.Name "enumerate" p) [a] [] pos) (g.bnd fun ds => M.lft (enD ds)) := by
  refine PI.imp (pi_enum hg hm h hs) fun σ H Q ⟨F, G, ρ, s, k⟩ => ⟨F, G, ρ, s, (tAt.bnd k RDL_F).mono fun x H1 ⟨ds, G1, ρ1, s1, sm1, ⟨_, r1⟩, k1⟩ => ?_⟩
  obtain ⟨w, e, q⟩ := k1.lft
  unfold enD at e
  split at e
  · cases e
    obtain ⟨v, rfl, r⟩ := repL1 r1 rfl
    cases r with
    | lst h1 r => exact ⟨_, _, rfl, lst_inj (k1.1.sub _ _ h1), q _ _ G1 F (Same.refl _) ⟨rfl, ite_ok h1 r⟩ k1.1⟩
  · cases e
def zpD : List D → Option (List D)
  | [.lst xs, .lst ys] => some (xs.zipWith (fun x y => .tup [x, y]) ys)
  | _ => none
theorem itz_ok {c : Ct} {G : Hp} {p p' : Addr} {ds es : List D} {vs us : List V} (h : G p = some (.lst vs)) (r : RepL c G ds vs) (h' : G p' = some (.lst us)) (r' : RepL c G es us) : ItOk c (Itz c.K p p') G (ds.zipWith (fun x y => .tup [x, y]) es) := by
  refine ⟨fun i H hi sm => ?_, fun H sm => ⟨vs, us, lst_inj (sm _ _ h), lst_inj (sm _ _ h'), by simp [r.length, r'.length]; omega⟩, fun i H x H' d e sm y => ?_⟩
  · rw [List.length_zipWith, r.length, r'.length] at hi
    have h1 : i < vs.length := by omega
    have h2 : i < us.length := by omega
    exact ⟨vs, us, vs[i], us[i], lst_inj (sm _ _ h), lst_inj (sm _ _ h'), List.getElem?_eq_getElem h1, List.getElem?_eq_getElem h2⟩
  · obtain ⟨T, z, z', rfl, hT, rfl, y1, y2⟩ := y
    rw [List.getElem?_zipWith] at e
    cases e1 : ds[i]? with
    | none => rw [e1] at e; simp at e
    | some d1 =>
      cases e2 : es[i]? with
      | none => rw [e1, e2] at e; simp at e
      | some d2 =>
        rw [e1, e2] at e
        have e := Option.some.inj e
        subst e
        obtain ⟨v, e3, q⟩ := r.get e1
        obtain ⟨u, e4, q'⟩ := r'.get e2
        have := y1 vs (lst_inj (sm _ _ h))
        rw [e3] at this
        cases this
        have := y2 us (lst_inj (sm _ _ h'))
        rw [e4] at this
        cases this
        exact .inr ⟨T, _, _, rfl, hT, rfl, rfl, .cons q (.one q')⟩
theorem id_zip {g : M (List D)} {p tpos : Pos} {elts : List Expr} {kk : Nat} (hg : Gl X "zip") (hm : X.mg "zip" = none) (h : AD X fd W [a, b] g)
    (hs : starEach [a, b] X.env = (false, eval a X.env) :: starEach [b] X.env := by rfl) (hpl : (backTo pos (starEach [b] X.env)).any (·.1) = false := by rfl) :
    ID X fd W (.Tuple elts kk tpos) (.Call (.Name "zip" p) [a, b] [] pos) (g.bnd fun ds => M.lft (zpD ds)) := by
  refine PI.imp (pi_zip hg hm h hs hpl) fun σ H Q ⟨F, G, ρ, s, k⟩ => ⟨F, G, ρ, s, (tAt.bnd k RDL_F).mono fun x H1 ⟨ds, G1, ρ1, s1, sm1, ⟨_, r1⟩, k1⟩ => ?_⟩
  obtain ⟨w, e, q⟩ := k1.lft
  unfold zpD at e
  split at e
  · cases e
    cases r1 with
    | cons r r' =>
      obtain ⟨v, rfl, r2⟩ := repL1 r' rfl
      cases r with
      | lst h1 r =>
        cases r2 with
        | lst h2 r3 => exact ⟨_, _, _, _, rfl, lst_inj (k1.1.sub _ _ h1), lst_inj (k1.1.sub _ _ h2), q _ _ G1 F (Same.refl _) ⟨rfl, itz_ok h1 r h2 r3⟩ k1.1⟩
  · cases e
def rvD : List D → Option (List D)
  | [.lst xs] => some xs.reverse
  | _ => none
theorem itv_ok {c : Ct} {G : Hp} {p : Addr} {ds : List D} {vs : List V} (h : G p = some (.lst vs)) (r : RepL c G ds vs) : ItOk c (Itv c.K p vs.length) G ds.reverse := by
  refine ⟨fun i H hi sm => ?_, fun H sm => by simp [Itv, r.length], fun i H x H' d e sm y => ?_⟩
  · have hi' : i < vs.length := by rw [← r.length]; simpa using hi
    have h2 : vs.length - 1 - i < vs.length := by omega
    exact ⟨hi', vs, vs[vs.length - 1 - i], lst_inj (sm _ _ h), List.getElem?_eq_getElem h2⟩
  · obtain ⟨rfl, y⟩ := y
    have hi : i < ds.length := by have := (List.getElem?_eq_some_iff.mp e).1; simpa using this
    rw [List.getElem?_reverse hi] at e
    obtain ⟨v, e1, q⟩ := r.get e
    have := y vs (lst_inj (sm _ _ h))
    rw [← r.length, e1] at this
    cases this
    exact .inl ⟨rfl, q⟩
theorem id_rev {g : M (List D)} {p : Pos} (hg : Gl X "reversed") (hm : X.mg "reversed" = none) (h : AD X fd W [a] g) (hs : starEach [a] X.env = [(false, eval a X.env)] := by rfl) :
    ID X fd W tg (.Call (.Name "reversed" p) [a] [] pos) (g.bnd fun ds => M.lft (rvD ds)) := by
  refine PI.imp (pi_reversed hg hm h hs) fun σ H Q ⟨F, G, ρ, s, k⟩ => ⟨F, G, ρ, s, (tAt.bnd k RDL_F).mono fun x H1 ⟨ds, G1, ρ1, s1, sm1, ⟨_, r1⟩, k1⟩ => ?_⟩
  obtain ⟨w, e, q⟩ := k1.lft
  unfold rvD at e
  split at e
  · cases e
    obtain ⟨v, rfl, r⟩ := repL1 r1 rfl
    cases r with
    | lst h1 r => exact ⟨_, _, rfl, lst_inj (k1.1.sub _ _ h1), q _ _ G1 F (Same.refl _) ⟨rfl, itv_ok h1 r⟩ k1.1⟩
  · cases e
end

/-! ### targets -/
theorem Sat.putD' {c : Ct} {F G H : Hp} {σ : L2.St} {ρ : Env} {s : FS} {i : Nat} {d : D} {v : V} (S : Sat c F G H σ ρ s) (r : Rep c G d v) : Sat c F G H (σ.set i (some v)) (ρ.set i (some (.fz d))) s := by
  by_cases hi : i < ρ.length
  · exact S.putD hi r
  · rw [List.set_eq_of_length_le (l := ρ) (by omega), List.set_eq_of_length_le (l := σ) (by rw [← S.len]; omega)]
    exact S
theorem Sat.put' {c : Ct} {F G H : Hp} {σ : L2.St} {ρ : Env} {s : FS} {i : Nat} {t : OT} {v : V} {A : List Addr} (S : Sat c (ovl F H A) G H σ ρ s) (o : Own c G H t v A) (nd : A.Nodup) (hF : ∀ a ∈ A, F a = none) : Sat c F G H (σ.set i (some v)) (ρ.set i (some t)) s := by
  by_cases hi : i < ρ.length
  · exact S.put hi o nd hF
  · rw [List.set_eq_of_length_le (l := ρ) (by omega), List.set_eq_of_length_le (l := σ) (by rw [← S.len]; omega)]
    exact S.less (ovl_sub hF)
abbrev Tgt := D → Env → Option Env
def tG (c : Ct) (is : List Nat) (g : Tgt) : TG := fun v σ H Q => ∃ F G ρ s d ρ', Sat c F G H σ ρ s ∧ Rep c G d v ∧ g d ρ = some ρ' ∧ ∀ σ', Sat c F G H σ' ρ' s → σ'.length = σ.length → (∀ j, j ∉ is → σ'[j]? = σ[j]?) → Q σ' H
abbrev Tgts := List D → Env → Option Env
def tGs (c : Ct) (is : List Nat) (g : Tgts) : TGs := fun v σ H Q => ∃ F G ρ s d ρ', Sat c F G H σ ρ s ∧ RepL c G d v ∧ g d ρ = some ρ' ∧ ∀ σ', Sat c F G H σ' ρ' s → σ'.length = σ.length → (∀ j, j ∉ is → σ'[j]? = σ[j]?) → Q σ' H
def GD (X : Cx) (fd : Option Addr) (e : Expr) (is : List Nat) (g : Tgt) : Prop := PG X e (tG (ct X fd) is g)
def GDs (X : Cx) (fd : Option Addr) (e : List Expr) (is : List Nat) (g : Tgts) : Prop := PGs X e (tGs (ct X fd) is g)
def gN (i : Nat) : Tgt := fun d ρ => some (ρ.set i (some (.fz d)))
def gsN : Tgts := fun ds ρ => match ds with
  | [] => some ρ
  | _ => none
def gsC (g : Tgt) (h : Tgts) : Tgts := fun ds ρ => match ds with
  | d :: ds => (g d ρ).bind fun ρ1 => h ds ρ1
  | _ => none
def gT (n : Nat) (g : Tgts) : Tgt := fun d ρ => match d with
  | .tup ds => if ds.length = n then g ds ρ else none
  | _ => none
section
variable {X : Cx} {fd : Option Addr} {pos : Pos} {e : Expr} {es : List Expr} {is js : List Nat}
theorem gd_name {i : Nat} {x : Str} (h : PG X (.Name x pos) (gName i)) : GD X fd (.Name x pos) [i] (gN i) := by
  refine PG.imp h fun v σ H Q ⟨F, G, ρ, s, d, ρ', S, r, e, q⟩ => ?_
  cases e
  exact q _ (S.putD' r) (by simp) fun j hj => List.getElem?_set_ne (fun z => hj (by simp [z]))
theorem gds_nil : GDs X fd [] [] gsN := by
  refine PGs.imp pgs_nil fun v σ H Q ⟨F, G, ρ, s, d, ρ', S, r, e, q⟩ => ?_
  unfold gsN at e
  split at e
  · cases e; cases r; exact ⟨rfl, q _ S rfl fun _ _ => rfl⟩
  · cases e
theorem gds_cons {g : Tgt} {h : Tgts} (h1 : GD X fd e is g) (h2 : GDs X fd es js h) (hs : (assignEach (e :: es) X.env).map (·.2) = assign e X.env :: (assignEach es X.env).map (·.2) := by rfl) : GDs X fd (e :: es) (is ++ js) (gsC g h) := by
  refine PGs.imp (pgs_cons h1 h2 hs) fun v σ H Q ⟨F, G, ρ, s, d, ρ', S, r, e, q⟩ => ?_
  unfold gsC at e
  split at e
  · obtain ⟨ρ1, e1, e2⟩ := Option.bind_eq_some_iff.mp e
    cases r with
    | cons r rr =>
      refine ⟨_, _, rfl, F, G, ρ, s, _, ρ1, S, r, e1, fun σ1 S1 l1 k1 => ⟨F, G, ρ1, s, _, ρ', S1, rr, e2, fun σ2 S2 l2 k2 => q σ2 S2 (l2.trans l1) fun j hj => ?_⟩⟩
      rw [k2 j (fun z => hj (by simp [z])), k1 j (fun z => hj (by simp [z]))]
  · cases e
theorem gd_tup {k : Nat} {n : Nat} {g : Tgts} (hc : X.calm = true) (h : GDs X fd es is g) (hn : (assignEach es X.env).length = n := by rfl) (hst : (assignEach es X.env).findIdx? (·.1) = none := by rfl) : GD X fd (.Tuple es k pos) is (gT n g) := by
  refine PG.imp (pg_tup hc h hn hst) fun v σ H Q ⟨F, G, ρ, s, d, ρ', S, r, e, q⟩ => ?_
  unfold gT at e
  split at e
  · split at e
    · rename_i hl
      cases r with
      | tup h1 r => exact ⟨_, _, rfl, sqT_mono S.sub h1, by rw [← r.length]; exact hl, F, G, ρ, s, _, ρ', S, r, e, q⟩
    · cases e
  · cases e
end

/-! ### statements -/
inductive Out where
  | nx (ρ : Env) (s : FS) | rt (t : OT) (s : FS) | bk (ρ : Env) (s : FS) | ct (ρ : Env) (s : FS) | ex (e : Exn) (s : FS) | bad
abbrev Stm := Env → FS → Out
def oc (c : Ct) (W : Wish) (F G : Hp) (D : Ends) : Out → Prop
  | .nx ρ s => ∀ σ' H' G', Same G G' → Sat c F G' H' σ' ρ s → D.nx σ' H'
  | .bk ρ s => ∀ σ' H' G', Same G G' → Sat c F G' H' σ' ρ s → D.bk σ' H'
  | .ct ρ s => ∀ σ' H' G', Same G G' → Sat c F G' H' σ' ρ s → D.ct σ' H'
  | .rt t s => ∀ v H' G' A, Same G G' → Own c G' H' t v A → A.Nodup → (∀ a ∈ A, F a = none) → Sat c (ovl F H' A) G' H' [] [] s → D.rt v H'
  | .ex e s => W.w e s F G
  | .bad => False
def sAt (c : Ct) (W : Wish) (F G : Hp) (ρ : Env) (s : FS) (f : Stm) (D : Ends) (σ : L2.St) (H : Hp) : Prop := Sat c F G H σ ρ s ∧ oc c W F G D (f ρ s)
def tS (c : Ct) (W : Wish) (f : Stm) : TS := fun D σ H => ∃ F G ρ s, sAt c W F G ρ s f D σ H
def SD (X : Cx) (fd : Option Addr) (W : Wish) (st : Stmt) (f : Stm) : Prop := PS X st (tS (ct X fd) W f)
def SDs (X : Cx) (fd : Option Addr) (W : Wish) (st : List Stmt) (f : Stm) : Prop := PSs X st (tS (ct X fd) W f)
theorem oc.mono {c : Ct} {W : Wish} {F G G1 : Hp} {D : Ends} {o : Out} (sm : Same G G1) (h : oc c W F G D o) : oc c W F G1 D o := by
  cases o with
  | nx ρ s => exact fun σ' H' G' sm2 S => h σ' H' G' (sm.trans sm2) S
  | bk ρ s => exact fun σ' H' G' sm2 S => h σ' H' G' (sm.trans sm2) S
  | ct ρ s => exact fun σ' H' G' sm2 S => h σ' H' G' (sm.trans sm2) S
  | rt t s => exact fun v H' G' A sm2 o n f S => h v H' G' A (sm.trans sm2) o n f S
  | ex e s => exact W.mono _ _ _ _ _ _ (fun _ _ z => z) sm h
  | bad => exact h
theorem Sat.drop {c : Ct} {F G H : Hp} {σ : L2.St} {ρ : Env} {s : FS} (S : Sat c F G H σ ρ s) : Sat c F G H [] [] s :=
  ⟨S.sub, S.fr, S.fd, [], .nil, List.nodup_nil, fun _ h => by simp at h⟩
def skip : Stm := fun ρ s => .nx ρ s
def Stm.seq (f g : Stm) : Stm := fun ρ s => match f ρ s with
  | .nx ρ1 s1 => g ρ1 s1
  | o => o
/-- a value reckoned, then k -/
def thn1 {α : Type} (f : M α) (k : α → Stm) : Stm := fun ρ s => match f ρ s with
  | .ok a ρ1 s1 => k a ρ1 s1
  | .ex e s1 => .ex e s1
  | .bad => .bad
theorem sAt.thn {α β : Type} {c : Ct} {W : Wish} {R : RT α β} {F G H : Hp} {ρ : Env} {s : FS} {σ : L2.St} {f : M α} {k : α → Stm} {D : Ends} (h : sAt c W F G ρ s (thn1 f k) D σ H) (hR : ∀ F F' G' H' a v, R F F' G' H' a v → F' = F) :
    tAt c W R F G ρ s f σ H (fun v H1 => ∃ a G1 ρ1 s1, Same G G1 ∧ R F F G1 H1 a v ∧ sAt c W F G1 ρ1 s1 (k a) D σ H1) := by
  refine ⟨h.1, ?_⟩
  have h2 := h.2
  unfold thn1 at h2
  cases hf : f ρ s with
  | bad => simp only [hf] at h2; exact h2
  | ex e s' => simp only [hf] at h2; exact h2
  | ok a ρ1 s1 =>
    simp only [hf] at h2
    intro v H1 G1 F1 sm r S
    obtain rfl := hR _ _ _ _ _ _ r
    exact ⟨a, G1, ρ1, s1, sm, r, S, h2.mono sm⟩
theorem sAt.thnO {c : Ct} {W : Wish} {F G H : Hp} {ρ : Env} {s : FS} {σ : L2.St} {f : M OT} {k : OT → Stm} {D : Ends} (h : sAt c W F G ρ s (thn1 f k) D σ H) :
    tAt c W (RO c) F G ρ s f σ H (fun v H1 => ∃ t G1 ρ1 s1 A, Same G G1 ∧ Own c G1 H1 t v A ∧ A.Nodup ∧ (∀ a ∈ A, F a = none) ∧ Sat c (ovl F H1 A) G1 H1 σ ρ1 s1 ∧ oc c W F G1 D (k t ρ1 s1)) := by
  refine ⟨h.1, ?_⟩
  have h2 := h.2
  unfold thn1 at h2
  cases hf : f ρ s with
  | bad => simp only [hf] at h2; exact h2
  | ex e s' => simp only [hf] at h2; exact h2
  | ok a ρ1 s1 =>
    simp only [hf] at h2
    rintro v H1 G1 F1 sm ⟨A, rfl, o, n, hF⟩ S
    exact ⟨a, G1, ρ1, s1, A, sm, o, n, hF, S, h2.mono sm⟩
section
variable {X : Cx} {fd : Option Addr} {W : Wish} {st : Stmt} {sts : List Stmt} {a b e tg : Expr} {pos : Pos} {f g : Stm}
theorem ss_nil : SDs X fd W [] skip := PSs.imp pss_nil fun D σ H ⟨F, G, ρ, s, S, k⟩ => k σ H G (Same.refl G) S
theorem ss_cons (h1 : SD X fd W st f) (h2 : SDs X fd W sts g) : SDs X fd W (st :: sts) (f.seq g) := by
  refine PSs.imp (pss_cons h1 h2) fun D σ H ⟨F, G, ρ, s, S, k⟩ => ⟨F, G, ρ, s, S, ?_⟩
  unfold Stm.seq at k
  cases hf : f ρ s with
  | nx ρ1 s1 => simp only [hf] at k; exact fun σ' H' G' sm S' => ⟨F, G', ρ1, s1, S', k.mono sm⟩
  | rt t s1 => simp only [hf] at k; exact k
  | bk ρ1 s1 => simp only [hf] at k; exact k
  | ct ρ1 s1 => simp only [hf] at k; exact k
  | ex t s1 => simp only [hf] at k; exact k
  | bad => simp only [hf] at k; exact k
theorem ss_one (h1 : SD X fd W st f) : SDs X fd W [st] f := PSs.imp (pss_one h1) fun D σ H k => k
/-- slots forgotten behind a statement -/
def kl (ks : List Nat) (ρ : Env) : Env := ks.foldl (fun ρ i => ρ.set i none) ρ
theorem Sat.kl {c : Ct} {F G H : Hp} {σ : L2.St} {s : FS} : ∀ (ks : List Nat) {ρ : Env}, Sat c F G H σ ρ s → Sat c F G H σ (DL.kl ks ρ) s
  | [], _, S => S
  | i :: ks, ρ, S => Sat.kl ks (S.kill i)
def Out.kl (ks : List Nat) : Out → Out
  | .nx ρ s => .nx (DL.kl ks ρ) s
  | o => o
def klM (ks : List Nat) (f : Stm) : Stm := fun ρ s => (f ρ s).kl ks
theorem sd_kl (ks : List Nat) (h : SD X fd W st f) : SD X fd W st (klM ks f) := by
  refine PS.imp h fun D σ H ⟨F, G, ρ, s, S, k⟩ => ⟨F, G, ρ, s, S, ?_⟩
  unfold klM Out.kl at k
  cases hf : f ρ s with
  | nx ρ1 s1 => simp only [hf] at k; exact fun σ' H' G' sm S' => k σ' H' G' sm (S'.kl ks)
  | rt t s1 => simp only [hf] at k; exact k
  | bk ρ1 s1 => simp only [hf] at k; exact k
  | ct ρ1 s1 => simp only [hf] at k; exact k
  | ex t s1 => simp only [hf] at k; exact k
  | bad => simp only [hf] at k; exact k
theorem sd_pass : SD X fd W (.Pass pos) skip := PS.imp ps_pass fun D σ H ⟨F, G, ρ, s, S, k⟩ => k σ H G (Same.refl G) S
theorem sd_doc {x j pos'} : SD X fd W (.Expr (.Constant (.str x) j pos) pos') skip := PS.imp ps_doc fun D σ H ⟨F, G, ρ, s, S, k⟩ => k σ H G (Same.refl G) S
theorem sd_break : SD X fd W (.Break pos) (fun ρ s => .bk ρ s) := PS.imp ps_break fun D σ H ⟨F, G, ρ, s, S, k⟩ => k σ H G (Same.refl G) S
theorem sd_continue : SD X fd W (.Continue pos) (fun ρ s => .ct ρ s) := PS.imp ps_continue fun D σ H ⟨F, G, ρ, s, S, k⟩ => k σ H G (Same.refl G) S
theorem sd_never : SD X fd W st (fun _ _ => .bad) := PS.imp ps_never fun D σ H ⟨F, G, ρ, s, S, k⟩ => k
theorem sd_expr {m : M D} (h : PD X fd W e m) (hs : swapsWith e none pos.line X.env = pure false := by rfl) : SD X fd W (.Expr e pos) (thn1 m fun _ ρ s => .nx ρ s) := by
  refine PS.imp (ps_expr h hs) fun D σ H ⟨F, G, ρ, s, k⟩ => ⟨F, G, ρ, s, (k.thn RD_F).mono fun x H1 ⟨d, G1, ρ1, s1, sm1, ⟨_, r1⟩, k1⟩ => ?_⟩
  exact k1.2 σ H1 G1 (Same.refl _) k1.1
theorem sd_ret {m : M OT} (h : PN X fd W e m) : SD X fd W (.Return (some e) pos) (thn1 m fun t ρ s => .rt t s) := by
  refine PS.imp (ps_ret h) fun D σ H ⟨F, G, ρ, s, k⟩ => ⟨F, G, ρ, s, (sAt.thnO k).mono fun x H1 ⟨t, G1, ρ1, s1, A, sm1, o, n, hF, S, k1⟩ => ?_⟩
  exact k1 x H1 G1 A (Same.refl _) o n hF S.drop
theorem sd_retD {m : M D} (h : PD X fd W e m) : SD X fd W (.Return (some e) pos) (thn1 m fun d ρ s => .rt (.fz d) s) := by
  refine PS.imp (ps_ret h) fun D σ H ⟨F, G, ρ, s, k⟩ => ⟨F, G, ρ, s, (k.thn RD_F).mono fun x H1 ⟨d, G1, ρ1, s1, sm1, ⟨_, r1⟩, k1⟩ => ?_⟩
  exact k1.2 x H1 G1 [] (Same.refl _) (.fz r1) List.nodup_nil (fun _ h => by simp at h) (by rw [ovl_nil]; exact k1.1.drop)
theorem sd_retN : SD X fd W (.Return none pos) (fun ρ s => .rt (.fz .non) s) := by
  refine PS.imp ps_retN fun D σ H ⟨F, G, ρ, s, S, k⟩ => ?_
  exact k .non H G [] (Same.refl _) (.fz .non) List.nodup_nil (fun _ h => by simp at h) (by rw [ovl_nil]; exact S.drop)
/-- name = e -/
def stN (i : Nat) (m : M OT) : Stm := thn1 m fun t ρ s => .nx (ρ.set i (some t)) s
def stD (i : Nat) (m : M D) : Stm := thn1 m fun d ρ s => .nx (ρ.set i (some (.fz d))) s
theorem stN_ok {c : Ct} {i : Nat} {m : M OT} {D : Ends} {σ : L2.St} {H : Hp} (k : tS c W (stN i m) D σ H) : tM c W (RO c) m σ H (fun x H1 => D.nx (σ.set i (some x)) H1) := by
  obtain ⟨F, G, ρ, s, k⟩ := k
  refine ⟨F, G, ρ, s, (sAt.thnO k).mono fun x H1 ⟨t, G1, ρ1, s1, A, sm1, o, n, hF, S, k1⟩ => ?_⟩
  exact k1 _ H1 G1 (Same.refl _) (S.put' o n hF)
theorem sd_set {i : Nat} {x : Str} {pos' : Pos} {m : M OT} (h : PN X fd W e m) (hp : ∀ {te : TE}, PE X e te → PS X (.Assign [.Name x pos'] e pos) (tAsg te (gName i))) : SD X fd W (.Assign [.Name x pos'] e pos) (stN i m) :=
  PS.imp (hp h) fun D σ H k => stN_ok k
theorem sd_setD {i : Nat} {x : Str} {pos' : Pos} {m : M D} (h : PD X fd W e m) (hp : ∀ {te : TE}, PE X e te → PS X (.Assign [.Name x pos'] e pos) (tAsg te (gName i))) : SD X fd W (.Assign [.Name x pos'] e pos) (stD i m) := by
  refine PS.imp (hp h) fun D σ H ⟨F, G, ρ, s, k⟩ => ⟨F, G, ρ, s, (k.thn RD_F).mono fun x H1 ⟨d, G1, ρ1, s1, sm1, ⟨_, r1⟩, k1⟩ => ?_⟩
  exact k1.2 _ H1 G1 (Same.refl _) (k1.1.putD' r1)
/-- a, b = e -/
def stG (g : Tgt) (m : M D) : Stm := thn1 m fun d ρ s => match g d ρ with
  | some ρ1 => .nx ρ1 s
  | none => .bad
theorem sd_tgt {is : List Nat} {g : Tgt} {m : M D} (h : PD X fd W e m) (hg : GD X fd tg is g) (hs : swapsWithSole [tg] e pos.line X.env = pure false := by rfl) (hw : swappedStores [tg] e X.env = pure none := by rfl)
    (h1 : (assignEach [tg] X.env).map (·.2) = [assign tg X.env] := by rfl) : SD X fd W (.Assign [tg] e pos) (stG g m) := by
  refine PS.imp (ps_asg h hg hs hw h1) fun D σ H ⟨F, G, ρ, s, k⟩ => ⟨F, G, ρ, s, (k.thn RD_F).mono fun x H1 ⟨d, G1, ρ1, s1, sm1, ⟨_, r1⟩, k1⟩ => ?_⟩
  have k2 := k1.2
  cases hg : g d ρ1 with
  | none => simp only [hg] at k2; exact k2.elim
  | some ρ2 =>
    simp only [hg] at k2
    exact ⟨F, G1, ρ1, s1, d, ρ2, k1.1, r1, hg, fun σ' S' _ _ => k2 σ' H1 G1 (Same.refl _) S'⟩
/-- a, b = x, y -/
theorem sd_par {i j : Nat} {x y : Str} {px py pt : Pos} {kt k2 pt2} {m : M (List D)} (h : AD X fd W [a, b] m)
    (hp : ∀ {ta : TA}, PA X [a, b] ta → PS X (.Assign [.Tuple [.Name x px, .Name y py] kt pt] (.Tuple [a, b] k2 pt2) pos) (tPar i j ta)) :
    SD X fd W (.Assign [.Tuple [.Name x px, .Name y py] kt pt] (.Tuple [a, b] k2 pt2) pos) (thn1 m fun ds ρ s => match ds with
      | [d, e] => .nx ((ρ.set i (some (.fz d))).set j (some (.fz e))) s
      | _ => .bad) := by
  refine PS.imp (hp h) fun D σ H ⟨F, G, ρ, s, k⟩ => ⟨F, G, ρ, s, (k.thn RDL_F).mono fun x H1 ⟨d, G1, ρ1, s1, sm1, ⟨_, r1⟩, k1⟩ => ?_⟩
  have k2 := k1.2
  split at k2
  · cases r1 with
    | cons r r' =>
      obtain ⟨v, rfl, r2⟩ := repL1 r' rfl
      exact ⟨_, _, rfl, k2 _ H1 G1 (Same.refl _) ((k1.1.putD' r).putD' r2)⟩
  · exact k2.elim
/-- x op= e -/
def stAug (i : Nat) (m : M D) (h : D → D → Option D) : Stm := thn1 (rd i) fun x => thn1 m fun y ρ s => match h x y with
  | some z => .nx (ρ.set i (some (.fz z))) s
  | none => .bad
theorem sd_aug {i : Nat} {x : Str} {op : Operator} {pos' : Pos} {h : D → D → Option D} {m : M D} (ho : DOp X fd (inplaceOp op) h) (he : PD X fd W e m) (hv : PE X (.Name x pos') (tVar i)) (hp : ∀ {te : TE} {ti : TIp}, PE X e te → PIp X op ti → PS X (.AugAssign (.Name x pos') op e pos) (tAug i te ti)) :
    SD X fd W (.AugAssign (.Name x pos') op e pos) (stAug i m h) := by
  obtain ⟨r, o, hr⟩ := ho
  refine PS.imp (hp he o) fun Ends σ H ⟨F, G, ρ, s, S, k⟩ => ?_
  have own : ∀ t, ρ[i]? = some (some t) → ∃ G1, Same G G1 ∧ ∃ v, σ[i]? = some (some v) ∧ Rep (ct X fd) G1 t.fzD v ∧ Sat (ct X fd) F G1 H σ (ρ.set i (some (.fz t.fzD))) s := fun t e => by
    obtain ⟨v, A, e1, o1, nd, hF, S1⟩ := S.take e
    obtain ⟨S2, sm2⟩ := S1.freeze hF fun a ha => o1.there a ha
    have r := o1.freeze sm2 (fun a ha => ovl_in ha)
    have hi : i < ρ.length := (List.getElem?_eq_some_iff.mp e).1
    have S3 := S2.putD (i := i) (by simpa using hi) r
    rw [set_same e1, List.set_set] at S3
    exact ⟨_, sm2, v, e1, r, S3⟩
  have go : ∀ (d : D) (ρ1 : Env) (G1 : Hp) (v : V), Same G G1 → σ[i]? = some (some v) → Rep (ct X fd) G1 d v → Sat (ct X fd) F G1 H σ ρ1 s → oc (ct X fd) W F G Ends (thn1 m (fun y ρ s => match h d y with
      | some z => .nx (ρ.set i (some (.fz z))) s
      | none => .bad) ρ1 s) → tAug i (tM (ct X fd) W (RD (ct X fd)) m) r Ends σ H := fun d ρ1 G1 v sm e1 r1 S1 k1 => by
    refine ⟨v, e1, F, G1, ρ1, s, (sAt.thn (R := RD (ct X fd)) ⟨S1, k1.mono sm⟩ RD_F).mono fun y H2 ⟨d2, G2, ρ2, s2, sm2, ⟨_, r2⟩, k2⟩ => ?_⟩
    have k3 := k2.2
    cases hz : h d d2 with
    | none => simp only [hz] at k3; exact k3.elim
    | some z =>
      simp only [hz] at k3
      exact hr G2 H2 d d2 z v y _ k2.1.sub (r1.mono sm2) r2 hz fun u ru => k3 _ H2 G2 (Same.refl _) (k2.1.putD' ru)
  unfold stAug at k
  unfold thn1 rd at k
  rcases e1 : ρ[i]? with _ | _ | t
  · simp only [e1] at k; exact k.elim
  · simp only [e1] at k; exact k.elim
  · simp only [e1] at k
    cases t with
    | fz d =>
      obtain ⟨B, h1, h2, h3⟩ := id S.sl
      obtain ⟨v, A, A', e2, o1, p1, s1⟩ := h1.get e1
      cases o1 with
      | fz r => exact go d ρ G v (Same.refl G) e2 r S k
    | ow ts => obtain ⟨G1, sm, v, e2, r, S1⟩ := own _ e1; exact go _ _ G1 v sm e2 r S1 k
    | odk ts => obtain ⟨G1, sm, v, e2, r, S1⟩ := own _ e1; exact go _ _ G1 v sm e2 r S1 k
    | odt ts => obtain ⟨G1, sm, v, e2, r, S1⟩ := own _ e1; exact go _ _ G1 v sm e2 r S1 k
/-- if -/
def ifM (t : M Bool) (f g : Stm) : Stm := thn1 t fun b => if b = true then f else g
theorem sd_if {c : Expr} {as bs : List Stmt} {t : M Bool} (hc : TD X fd W c t) (ha : SDs X fd W as f) (hb : SDs X fd W bs g) : SD X fd W (.If c as bs pos) (ifM t f g) := by
  refine PS.imp (ps_if hc ha hb) fun D σ H ⟨F, G, ρ, s, k⟩ => ⟨F, G, ρ, s, (k.thn RB_F).mono fun x H1 ⟨b, G1, ρ1, s1, sm1, ⟨_, r1⟩, k1⟩ => ?_⟩
  subst r1
  cases x with
  | true => exact iteT ⟨F, G1, ρ1, s1, k1⟩
  | false => exact iteF ⟨F, G1, ρ1, s1, k1⟩
/-- for -/
def loop (t : Tgt) (ks : List Nat) (f : Stm) : List D → Stm
  | [] => skip
  | d :: ds => fun ρ s => match t d ρ with
    | none => .bad
    | some ρ1 => match f ρ1 s with
      | .nx ρ2 s2 => loop t ks f ds (kl ks ρ2) s2
      | .ct ρ2 s2 => loop t ks f ds (kl ks ρ2) s2
      | .bk ρ2 s2 => .nx (kl ks ρ2) s2
      | o => o
def forS (it : M (List D)) (t : Tgt) (ks : List Nat) (f : Stm) : Stm := thn1 it (loop t ks f)
theorem sd_for {it : M (List D)} {t : Tgt} {is : List Nat} {body : List Stmt} (ks : List Nat) (hp : PassesOwn (model X.prog X.w) X.A X.env X.xe) (hc : X.calm = true) (hi : ID X fd W tg e it) (hg : GD X fd tg is t) (hb : SDs X fd W body f) (hfs : ∀ x, foldedSetIterable e X.env x = pure x := by intro _; rfl) :
    SD X fd W (.For tg e body [] pos) (forS it t ks f) := by
  refine PS.imp (ps_for hp hc hi hg hb hfs) fun D σ H ⟨F, G, ρ, s, k⟩ => ⟨F, G, ρ, s, (k.thn RI_F).mono fun J H1 ⟨ds, G1, ρ1, s1, sm1, ⟨_, J1⟩, k1⟩ => ?_⟩
  refine ⟨fun i m σ H => i + m = ds.length ∧ ∃ G ρ s, Same G1 G ∧ sAt (ct X fd) W F G ρ s (loop t ks f (ds.drop i)) D σ H, ⟨ds.length, by simp, G1, ρ1, s1, Same.refl _, k1⟩, fun i m σ H ⟨em, G2, ρ2, s2, sm2, S2, k2⟩ => ?_⟩
  by_cases hi : i < ds.length
  · rw [List.drop_eq_getElem_cons hi] at k2
    unfold loop at k2
    cases ht : t ds[i] ρ2 with
    | none => simp only [ht] at k2; exact k2.elim
    | some ρ3 =>
      simp only [ht] at k2
      refine .inr ⟨J1.go i H hi (sm2.trans S2.sub), fun σ' H' => ∃ G ρ s, Same G1 G ∧ sAt (ct X fd) W F G ρ s (loop t ks f (ds.drop (i + 1))) D σ' H', fun σ' H' ⟨G', ρ', s', sm', k'⟩ => ⟨m - 1, by omega, by omega, G', ρ', s', sm', k'⟩, fun x H' y => ?_⟩
      obtain ⟨G3, sm3, S3, r3⟩ := J1.turn S2 sm2 (List.getElem?_eq_getElem hi) y
      refine ⟨F, G3, ρ2, s2, _, ρ3, S3, r3, ht, fun σ4 S4 _ _ => ⟨F, G3, ρ3, s2, S4, ?_⟩⟩
      cases hf : f ρ3 s2 with
      | nx ρ5 s5 => simp only [hf] at k2; exact fun σ' H' G' sm' S' => ⟨G', _, _, (sm2.trans sm3).trans sm', S'.kl ks, k2.mono (sm3.trans sm')⟩
      | ct ρ5 s5 => simp only [hf] at k2; exact fun σ' H' G' sm' S' => ⟨G', _, _, (sm2.trans sm3).trans sm', S'.kl ks, k2.mono (sm3.trans sm')⟩
      | bk ρ5 s5 => simp only [hf] at k2; exact fun σ' H' G' sm' S' => k2 σ' H' G' (sm3.trans sm') (S'.kl ks)
      | rt t5 s5 => simp only [hf] at k2; exact k2.mono sm3
      | ex t5 s5 => simp only [hf] at k2; exact k2.mono (D := D) sm3
      | bad => simp only [hf] at k2; exact k2
  · have : i = ds.length := by omega
    subst this
    rw [List.drop_length] at k2
    exact .inl ⟨J1.stop H (sm2.trans S2.sub), k2 σ H G2 (Same.refl _) S2⟩
/-- while -/
def whl (t : M Bool) (ks : List Nat) (f : Stm) : Nat → Stm
  | 0 => fun _ _ => .bad
  | n + 1 => thn1 t fun b ρ1 s1 => if b = true then (match f ρ1 s1 with
      | .nx ρ2 s2 => whl t ks f n (kl ks ρ2) s2
      | .ct ρ2 s2 => whl t ks f n (kl ks ρ2) s2
      | .bk ρ2 s2 => .nx (kl ks ρ2) s2
      | o => o) else .nx ρ1 s1
theorem sd_while {c : Expr} {t : M Bool} {body : List Stmt} (ks : List Nat) (n : Nat) (hp : PassesOwn (model X.prog X.w) X.A X.env X.xe) (hc : TD X fd W c t) (hb : SDs X fd W body f) : SD X fd W (.While c body [] pos) (whl t ks f n) := by
  refine PS.imp (ps_while hp hc hb) fun D σ H ⟨F, G, ρ, s, k⟩ => ?_
  refine ⟨fun m σ H => ∃ G1 ρ s, Same G G1 ∧ sAt (ct X fd) W F G1 ρ s (whl t ks f m) D σ H, ⟨n, G, ρ, s, Same.refl _, k⟩, fun m σ H ⟨G2, ρ2, s2, sm2, k2⟩ => ?_⟩
  cases m with
  | zero => exact k2.2.elim
  | succ m =>
    unfold whl at k2
    refine ⟨F, G2, ρ2, s2, (k2.thn RB_F).mono fun x H1 ⟨b, G3, ρ3, s3, sm3, ⟨_, r3⟩, k3⟩ => ?_⟩
    subst r3
    cases x with
    | false => exact iteF (k3.2 σ H1 G3 (Same.refl _) k3.1)
    | true =>
      refine iteT ⟨fun σ' H' => ∃ G1 ρ s, Same G G1 ∧ sAt (ct X fd) W F G1 ρ s (whl t ks f m) D σ' H', fun σ' H' h => ⟨m, by omega, h⟩, F, G3, ρ3, s3, k3.1, ?_⟩
      have k4 := k3.2
      simp only [if_pos] at k4
      cases hf : f ρ3 s3 with
      | nx ρ5 s5 => simp only [hf] at k4; exact fun σ' H' G' sm' S' => ⟨G', _, _, (sm2.trans sm3).trans sm', S'.kl ks, k4.mono sm'⟩
      | ct ρ5 s5 => simp only [hf] at k4; exact fun σ' H' G' sm' S' => ⟨G', _, _, (sm2.trans sm3).trans sm', S'.kl ks, k4.mono sm'⟩
      | bk ρ5 s5 => simp only [hf] at k4; exact fun σ' H' G' sm' S' => k4 σ' H' G' sm' (S'.kl ks)
      | rt t5 s5 => simp only [hf] at k4; exact k4
      | ex t5 s5 => simp only [hf] at k4; exact k4
      | bad => simp only [hf] at k4; exact k4
end
end DL

set_option Elab.async false
set_option linter.all false
set_option maxRecDepth 100000
namespace DL
open PySem PySem.Spec PyProof.Rows L2

/-! ### list comprehensions -/
structure AccSt (c : Ct) (F G H : Hp) (D : Addr) (acc : List V) (ts : List OT) (A : List Addr) (σ : L2.St) (ρ : Env) (s : FS) : Prop where
  at_ : H D = some (.lst acc)
  own : OwnL c G H ts acc A
  nd : (D :: A).Nodup
  fr : ∀ a ∈ D :: A, F a = none
  sat : Sat c (ovl F H (D :: A)) G H σ ρ s
section
variable {c : Ct} {F G G' H H' : Hp} {D : Addr} {acc : List V} {ts : List OT} {A : List Addr} {σ σ' : L2.St} {ρ ρ' : Env} {s s' : FS}
theorem AccSt.there (S : AccSt c F G H D acc ts A σ ρ s) : ∀ a ∈ D :: A, ∃ o, H a = some o := fun a ha => by
  rcases List.mem_cons.mp ha with e | ha
  · rw [e]; exact ⟨_, S.at_⟩
  · exact S.own.there a ha
/-- something has been reckoned beside -/
theorem AccSt.keep (S : AccSt c F G H D acc ts A σ ρ s) (sm : Same G G') (S' : Sat c (ovl F H (D :: A)) G' H' σ' ρ' s') : AccSt c F G' H' D acc ts A σ' ρ' s' := by
  have k : ∀ a ∈ D :: A, H' a = H a := fun a ha => by
    obtain ⟨o, e⟩ := S.there a ha
    rw [e]
    exact (S'.fr a o (by rw [ovl_in ha, e])).1
  refine ⟨(k D (by simp)).trans S.at_, S.own.mono sm fun a ha => k a (by simp [ha]), S.nd, S.fr, ?_⟩
  have : ovl F H' (D :: A) = ovl F H (D :: A) := by
    funext a
    by_cases ha : a ∈ D :: A
    · rw [ovl_in ha, ovl_in ha, k a ha]
    · rw [ovl_out ha, ovl_out ha]
  rw [this]; exact S'
theorem AccSt.map (S : AccSt c F G H D acc ts A σ ρ s) (f : ∀ F, Sat c F G H σ ρ s → Sat c F G H σ' ρ' s') : AccSt c F G H D acc ts A σ' ρ' s' := ⟨S.at_, S.own, S.nd, S.fr, f _ S.sat⟩
theorem AccSt.add {t : OT} {y : V} {B : List Addr} (S : AccSt c F G H D acc ts A σ ρ s) (o : Own c G H t y B) (nB : B.Nodup) (fB : ∀ b ∈ B, ovl F H (D :: A) b = none) (S' : Sat c (ovl (ovl F H (D :: A)) H B) G H σ ρ s) :
    AccSt c F G (upd H D (.lst (acc ++ [y]))) D (acc ++ [y]) (ts ++ [t]) (A ++ B) σ ρ s := by
  have dj : ∀ b ∈ B, b ∉ D :: A := fun b hb z => by
    have := fB b hb
    rw [ovl_in z] at this
    obtain ⟨o, e⟩ := S.there b z
    rw [e] at this; cases this
  have hF : ∀ b ∈ B, F b = none := fun b hb => by have := fB b hb; rwa [ovl_out (dj b hb)] at this
  have nDA : D ∉ A := (List.nodup_cons.mp S.nd).1
  have nDB : D ∉ B := fun z => dj D z (by simp)
  refine ⟨upd_same, ?_, ?_, fun a ha => ?_, ?_⟩
  · have h1 : OwnL c G (upd H D (.lst (acc ++ [y]))) ts acc A := S.own.mono (Same.refl G) fun a ha => upd_ne fun z => nDA (z ▸ ha)
    have h2 : Own c G (upd H D (.lst (acc ++ [y]))) t y B := o.mono (Same.refl G) fun a ha => upd_ne fun z => nDB (z ▸ ha)
    have := h1.append (.cons h2 .nil)
    simpa using this
  · rw [← List.cons_append, List.nodup_append]
    exact ⟨S.nd, nB, fun a ha b hb z => dj b hb (z ▸ ha)⟩
  · rw [← List.cons_append] at ha
    rcases List.mem_append.mp ha with ha | ha
    · exact S.fr a ha
    · exact hF a ha
  · have S2 := S'.chg' (p := D) (o := .lst acc) (o' := .lst (acc ++ [y])) (by rw [ovl_out nDB, ovl_in (by simp), S.at_])
    refine S2.less fun a u e => ?_
    by_cases haD : a = D
    · subst haD; rw [upd_same]; rw [ovl_in (by simp), upd_same] at e; exact e
    · rw [upd_ne haD]
      by_cases hb : a ∈ B
      · rw [ovl_in (by simp [hb]), upd_ne haD] at e
        rw [ovl_in hb]; exact e
      · rw [ovl_out hb]
        by_cases ha : a ∈ A
        · rw [ovl_in (by simp [ha]), upd_ne haD] at e
          rw [ovl_in (by simp [ha])]; exact e
        · rw [ovl_out (by simp [ha, hb, haD])] at e
          rw [ovl_out (by simp [ha, haD])]; exact e
theorem AccSt.start (S : Sat c F G H σ ρ s) (hD : H D = none) : AccSt c F G (upd H D (.lst [])) D [] [] [] σ ρ s :=
  ⟨upd_same, .nil, by simp, fun a ha => by rw [show a = D by simpa using ha]; exact S.F_none hD, S.newL hD⟩
end
def wpE (ρ : Env) : List Nat → Env
  | [] => ρ
  | v :: vs => (wpE ρ vs).set v none
theorem Sat.wipe {c : Ct} {F G H : Hp} {σ : L2.St} {ρ : Env} {s : FS} (S : Sat c F G H σ ρ s) : ∀ vs : List Nat, Sat c F G H (wipe σ vs) (wpE ρ vs) s
  | [] => S
  | v :: vs => (Sat.wipe S vs).killS v none
theorem wipe_in {σ : L2.St} {i : Nat} : ∀ {vs : List Nat}, i ∈ vs → i < σ.length → (wipe σ vs)[i]? = some none
  | v :: vs, h, hl => by
    unfold wipe
    by_cases e : v = i
    · subst e; rw [List.getElem?_set_self (by rw [wipe_length]; exact hl)]
    · rw [List.getElem?_set_ne e]
      exact wipe_in ((List.mem_cons.mp h).resolve_left fun z => e z.symm) hl
theorem wipe_agree {σ τ : L2.St} {vs : List Nat} (hl : τ.length = σ.length) (h : ∀ j, j ∉ vs → τ[j]? = (wipe σ vs)[j]?) : wipe τ vs = wipe σ vs := by
  apply List.ext_getElem?
  intro j
  by_cases hj : j ∈ vs
  · by_cases hlj : j < σ.length
    · rw [wipe_in hj hlj, wipe_in hj (by omega)]
    · rw [List.getElem?_eq_none (by rw [wipe_length]; omega), List.getElem?_eq_none (by rw [wipe_length]; omega)]
  · rw [wipe_out hj, h j hj]
def rstE (ρ0 : Env) : List Nat → Env → Env
  | [], ρ => ρ
  | v :: vs, ρ => (rstE ρ0 vs ρ).set v (ρ0[v]?.join)
def okW (ρ : Env) (vs : List Nat) : Bool := vs.all fun v => match ρ[v]? with
  | some (some (.fz _)) => true
  | some none => true
  | _ => false
def unw (σ0 : L2.St) : List Nat → L2.St → L2.St
  | [], τ => τ
  | v :: vs, τ => (unw σ0 vs τ).set v (σ0[v]?.join)
theorem unw_length (σ0 τ : L2.St) : ∀ vs, (unw σ0 vs τ).length = τ.length
  | [] => rfl
  | v :: vs => by unfold unw; rw [List.length_set, unw_length σ0 τ vs]
theorem unw_get {σ0 τ : L2.St} (hl : τ.length = σ0.length) : ∀ {vs : List Nat} {j : Nat}, (unw σ0 vs τ)[j]? = if j ∈ vs then σ0[j]? else τ[j]?
  | [], j => by simp [unw]
  | v :: vs, j => by
    unfold unw
    by_cases e : v = j
    · subst e
      rw [if_pos (by simp)]
      by_cases hj : v < σ0.length
      · rw [List.getElem?_set_self (by rw [unw_length]; omega), List.getElem?_eq_getElem hj]
        rfl
      · rw [List.getElem?_eq_none (l := σ0) (by omega), List.getElem?_eq_none (by rw [List.length_set, unw_length]; omega)]
    · rw [List.getElem?_set_ne e, unw_get hl]
      by_cases hj : j ∈ vs
      · rw [if_pos hj, if_pos (by simp [hj])]
      · rw [if_neg hj, if_neg (by simp [hj]; exact fun z => e z.symm)]
theorem unw_wipe (σ : L2.St) (vs : List Nat) : unw σ vs (wipe σ vs) = σ := by
  apply List.ext_getElem?
  intro j
  rw [unw_get (wipe_length σ vs)]
  by_cases hj : j ∈ vs
  · rw [if_pos hj]
  · rw [if_neg hj, wipe_out hj]
theorem Sat.unw {c : Ct} {F F' G G' H H' : Hp} {σ τ : L2.St} {ρ ρ' : Env} {s s' : FS} (S : Sat c F G H σ ρ s) (sm : Same G G') (S' : Sat c F' G' H' τ ρ' s') : ∀ vs : List Nat, okW ρ vs = true → Sat c F' G' H' (DL.unw σ vs τ) (rstE ρ vs ρ') s'
  | [], _ => S'
  | v :: vs, h => by
    simp only [okW, List.all_cons, Bool.and_eq_true] at h
    have ih := Sat.unw S sm S' vs h.2
    unfold DL.unw rstE
    rcases e : ρ[v]? with _ | _ | t
    · exact ih.killS v _
    · exact ih.killS v _
    · have h1 := h.1
      rw [e] at h1
      cases t with
      | fz d =>
        obtain ⟨B, g1, g2, g3⟩ := id S.sl
        obtain ⟨x, A, A', e1, o1, p1, s1⟩ := g1.get e
        rw [e1]
        cases o1 with
        | fz r => exact ih.putD' (r.mono sm)
      | _ => simp at h1
theorem Sat.back {c : Ct} {F F' G G' H H' : Hp} {σ : L2.St} {ρ ρ' : Env} {s s' : FS} (S : Sat c F G H σ ρ s) (sm : Same G G') {vs : List Nat} (S' : Sat c F' G' H' (L2.wipe σ vs) ρ' s') (h : okW ρ vs = true) : Sat c F' G' H' σ (rstE ρ vs ρ') s' := by
  have := S.unw sm S' vs h
  rwa [unw_wipe] at this
/-- the turns -/
def lcL (t : Tgt) (vs : List Nat) (tt : M Bool) (el : M OT) : List D → Env → FS → Option (List OT × Env × FS)
  | [], ρ, s => some ([], ρ, s)
  | d :: ds, ρ, s => match t d ρ with
    | none => none
    | some ρ1 => match tt ρ1 s with
      | .ok true ρ2 s2 => match el ρ2 s2 with
        | .ok y ρ3 s3 => match lcL t vs tt el ds (wpE ρ3 vs) s3 with
          | some (ys, ρ4, s4) => some (y :: ys, ρ4, s4)
          | none => none
        | _ => none
      | .ok false ρ2 s2 => lcL t vs tt el ds (wpE ρ2 vs) s2
      | _ => none
def lcB (t : Tgt) (vs : List Nat) (tt : M Bool) (el : M OT) (ds : List D) : M OT := fun ρ s =>
  if ds.length ≤ lnB ∧ okW ρ vs = true then match lcL t vs tt el ds (wpE ρ vs) s with
    | some (ys, ρ', s') => .ok (.ow ys) (rstE ρ vs ρ') s'
    | none => .bad
  else .bad
def lcM (it : M (List D)) (t : Tgt) (vs : List Nat) (tt : M Bool) (el : M OT) : M OT := it.bnd (lcB t vs tt el)
section
variable {X : Cx} {fd : Option Addr} {W : Wish}
theorem tM.at {α β : Type} {c : Ct} {W : Wish} {R : RT α β} {f : M α} {σ : L2.St} {H : Hp} {Q : β → Hp → Prop} {F G : Hp} {ρ ρ' : Env} {s s' : FS} {a : α} (S : Sat c F G H σ ρ s) (e : f ρ s = .ok a ρ' s')
    (k : ∀ v H' G' F', Same G G' → R F F' G' H' a v → Sat c F' G' H' σ ρ' s' → Q v H') : tM c W R f σ H Q := ⟨F, G, ρ, s, S, by rw [e]; exact k⟩
theorem lc_imp {c : Ct} {it : M (List D)} {t : Tgt} {is vs : List Nat} {tt : M Bool} {el : M OT} {σ : L2.St} {H : Hp} {Q : VK} (hv : ∀ i ∈ is, i ∈ vs) (k : tM c W (RO c) (lcM it t vs tt el) σ H Q) :
    tLc (tM c W (RI c) it) (tG c is t) (tM c W0 RB tt) (tM c W0 (RO c) el) vs σ H Q := by
  obtain ⟨F, G, ρ, s, k⟩ := k
  refine ⟨F, G, ρ, s, (tAt.bnd (g := lcB t vs tt el) k RI_F).mono fun J H1 ⟨ds, G1, ρ1, s1, sm1, ⟨_, J1⟩, S1, k1⟩ Dd hD => ?_⟩
  unfold lcB at k1
  by_cases hc : ds.length ≤ lnB ∧ okW ρ1 vs = true
  · rw [if_pos hc] at k1
    cases el0 : lcL t vs tt el ds (wpE ρ1 vs) s1 with
    | none => simp only [el0] at k1
    | some p =>
        obtain ⟨ys, ρ', sf⟩ := p
        simp only [el0] at k1
        refine ⟨fun i m H => i + m = ds.length ∧ ∃ G ρ s acc ts A ys2, Same G1 G ∧ AccSt c F G H Dd acc ts A (wipe σ vs) ρ s ∧ ts.length ≤ i ∧ lcL t vs tt el (ds.drop i) ρ s = some (ys2, ρ', sf) ∧ ts ++ ys2 = ys,
          ⟨ds.length, by simp, G1, wpE ρ1 vs, s1, [], [], [], ys, Same.refl _, AccSt.start (S1.wipe vs) hD, by simp, el0, rfl⟩, fun i m H2 ⟨em, G2, ρ2, s2, acc, ts, A, ys2, sm2, S2, hl, e2, e3⟩ => ?_⟩
        by_cases hi : i < ds.length
        · rw [List.drop_eq_getElem_cons hi] at e2
          unfold lcL at e2
          refine .inr ⟨J1.go i H2 hi (sm2.trans S2.sat.sub), fun H' => ∃ G ρ s acc ts A ys2, Same G1 G ∧ AccSt c F G H' Dd acc ts A (wipe σ vs) ρ s ∧ ts.length ≤ i + 1 ∧ lcL t vs tt el (ds.drop (i + 1)) ρ s = some (ys2, ρ', sf) ∧ ts ++ ys2 = ys,
            fun H' h => ⟨m - 1, by omega, by omega, h⟩, fun x H3 y => ?_⟩
          obtain ⟨G3, sm3, S3, r3⟩ := J1.turn S2.sat sm2 (List.getElem?_eq_getElem hi) y
          have S3 := S2.keep sm3 S3
          cases ht : t ds[i] ρ2 with
          | none => simp only [ht] at e2; cases e2
          | some ρ4 =>
            simp only [ht] at e2
            refine ⟨_, G3, ρ2, s2, _, ρ4, S3.sat, r3, ht, fun σ4 S4 l4 k4 => ?_⟩
            have hw : wipe σ4 vs = wipe σ vs := by
              refine wipe_agree (by rw [l4, wipe_length]) fun j hj => k4 j fun z => hj (hv j z)
            refine ⟨hw, ?_⟩
            have S4 := S3.keep (Same.refl G3) S4
            cases hb : tt ρ4 s2 with
            | bad => simp only [hb] at e2; cases e2
            | ex e s' => simp only [hb] at e2; cases e2
            | ok b ρ5 s5 =>
              refine tM.at S4.sat hb fun b' H5 G5 F5 sm5 ⟨eF, eb⟩ S5 => ?_
              subst eF eb
              have S5 := S4.keep sm5 S5
              cases b' with
              | false =>
                simp only [hb] at e2
                exact iteF ⟨G5, _, _, acc, ts, A, ys2, (sm2.trans sm3).trans sm5, by rw [← hw]; exact S5.map fun F S => S.wipe vs, by omega, e2, e3⟩
              | true =>
                simp only [hb] at e2
                refine iteT ?_
                cases he : el ρ5 s5 with
                | bad => simp only [he] at e2; cases e2
                | ex e s' => simp only [he] at e2; cases e2
                | ok z ρ6 s6 =>
                  simp only [he] at e2
                  cases hr : lcL t vs tt el (ds.drop (i + 1)) (wpE ρ6 vs) s6 with
                  | none => simp only [hr] at e2; cases e2
                  | some p =>
                    obtain ⟨ys3, ρ7, s7⟩ := p
                    simp only [hr] at e2
                    cases e2
                    refine tM.at S5.sat he fun y H6 G6 F6 sm6 ⟨B, eF, o6, n6, f6⟩ S6 => ?_
                    subst eF
                    have S6' : Sat c (ovl F H5 (Dd :: A)) G6 H6 σ4 ρ6 s6 := S6.less (ovl_sub f6)
                    have A6 := S5.keep sm6 S6'
                    have eqF : ovl F H6 (Dd :: A) = ovl F H5 (Dd :: A) := by
                      funext a
                      by_cases ha : a ∈ Dd :: A
                      · rw [ovl_in ha, ovl_in ha]
                        obtain ⟨o, e⟩ := S5.there a ha
                        rw [e]
                        exact (S6'.fr a o (by rw [ovl_in ha, e])).1
                      · rw [ovl_out ha, ovl_out ha]
                    have A7 := A6.add o6 n6 (by rw [eqF]; exact f6) (by rw [eqF]; exact S6)
                    refine ⟨acc, A6.at_, ?_, G6, _, _, acc ++ [y], ts ++ [z], A ++ B, ys3, ((sm2.trans sm3).trans sm5).trans sm6, by rw [← hw]; exact A7.map fun F S => S.wipe vs, by simp; omega, hr, by simpa using e3⟩
                    have := S2.own.length
                    exact lnB_lt (by omega)
        · have : i = ds.length := by omega
          subst this
          rw [List.drop_length] at e2
          unfold lcL at e2
          cases e2
          rw [List.append_nil] at e3
          subst e3
          refine .inl ⟨J1.stop H2 (sm2.trans S2.sat.sub), ?_⟩
          exact k1 _ H2 G2 _ sm2 ⟨Dd :: A, rfl, .ow S2.at_ S2.own, S2.nd, S2.fr⟩ (S1.back sm2 S2.sat hc.2)
  · rw [if_neg hc] at k1
    exact k1.elim
theorem wipe_wipe {σ : L2.St} {vs vs1 : List Nat} (h : ∀ i ∈ vs1, i ∈ vs) : wipe (wipe σ vs1) vs = wipe σ vs := by
  apply List.ext_getElem?
  intro j
  by_cases hj : j ∈ vs
  · by_cases hl : j < σ.length
    · rw [wipe_in hj (by rw [wipe_length]; exact hl), wipe_in hj hl]
    · rw [List.getElem?_eq_none (by rw [wipe_length, wipe_length]; omega), List.getElem?_eq_none (by rw [wipe_length]; omega)]
  · rw [wipe_out hj, wipe_out hj, wipe_out fun z => hj (h j z)]
/-- two clauses -/
def lcL2 (t : Tgt) (vs : List Nat) (tt : M Bool) (it1 : M (List D)) (t1 : Tgt) (vs1 : List Nat) (tt1 : M Bool) (el : M OT) : List D → Env → FS → Option (List OT × Env × FS)
  | [], ρ, s => some ([], ρ, s)
  | d :: ds, ρ, s => match t d ρ with
    | none => none
    | some ρ1 => match tt ρ1 s with
      | .ok true ρ2 s2 => match it1 ρ2 s2 with
        | .ok ds1 ρ3 s3 => match lcL t1 vs1 tt1 el ds1 (wpE ρ3 vs1) s3 with
          | some (ys, ρ4, s4) => match lcL2 t vs tt it1 t1 vs1 tt1 el ds (wpE ρ4 vs) s4 with
            | some (zs, ρ5, s5) => some (ys ++ zs, ρ5, s5)
            | none => none
          | none => none
        | _ => none
      | .ok false ρ2 s2 => lcL2 t vs tt it1 t1 vs1 tt1 el ds (wpE ρ2 vs) s2
      | _ => none
def lcB2 (t : Tgt) (vs : List Nat) (tt : M Bool) (it1 : M (List D)) (t1 : Tgt) (vs1 : List Nat) (tt1 : M Bool) (el : M OT) (ds : List D) : M OT := fun ρ s =>
  if okW ρ vs = true then match lcL2 t vs tt it1 t1 vs1 tt1 el ds (wpE ρ vs) s with
    | some (ys, ρ', s') => if ys.length ≤ lnB then .ok (.ow ys) (rstE ρ vs ρ') s' else .bad
    | none => .bad
  else .bad
def lcM2 (it : M (List D)) (t : Tgt) (vs : List Nat) (tt : M Bool) (it1 : M (List D)) (t1 : Tgt) (vs1 : List Nat) (tt1 : M Bool) (el : M OT) : M OT := it.bnd (lcB2 t vs tt it1 t1 vs1 tt1 el)
theorem lc2_imp {c : Ct} {it it1 : M (List D)} {t t1 : Tgt} {is is1 vs vs1 : List Nat} {tt tt1 : M Bool} {el : M OT} {σ : L2.St} {H : Hp} {Q : VK} (hv : ∀ i ∈ is, i ∈ vs) (hv1 : ∀ i ∈ is1, i ∈ vs1) (hvv : ∀ i ∈ vs1, i ∈ vs) (k : tM c W (RO c) (lcM2 it t vs tt it1 t1 vs1 tt1 el) σ H Q) :
    tLc2 (tM c W (RI c) it) (tG c is t) (tM c W0 RB tt) (tM c W0 (RI c) it1) (tG c is1 t1) (tM c W0 RB tt1) (tM c W0 (RO c) el) vs vs1 σ H Q := by
  obtain ⟨F, G, ρ, s, k⟩ := k
  refine ⟨F, G, ρ, s, (tAt.bnd (g := lcB2 t vs tt it1 t1 vs1 tt1 el) k RI_F).mono fun J H1 ⟨ds, G1, ρ1, s1, sm1, ⟨_, J1⟩, S1, k1⟩ Dd hD => ?_⟩
  unfold lcB2 at k1
  by_cases hc : okW ρ1 vs = true
  · rw [if_pos hc] at k1
    cases el0 : lcL2 t vs tt it1 t1 vs1 tt1 el ds (wpE ρ1 vs) s1 with
    | none => simp only [el0] at k1
    | some p =>
        obtain ⟨ys, ρ', sf⟩ := p
        simp only [el0] at k1
        by_cases hL : ys.length ≤ lnB
        · rw [if_pos hL] at k1
          refine ⟨fun i m H => i + m = ds.length ∧ ∃ G ρ s acc ts A ys2, Same G1 G ∧ AccSt c F G H Dd acc ts A (wipe σ vs) ρ s ∧ lcL2 t vs tt it1 t1 vs1 tt1 el (ds.drop i) ρ s = some (ys2, ρ', sf) ∧ ts ++ ys2 = ys,
            ⟨ds.length, by simp, G1, wpE ρ1 vs, s1, [], [], [], ys, Same.refl _, AccSt.start (S1.wipe vs) hD, el0, rfl⟩, fun i m H2 ⟨em, G2, ρ2, s2, acc, ts, A, ys2, sm2, S2, e2, e3⟩ => ?_⟩
          by_cases hi : i < ds.length
          · rw [List.drop_eq_getElem_cons hi] at e2
            unfold lcL2 at e2
            refine .inr ⟨J1.go i H2 hi (sm2.trans S2.sat.sub), fun H' => ∃ G ρ s acc ts A ys2, Same G1 G ∧ AccSt c F G H' Dd acc ts A (wipe σ vs) ρ s ∧ lcL2 t vs tt it1 t1 vs1 tt1 el (ds.drop (i + 1)) ρ s = some (ys2, ρ', sf) ∧ ts ++ ys2 = ys,
              fun H' h => ⟨m - 1, by omega, by omega, h⟩, fun x H3 y => ?_⟩
            obtain ⟨G3, sm3, S3, r3⟩ := J1.turn S2.sat sm2 (List.getElem?_eq_getElem hi) y
            have S3 := S2.keep sm3 S3
            cases ht : t ds[i] ρ2 with
            | none => simp only [ht] at e2; cases e2
            | some ρ4 =>
              simp only [ht] at e2
              refine ⟨_, G3, ρ2, s2, _, ρ4, S3.sat, r3, ht, fun σ4 S4 l4 k4 => ?_⟩
              have hw : wipe σ4 vs = wipe σ vs := wipe_agree (by rw [l4, wipe_length]) fun j hj => k4 j fun z => hj (hv j z)
              refine ⟨hw, ?_⟩
              have S4 := S3.keep (Same.refl G3) S4
              cases hb : tt ρ4 s2 with
              | bad => simp only [hb] at e2; cases e2
              | ex e s' => simp only [hb] at e2; cases e2
              | ok b ρ5 s5 =>
                refine tM.at S4.sat hb fun b' H5 G5 F5 sm5 ⟨eF, eb⟩ S5 => ?_
                subst eF eb
                have S5 := S4.keep sm5 S5
                cases b' with
                | false =>
                  simp only [hb] at e2
                  exact iteF ⟨G5, _, _, acc, ts, A, ys2, (sm2.trans sm3).trans sm5, by rw [← hw]; exact S5.map fun F S => S.wipe vs, e2, e3⟩
                | true =>
                  simp only [hb] at e2
                  refine iteT ?_
                  cases hit : it1 ρ5 s5 with
                  | bad => simp only [hit] at e2; cases e2
                  | ex e s' => simp only [hit] at e2; cases e2
                  | ok ds1 ρ6 s6 =>
                    simp only [hit] at e2
                    cases hin : lcL t1 vs1 tt1 el ds1 (wpE ρ6 vs1) s6 with
                    | none => simp only [hin] at e2; cases e2
                    | some p =>
                      obtain ⟨ysi, ρ7, s7⟩ := p
                      simp only [hin] at e2
                      cases hrest : lcL2 t vs tt it1 t1 vs1 tt1 el (ds.drop (i + 1)) (wpE ρ7 vs) s7 with
                      | none => simp only [hrest] at e2; cases e2
                      | some p =>
                        obtain ⟨zs, ρ8, s8⟩ := p
                        simp only [hrest] at e2
                        cases e2
                        refine tM.at S5.sat hit fun K1 H6 G6 F6 sm6 ⟨eF, K1ok⟩ S6 => ?_
                        subst eF
                        have S6 := S5.keep sm6 S6
                        have sm06 : Same G1 G6 := ((sm2.trans sm3).trans sm5).trans sm6
                        refine ⟨fun j k H => j + k = ds1.length ∧ ∃ G ρ s acc ts A ys2, Same G6 G ∧ AccSt c F G H Dd acc ts A (wipe σ4 vs1) ρ s ∧ lcL t1 vs1 tt1 el (ds1.drop j) ρ s = some (ys2, ρ7, s7) ∧ ts ++ (ys2 ++ zs) = ys,
                          ⟨ds1.length, by simp, G6, wpE ρ6 vs1, s6, acc, ts, A, ysi, Same.refl _, S6.map fun F S => S.wipe vs1, hin, e3⟩, fun j kk H7 ⟨em1, G7, ρ9, s9, acc1, ts1, A1, ys3, sm7, S7, e4, e5⟩ => ?_⟩
                        by_cases hj : j < ds1.length
                        · rw [List.drop_eq_getElem_cons hj] at e4
                          unfold lcL at e4
                          refine .inr ⟨K1ok.go j H7 hj (sm7.trans S7.sat.sub), fun H' => ∃ G ρ s acc ts A ys2, Same G6 G ∧ AccSt c F G H' Dd acc ts A (wipe σ4 vs1) ρ s ∧ lcL t1 vs1 tt1 el (ds1.drop (j + 1)) ρ s = some (ys2, ρ7, s7) ∧ ts ++ (ys2 ++ zs) = ys,
                            fun H' h => ⟨kk - 1, by omega, by omega, h⟩, fun x H8 y => ?_⟩
                          obtain ⟨G8, sm8, S8, r8⟩ := K1ok.turn S7.sat sm7 (List.getElem?_eq_getElem hj) y
                          have S8 := S7.keep sm8 S8
                          cases ht1 : t1 ds1[j] ρ9 with
                          | none => simp only [ht1] at e4; cases e4
                          | some ρA =>
                            simp only [ht1] at e4
                            refine ⟨_, G8, ρ9, s9, _, ρA, S8.sat, r8, ht1, fun σ9 S9 l9 k9 => ?_⟩
                            have hw1 : wipe σ9 vs1 = wipe σ4 vs1 := wipe_agree (by rw [l9, wipe_length]) fun j hj => k9 j fun z => hj (hv1 j z)
                            refine ⟨hw1, ?_⟩
                            have S9 := S8.keep (Same.refl G8) S9
                            cases hb1 : tt1 ρA s9 with
                            | bad => simp only [hb1] at e4; cases e4
                            | ex e s' => simp only [hb1] at e4; cases e4
                            | ok b ρB sB =>
                              refine tM.at S9.sat hb1 fun b' HB GB FB smB ⟨eF, eb⟩ SB => ?_
                              subst eF eb
                              have SB := S9.keep smB SB
                              cases b' with
                              | false =>
                                simp only [hb1] at e4
                                exact iteF ⟨GB, _, _, acc1, ts1, A1, ys3, (sm7.trans sm8).trans smB, by rw [← hw1]; exact SB.map fun F S => S.wipe vs1, e4, e5⟩
                              | true =>
                                simp only [hb1] at e4
                                refine iteT ?_
                                cases he : el ρB sB with
                                | bad => simp only [he] at e4; cases e4
                                | ex e s' => simp only [he] at e4; cases e4
                                | ok z ρC sC =>
                                  simp only [he] at e4
                                  cases hr : lcL t1 vs1 tt1 el (ds1.drop (j + 1)) (wpE ρC vs1) sC with
                                  | none => simp only [hr] at e4; cases e4
                                  | some p =>
                                    obtain ⟨ys4, ρD, sD⟩ := p
                                    simp only [hr] at e4
                                    cases e4
                                    refine tM.at SB.sat he fun y HC GC FC smC ⟨B, eF, oC, nC, fC⟩ SC => ?_
                                    subst eF
                                    have SC' : Sat c (ovl F HB (Dd :: A1)) GC HC σ9 ρC sC := SC.less (ovl_sub fC)
                                    have AC := SB.keep smC SC'
                                    have eqF : ovl F HC (Dd :: A1) = ovl F HB (Dd :: A1) := by
                                      funext a
                                      by_cases ha : a ∈ Dd :: A1
                                      · rw [ovl_in ha, ovl_in ha]
                                        obtain ⟨o, e⟩ := SB.there a ha
                                        rw [e]
                                        exact (SC'.fr a o (by rw [ovl_in ha, e])).1
                                      · rw [ovl_out ha, ovl_out ha]
                                    have AD := AC.add oC nC (by rw [eqF]; exact fC) (by rw [eqF]; exact SC)
                                    refine ⟨acc1, AC.at_, ?_, GC, _, _, acc1 ++ [y], ts1 ++ [z], A1 ++ B, ys4, ((sm7.trans sm8).trans smB).trans smC, by rw [← hw1]; exact AD.map fun F S => S.wipe vs1, hr, by simpa using e5⟩
                                    have h1 := S7.own.length
                                    have h2 := congrArg List.length e5
                                    rw [List.length_append, List.length_append, List.length_cons] at h2
                                    exact lnB_lt (by omega)
                        · have : j = ds1.length := by omega
                          subst this
                          rw [List.drop_length] at e4
                          unfold lcL at e4
                          cases e4
                          refine .inl ⟨K1ok.stop H7 (sm7.trans S7.sat.sub), G7, wpE ρ7 vs, s7, acc1, ts1, A1, zs, sm06.trans sm7, ?_, hrest, by simpa using e5⟩
                          rw [← hw, ← wipe_wipe hvv]
                          exact S7.map fun F S => S.wipe vs
          · have : i = ds.length := by omega
            subst this
            rw [List.drop_length] at e2
            unfold lcL2 at e2
            cases e2
            rw [List.append_nil] at e3
            subst e3
            refine .inl ⟨J1.stop H2 (sm2.trans S2.sat.sub), ?_⟩
            exact k1 _ H2 G2 _ sm2 ⟨Dd :: A, rfl, .ow S2.at_ S2.own, S2.nd, S2.fr⟩ (S1.back sm2 S2.sat hc)
        · rw [if_neg hL] at k1
          exact k1.elim
  · rw [if_neg hc] at k1
    exact k1.elim

/-! ### the rules -/
variable {elt tg iter tg1 iter1 : Expr} {ifs ifs1 : List Expr} {scope : Scope} {own : List (Str × Nat)} {pos spos : Pos} {it it1 : M (List D)} {t t1 : Tgt} {is is1 vs1 : List Nat} {tt tt1 : M Bool} {el : M OT}
abbrev bX (X : Cx) (s : Shared) (H : Hp) (scope : Scope) (cl : List (Str × Addr)) (C : Addr) (fp : List Addr) : Cx := X.blk s H scope (compEnvC scope cl C X.env) fp
theorem tds_nil : TDs X fd W [] (M.ret true) := PTs.imp pts_nil fun σ H Q ⟨F, G, ρ, s, k⟩ => tAt.ret k true H G F (Same.refl _) ⟨rfl, rfl⟩ k.1
theorem tds_one {c : Expr} {m : M Bool} (h : TD X fd W c m) : TDs X fd W [c] m := pts_one h
theorem pn_lc (hc : X.calm = true) (hN : X.N.Nodup) (hi : ID X fd W tg iter it) (ok : BlkOk X.N X.env.scope scope own) (hv : ∀ i ∈ is, i ∈ own.map (·.2))
    (hg : ∀ s H C cl fp, GD (bX X s H scope cl C fp) fd tg is t) (ht : ∀ s H C cl fp, TDs (bX X s H scope cl C fp) fd W0 ifs tt)
    (he : ∀ s H C cl fp, PN (bX X s H scope cl C fp) fd W0 elt el) (hs : ∀ x, foldedSetIterable iter X.env x = pure x := by intro _; rfl) :
    PN X fd W (.ListComp elt [⟨tg, iter, ifs, 0⟩] scope pos) (lcM it t (own.map (·.2)) tt el) :=
  PE.imp (pe_lc (g := tG (ct X fd) is t) (tt := tM (ct X fd) W0 RB tt) (te := tM (ct X fd) W0 (RO (ct X fd)) el) hc hN hi ok hg ht he hs) fun σ H Q k => lc_imp hv k
theorem sd_setLc {i : Nat} {y : Str} {py : Pos} (hc : X.calm = true) (hN : X.N.Nodup) (hy : X.N[i]? = some y) (hyl : X.env.scope.names.lookup y = some .local)
    (hsw : swapsWith (.ListComp elt [⟨tg, iter, ifs, 0⟩] scope pos) (some (.Name y py)) spos.line X.env = pure true) (hi : ID X fd W tg iter it) (ok : BlkOk X.N X.env.scope scope own) (hv : ∀ i ∈ is, i ∈ own.map (·.2))
    (hg : ∀ s H C cl fp, GD (bX X s H scope cl C fp) fd tg is t) (ht : ∀ s H C cl fp, TDs (bX X s H scope cl C fp) fd W0 ifs tt)
    (he : ∀ s H C cl fp, PN (bX X s H scope cl C fp) fd W0 elt el) (hs : ∀ x, foldedSetIterable iter X.env x = pure x := by intro _; rfl) :
    SD X fd W (.Assign [.Name y py] (.ListComp elt [⟨tg, iter, ifs, 0⟩] scope pos) spos) (stN i (lcM it t (own.map (·.2)) tt el)) :=
  PS.imp (ps_setLc (g := tG (ct X fd) is t) (tt := tM (ct X fd) W0 RB tt) (te := tM (ct X fd) W0 (RO (ct X fd)) el) hc hN hy hyl hsw hi ok hg ht he hs) fun D σ H k => lc_imp hv (stN_ok k)
theorem pn_lc2 (hc : X.calm = true) (hN : X.N.Nodup) (hi : ID X fd W tg iter it) (ok : BlkOk X.N X.env.scope scope own) (hvv : ∀ i ∈ vs1, i ∈ own.map (·.2)) (hv : ∀ i ∈ is, i ∈ own.map (·.2)) (hv1 : ∀ i ∈ is1, i ∈ vs1)
    (hg : ∀ s H C cl fp, GD (bX X s H scope cl C fp) fd tg is t) (ht : ∀ s H C cl fp, TDs (bX X s H scope cl C fp) fd W0 ifs tt)
    (hi1 : ∀ s H C cl fp, ID (bX X s H scope cl C fp) fd W0 tg1 iter1 it1) (hg1 : ∀ s H C cl fp, GD (bX X s H scope cl C fp) fd tg1 is1 t1) (ht1 : ∀ s H C cl fp, TDs (bX X s H scope cl C fp) fd W0 ifs1 tt1)
    (he : ∀ s H C cl fp, PN (bX X s H scope cl C fp) fd W0 elt el) (hs : ∀ x, foldedSetIterable iter X.env x = pure x := by intro _; rfl) (hs1 : ∀ env x, foldedSetIterable iter1 env x = pure x := by intro _ _; rfl) :
    PN X fd W (.ListComp elt [⟨tg, iter, ifs, 0⟩, ⟨tg1, iter1, ifs1, 0⟩] scope pos) (lcM2 it t (own.map (·.2)) tt it1 t1 vs1 tt1 el) :=
  PE.imp (pe_lc2 (g := tG (ct X fd) is t) (tt := tM (ct X fd) W0 RB tt) (te := tM (ct X fd) W0 (RO (ct X fd)) el) (wi1 := tM (ct X fd) W0 (RI (ct X fd)) it1) (g1 := tG (ct X fd) is1 t1) (tt1 := tM (ct X fd) W0 RB tt1) hc hN hi ok hvv hg ht hi1 hg1 ht1 he hs hs1) fun σ H Q k => lc2_imp hv hv1 hvv k
theorem sd_setLc2 {i : Nat} {y : Str} {py : Pos} (hc : X.calm = true) (hN : X.N.Nodup) (hy : X.N[i]? = some y) (hyl : X.env.scope.names.lookup y = some .local)
    (hsw : swapsWith (.ListComp elt [⟨tg, iter, ifs, 0⟩, ⟨tg1, iter1, ifs1, 0⟩] scope pos) (some (.Name y py)) spos.line X.env = pure true) (hi : ID X fd W tg iter it) (ok : BlkOk X.N X.env.scope scope own) (hvv : ∀ i ∈ vs1, i ∈ own.map (·.2)) (hv : ∀ i ∈ is, i ∈ own.map (·.2)) (hv1 : ∀ i ∈ is1, i ∈ vs1)
    (hg : ∀ s H C cl fp, GD (bX X s H scope cl C fp) fd tg is t) (ht : ∀ s H C cl fp, TDs (bX X s H scope cl C fp) fd W0 ifs tt)
    (hi1 : ∀ s H C cl fp, ID (bX X s H scope cl C fp) fd W0 tg1 iter1 it1) (hg1 : ∀ s H C cl fp, GD (bX X s H scope cl C fp) fd tg1 is1 t1) (ht1 : ∀ s H C cl fp, TDs (bX X s H scope cl C fp) fd W0 ifs1 tt1)
    (he : ∀ s H C cl fp, PN (bX X s H scope cl C fp) fd W0 elt el) (hs : ∀ x, foldedSetIterable iter X.env x = pure x := by intro _; rfl) (hs1 : ∀ env x, foldedSetIterable iter1 env x = pure x := by intro _ _; rfl) :
    SD X fd W (.Assign [.Name y py] (.ListComp elt [⟨tg, iter, ifs, 0⟩, ⟨tg1, iter1, ifs1, 0⟩] scope pos) spos) (stN i (lcM2 it t (own.map (·.2)) tt it1 t1 vs1 tt1 el)) :=
  PS.imp (ps_setLc2 (g := tG (ct X fd) is t) (tt := tM (ct X fd) W0 RB tt) (te := tM (ct X fd) W0 (RO (ct X fd)) el) (wi1 := tM (ct X fd) W0 (RI (ct X fd)) it1) (g1 := tG (ct X fd) is1 t1) (tt1 := tM (ct X fd) W0 RB tt1) hc hN hy hyl hsw hi ok hvv hg ht hi1 hg1 ht1 he hs hs1) fun D σ H k => lc2_imp hv hv1 hvv (stN_ok k)
end
end DL

set_option Elab.async false
set_option linter.all false
set_option maxRecDepth 100000
namespace DL
open PySem PySem.Spec PyProof.Rows L2

/-! ### defs -/
def s00 : FS := ⟨[], 0, 0, 0, false⟩
def env0 (n : Nat) (ds : List D) : Env := ds.map (fun d => some (.fz d)) ++ List.replicate (n - ds.length) none
/-- a def that draws nothing: its value -/
def runP (n : Nat) (b : Stm) (ds : List D) : Option OT := match b (env0 n ds) s00 with
  | .nx _ _ => some (.fz .non)
  | .rt t _ => some t
  | _ => none
def spP (K : PySem.W.Frag) (n : Nat) (m : List D → Option OT) : Sp := fun vs H Q _ => ∃ (fo : Option Addr) (G : Hp) (ds : List D) (t : OT), Same G H ∧ RepL ⟨K, fo⟩ G ds vs ∧ ds.length = n ∧ m ds = some t ∧
  ∀ v H' G' A, Same G G' → Same G' H' → Same H H' → (∀ a o, H a = some o → G a = none → G' a = none) → Own ⟨K, fo⟩ G' H' t v A → A.Nodup → (∀ a ∈ A, H a = none ∧ G' a = none) → Q v H'
theorem slots0 {c : Ct} {G H : Hp} : ∀ {ds : List D} {vs : List V} (k : Nat), RepL c G ds vs → Slots c G H (ds.map (fun d => some (.fz d)) ++ List.replicate k none) (vs.map some ++ List.replicate k none) []
  | _, _, 0, .nil => .nil
  | _, _, k + 1, .nil => by
    have := slots0 (c := c) (G := G) (H := H) k RepL.nil
    simpa [List.replicate_succ] using Slots.no (v := none) this
  | _, _, k, .cons h r => by
    have := Slots.so (B := []) (Own.fz (H := H) h) (slots0 k r)
    simpa using this
def frm (G H : Hp) : Hp := fun a => if (G a).isNone then H a else none
theorem frm_some {G H : Hp} {a : Addr} {o : HO} (h : frm G H a = some o) : H a = some o ∧ G a = none := by
  unfold frm at h
  split at h
  · rename_i c
    exact ⟨h, by simpa using c⟩
  · cases h
theorem frm_of {G H : Hp} {a : Addr} {o : HO} (h : H a = some o) (g : G a = none) : frm G H a = some o := by unfold frm; rw [g]; exact h
section
variable {P : Program} {w : World} {K : PySem.W.Frag} {mg : Str → Option Value} {base : Heap}
theorem fn_pure {x qual : Str} {st : Stmt} {f : Addr} {fd : FuncData} {N ps : List Str} {k : Nat} {b : Stm} (F : Fun K x qual st f fd) (S : FnScope N ps (defScope st))
    (hbody : ∀ (cdv : Value) (A : Around) (outer : List PySem.Env) (s : Shared) (H : Hp) (E : XK) (fo : Option Addr), Room k (A.deeper (envOfC qual (defScope st) s.heap.objs.size f cdv)) →
      SDs (cxOf CX0 P w K mg base N qual (defScope st) f cdv A outer s H E).nox fo W0 (defBody st) b) : FnOk P w K mg base CX0 (k + 1) f fd ps (spP K ps.length (runP N.length b)) := by
  refine F.ok S (fun vs H Q E h => ?_) (fun cdv A outer s H vs Q E hr h => ?_)
  · obtain ⟨fo, G, ds, t, _, r, hl, _⟩ := h
    rw [← r.length, hl]
  · obtain ⟨fo, G, ds, t, sm, r, hl, hm, q⟩ := h
    refine ⟨_, hbody cdv A outer s H E fo hr, frm G H, G, env0 N.length ds, s00, ⟨sm, fun a o e => frm_some e, fun p e => absurd e.2 (by decide), [], ?_, List.nodup_nil, fun _ h => by simp at h⟩, ?_⟩
    · unfold env0 L2.start
      rw [← r.length]
      exact slots0 _ r
    · have keep : ∀ (F' G' H' : Hp), Same G G' → (∀ a o, frm G H a = some o → F' a = some o) → Same G' H' → (∀ a o, F' a = some o → H' a = some o ∧ G' a = none) → Same H H' ∧ (∀ a o, H a = some o → G a = none → G' a = none) := fun F' G' H' s1 s2 s3 s4 => by
        refine ⟨fun a o e => ?_, fun a o e g => (s4 a o (s2 a o (frm_of e g))).2⟩
        cases g : G a with
        | none => exact (s4 a o (s2 a o (frm_of e g))).1
        | some u =>
          have := sm a u g
          rw [e] at this
          cases this
          exact s3 _ _ (s1 _ _ g)
      unfold runP at hm
      cases hb : b (env0 N.length ds) s00 with
      | nx ρ s1 =>
        rw [hb] at hm
        cases hm
        intro σ' H' G' sm2 S'
        obtain ⟨k1, k2⟩ := keep _ G' H' sm2 (fun _ _ z => z) S'.sub S'.fr
        exact q .non H' G' [] sm2 S'.sub k1 k2 (.fz .non) List.nodup_nil fun _ h => by simp at h
      | rt t s1 =>
        rw [hb] at hm
        cases hm
        intro v H' G' A sm2 o nd hF S'
        obtain ⟨k1, k2⟩ := keep _ G' H' sm2 (ovl_sub hF) S'.sub S'.fr
        refine q v H' G' A sm2 S'.sub k1 k2 o nd fun a ha => ?_
        obtain ⟨u, e⟩ := o.there a ha
        have g' : G' a = none := (S'.fr a u (by rw [ovl_in ha, e])).2
        have g : G a = none := sm2.free g'
        refine ⟨?_, g'⟩
        cases e2 : H a with
        | none => rfl
        | some u2 =>
          have := hF a ha
          rw [frm_of e2 g] at this; cases this
      | bk ρ s1 => rw [hb] at hm; cases hm
      | ct ρ s1 => rw [hb] at hm; cases hm
      | ex e s1 => rw [hb] at hm; cases hm
      | bad => rw [hb] at hm; cases hm

theorem fn_pure2 {x qual : Str} {st : Stmt} {f : Addr} {fd : FuncData} {N ps : List Str} {k : Nat} {b : Stm} {sc : Scope} {body : List Stmt} (F : Fun K x qual st f fd) (hsc : defScope st = sc) (hbd : defBody st = body) (S : FnScope N ps (defScope st))
    (hbody : ∀ (cdv : Value) (A : Around) (outer : List PySem.Env) (s : Shared) (H : Hp) (E : XK) (fo : Option Addr), Room k (A.deeper (envOfC qual sc s.heap.objs.size f cdv)) →
      SDs (cxOf CX0 P w K mg base N qual sc f cdv A outer s H E).nox fo W0 body b) : FnOk P w K mg base CX0 (k + 1) f fd ps (spP K ps.length (runP N.length b)) := by
  subst hsc hbd
  exact fn_pure F S hbody

/-! ### a def that draws -/
def runF (n : Nat) (b : Stm) (ds : List D) (s : FS) : Option (OT × FS) := match b (env0 n ds) s with
  | .nx _ s' => if s'.lv = true then some (.fz .non, s') else none
  | .rt t s' => if s'.lv = true then some (t, s') else none
  | _ => none
def spF (K : PySem.W.Frag) (n : Nat) (m : List D → FS → Option (OT × FS)) : Sp := fun vs H Q _ => ∃ (p : Addr) (G : Hp) (ds : List D) (s : FS) (t : OT) (s' : FS), s.lv = true ∧ Same G H ∧ RepL ⟨K, some p⟩ G ds vs ∧ ds.length = n ∧ G p = none ∧ FeedAt ⟨K, some p⟩ G H p s ∧ m ds s = some (t, s') ∧
  ∀ v H' G' A, Same G G' → Same G' H' → (∀ a o, a ≠ p → H a = some o → H' a = some o) → (∀ a o, H a = some o → G a = none → G' a = none) → FeedAt ⟨K, some p⟩ G' H' p s' → s'.lv = true → Own ⟨K, some p⟩ G' H' t v A → A.Nodup → (∀ a ∈ A, H a = none ∧ G' a = none) → Q v H'
def frmF (G H : Hp) (p : Addr) : Hp := fun a => if a = p then none else frm G H a
theorem fn_feed {x qual : Str} {st : Stmt} {f : Addr} {fd : FuncData} {N ps : List Str} {k : Nat} {b : Stm} (F : Fun K x qual st f fd) (S : FnScope N ps (defScope st))
    (hbody : ∀ (cdv : Value) (A : Around) (outer : List PySem.Env) (s : Shared) (H : Hp) (E : XK) (p : Addr), Room k (A.deeper (envOfC qual (defScope st) s.heap.objs.size f cdv)) →
      SDs (cxOf CX0 P w K mg base N qual (defScope st) f cdv A outer s H E).nox (some p) W0 (defBody st) b) : FnOk P w K mg base CX0 (k + 1) f fd ps (spF K ps.length (runF N.length b)) := by
  refine F.ok S (fun vs H Q E h => ?_) (fun cdv A outer s H vs Q E hr h => ?_)
  · obtain ⟨p, G, ds, s, t, s', _, _, r, hl, _⟩ := h
    rw [← r.length, hl]
  · obtain ⟨p, G, ds, fs, t, fs', hlv, sm, r, hl, gp, hfe, hm, q⟩ := h
    have Fp : frmF G H p p = none := if_pos rfl
    refine ⟨_, hbody cdv A outer s H E p hr, frmF G H p, G, env0 N.length ds, fs, ⟨sm, fun a o e => ?_, fun p' e => ?_, [], ?_, List.nodup_nil, fun _ h => by simp at h⟩, ?_⟩
    · unfold frmF at e
      split at e
      · cases e
      · exact frm_some e
    · have : p = p' := Option.some.inj e.1
      subst this
      exact ⟨gp, Fp, hfe⟩
    · unfold env0 L2.start
      rw [← r.length]
      exact slots0 _ r
    · have keep : ∀ (F' G' H' : Hp), Same G G' → (∀ a o, frmF G H p a = some o → F' a = some o) → Same G' H' → (∀ a o, F' a = some o → H' a = some o ∧ G' a = none) → G' p = none → (∀ a o, a ≠ p → H a = some o → H' a = some o) ∧ (∀ a o, H a = some o → G a = none → G' a = none) := fun F' G' H' s1 s2 s3 s4 s5 => by
        have h1 : ∀ a o, a ≠ p → H a = some o → G a = none → F' a = some o := fun a o n e g => s2 a o (by unfold frmF; rw [if_neg n]; exact frm_of e g)
        refine ⟨fun a o n e => ?_, fun a o e g => ?_⟩
        · cases g : G a with
          | none => exact (s4 a o (h1 a o n e g)).1
          | some u =>
            have := sm a u g
            rw [e] at this
            cases this
            exact s3 _ _ (s1 _ _ g)
        · by_cases n : a = p
          · rw [n]; exact s5
          · exact (s4 a o (h1 a o n e g)).2
      unfold runF at hm
      cases hb : b (env0 N.length ds) fs with
      | nx ρ s1 =>
        rw [hb] at hm
        simp only at hm
        split at hm
        · rename_i hl1
          cases hm
          intro σ' H' G' sm2 S'
          obtain ⟨g5, f5, fe5⟩ := S'.fd p ⟨rfl, hl1⟩
          obtain ⟨k1, k2⟩ := keep _ G' H' sm2 (fun _ _ z => z) S'.sub S'.fr g5
          exact q .non H' G' [] sm2 S'.sub k1 k2 fe5 hl1 (.fz .non) List.nodup_nil fun _ h => by simp at h
        · cases hm
      | rt t s1 =>
        rw [hb] at hm
        simp only at hm
        split at hm
        · rename_i hl1
          cases hm
          intro v H' G' A sm2 o nd hF S'
          obtain ⟨g5, f5, fe5⟩ := S'.fd p ⟨rfl, hl1⟩
          obtain ⟨k1, k2⟩ := keep _ G' H' sm2 (ovl_sub hF) S'.sub S'.fr g5
          refine q v H' G' A sm2 S'.sub k1 k2 fe5 hl1 o nd fun a ha => ?_
          obtain ⟨u, e⟩ := o.there a ha
          have g' : G' a = none := (S'.fr a u (by rw [ovl_in ha, e])).2
          have g : G a = none := sm2.free g'
          refine ⟨?_, g'⟩
          cases e2 : H a with
          | none => rfl
          | some u2 =>
            have hap : a ≠ p := fun z => by subst z; rw [ovl_in ha, e] at f5; cases f5
            have := hF a ha
            unfold frmF at this
            rw [if_neg hap, frm_of e2 g] at this; cases this
        · cases hm
      | bk ρ s1 => rw [hb] at hm; cases hm
      | ct ρ s1 => rw [hb] at hm; cases hm
      | ex e s1 => rw [hb] at hm; cases hm
      | bad => rw [hb] at hm; cases hm
theorem fn_feed2 {x qual : Str} {st : Stmt} {f : Addr} {fd : FuncData} {N ps : List Str} {k : Nat} {b : Stm} {sc : Scope} {body : List Stmt} (F : Fun K x qual st f fd) (hsc : defScope st = sc) (hbd : defBody st = body) (S : FnScope N ps (defScope st))
    (hbody : ∀ (cdv : Value) (A : Around) (outer : List PySem.Env) (s : Shared) (H : Hp) (E : XK) (p : Addr), Room k (A.deeper (envOfC qual sc s.heap.objs.size f cdv)) →
      SDs (cxOf CX0 P w K mg base N qual sc f cdv A outer s H E).nox (some p) W0 body b) : FnOk P w K mg base CX0 (k + 1) f fd ps (spF K ps.length (runF N.length b)) := by
  subst hsc hbd
  exact fn_feed F S hbody
end

/-! ### calls -/
def callP (n : Nat) (m : List D → Option OT) (g : M (List D)) : M OT := g.bnd fun ds => M.lft (if ds.length = n then m ds else none)
theorem Sat.after {c : Ct} {F G G' H H' : Hp} {σ : L2.St} {ρ : Env} {s : FS} {A : List Addr} (S : Sat c F G H σ ρ s) (sm : Same G G') (sub : Same G' H') (k : Same H H') (nw : ∀ a o, H a = some o → G a = none → G' a = none) (hA : ∀ a ∈ A, H a = none ∧ G' a = none) :
    Sat c (ovl F H' A) G' H' σ ρ s := by
  refine ⟨sub, fun a o e => ?_, fun p e => ?_, ?_⟩
  · by_cases ha : a ∈ A
    · rw [ovl_in ha] at e; exact ⟨e, (hA a ha).2⟩
    · rw [ovl_out ha] at e
      obtain ⟨e1, e2⟩ := S.fr a o e
      exact ⟨k _ _ e1, nw a o e1 e2⟩
  · obtain ⟨e1, e2, q, e3, e4⟩ := S.fd p e
    have hp : p ∉ A := fun z => by have := (hA p z).1; rw [e3] at this; cases this
    exact ⟨nw p _ e3 e1, by rw [ovl_out hp]; exact e2, q, k _ _ e3, sm _ _ e4⟩
  · obtain ⟨B, h1, h2, h3⟩ := S.sl
    refine ⟨B, h1.mono sm fun a ha => ?_, h2, fun a ha => ?_⟩
    · obtain ⟨o, e⟩ := h1.there a ha
      rw [e]; exact k _ _ e
    · obtain ⟨o, e⟩ := h1.there a ha
      have hA' : a ∉ A := fun z => by have := (hA a z).1; rw [e] at this; cases this
      exact ⟨nw a o e (h3 a ha).1, by rw [ovl_out hA']; exact (h3 a ha).2.1, (h3 a ha).2.2⟩
section
variable {X : Cx} {fo : Option Addr} {W : Wish} {e : Expr} {es : List Expr} {x : Str} {p pos : Pos} {k n : Nat} {f : Addr} {fd : FuncData} {ps : List Str} {g : M (List D)}
theorem pn_call {m : List D → Option OT} (Fk : FnOk X.prog X.w X.K X.mg X.base CX0 k f fd ps (spP X.K n m)) (hr : Room k X.A) (hg : Gl X x) (hm : X.mg x = some (.ref f)) (hk : PySem.W.keepIn X.K (.ref f) = true) (hb : Binds X.K fd ps [])
    (ha : AD X fo W (e :: es) g) (hdb : (x == ("__debug__" : Str)) = false := by decide) (he : starEach (e :: es) X.env = (false, eval e X.env) :: starEach es X.env := by rfl) (hpl : (backTo pos (starEach es X.env)).any (·.1) = false := by rfl) :
    PN X fo W (.Call (.Name x p) (e :: es) [] pos) (callP n m g) := by
  refine PE.imp (pe_call Fk hr hg hm hk hb .nil pass0 ha hdb he hpl) fun σ H Q ⟨F, G, ρ, s, k⟩ => ⟨F, G, ρ, s, (tAt.bnd k RDL_F).mono fun vs H1 ⟨ds, G1, ρ1, s1, sm1, ⟨_, r1⟩, k1⟩ => ?_⟩
  obtain ⟨t, e1, q⟩ := k1.finN
  split at e1
  · rename_i hl
    rw [List.append_nil]
    exact ⟨fo, G1, ds, t, k1.1.sub, r1, hl, e1, fun v H' G' A sm sub sk nw o nd hA => q v H' G' A sm o nd (fun a ha => k1.1.F_none (hA a ha).1) (k1.1.after sm sub sk nw hA)⟩
  · cases e1
theorem pn_call0 {m : List D → Option OT} (Fk : FnOk X.prog X.w X.K X.mg X.base CX0 k f fd ps (spP X.K n m)) (hr : Room k X.A) (hg : Gl X x) (hm : X.mg x = some (.ref f)) (hk : PySem.W.keepIn X.K (.ref f) = true) (hb : Binds X.K fd ps []) (hdb : (x == ("__debug__" : Str)) = false := by decide) :
    PN X fo W (.Call (.Name x p) [] [] pos) (callP n m (M.ret [])) := by
  refine PE.imp (pe_call0 Fk hr hg hm hk hb .nil pass0 hdb) fun σ H Q ⟨F, G, ρ, s, k⟩ => ?_
  have k1 : tAt (ct X fo) W (RO (ct X fo)) F G ρ s (M.lft (if ([] : List D).length = n then m [] else none)) σ H Q := k
  obtain ⟨t, e1, q⟩ := k1.finN
  split at e1
  · rename_i hl
    exact ⟨fo, G, [], t, k1.1.sub, .nil, hl, e1, fun v H' G' A sm sub sk nw o nd hA => q v H' G' A sm o nd (fun a ha => k1.1.F_none (hA a ha).1) (k1.1.after sm sub sk nw hA)⟩
  · cases e1
def callFB (n : Nat) (m : List D → FS → Option (OT × FS)) (ds : List D) : M OT := fun ρ s => if ds.length = n ∧ s.lv = true then match m ds s with
  | some (t, s') => .ok t ρ s'
  | none => .bad
  else .bad
def callF (n : Nat) (m : List D → FS → Option (OT × FS)) (g : M (List D)) : M OT := g.bnd (callFB n m)
theorem Sat.afterF {c : Ct} {F G G' H H' : Hp} {σ : L2.St} {ρ : Env} {s s' : FS} {A : List Addr} {p : Addr} (hc : c.fd = some p) (hlv : s.lv = true) (S : Sat c F G H σ ρ s) (sm : Same G G') (sub : Same G' H') (k : ∀ a o, a ≠ p → H a = some o → H' a = some o) (nw : ∀ a o, H a = some o → G a = none → G' a = none) (fe : FeedAt c G' H' p s') (hA : ∀ a ∈ A, H a = none ∧ G' a = none) :
    Sat c (ovl F H' A) G' H' σ ρ s' := by
  obtain ⟨p1, p2, q, p3, p4⟩ := S.fd p ⟨hc, hlv⟩
  refine ⟨sub, fun a o e => ?_, fun p' e => ?_, ?_⟩
  · by_cases ha : a ∈ A
    · rw [ovl_in ha] at e; exact ⟨e, (hA a ha).2⟩
    · rw [ovl_out ha] at e
      obtain ⟨e1, e2⟩ := S.fr a o e
      have hap : a ≠ p := fun z => by rw [z, p2] at e; cases e
      exact ⟨k _ _ hap e1, nw a o e1 e2⟩
  · have : p = p' := by have := e.1; rw [hc] at this; exact Option.some.inj this
    subst this
    have hp : p ∉ A := fun z => by have := (hA p z).1; rw [p3] at this; cases this
    exact ⟨nw p _ p3 p1, by rw [ovl_out hp]; exact p2, fe⟩
  · obtain ⟨B, h1, h2, h3⟩ := S.sl
    have hBp : ∀ a ∈ B, a ≠ p := fun a ha z => (h3 a ha).2.2 ⟨by rw [z]; exact hc, hlv⟩
    refine ⟨B, h1.mono sm fun a ha => ?_, h2, fun a ha => ?_⟩
    · obtain ⟨o, e⟩ := h1.there a ha
      rw [e]; exact k _ _ (hBp a ha) e
    · obtain ⟨o, e⟩ := h1.there a ha
      have hA' : a ∉ A := fun z => by have := (hA a z).1; rw [e] at this; cases this
      exact ⟨nw a o e (h3 a ha).1, by rw [ovl_out hA']; exact (h3 a ha).2.1, fun z => hBp a ha (by have := z.1; rw [hc] at this; exact (Option.some.inj this).symm)⟩
theorem pn_callF {m : List D → FS → Option (OT × FS)} {pf : Addr} (Fk : FnOk X.prog X.w X.K X.mg X.base CX0 k f fd ps (spF X.K n m)) (hr : Room k X.A) (hg : Gl X x) (hm : X.mg x = some (.ref f)) (hk : PySem.W.keepIn X.K (.ref f) = true) (hb : Binds X.K fd ps [])
    (ha : AD X (some pf) W (e :: es) g) (hdb : (x == ("__debug__" : Str)) = false := by decide) (he : starEach (e :: es) X.env = (false, eval e X.env) :: starEach es X.env := by rfl) (hpl : (backTo pos (starEach es X.env)).any (·.1) = false := by rfl) :
    PN X (some pf) W (.Call (.Name x p) (e :: es) [] pos) (callF n m g) := by
  refine PE.imp (pe_call Fk hr hg hm hk hb .nil pass0 ha hdb he hpl) fun σ H Q ⟨F, G, ρ, s, k⟩ => ⟨F, G, ρ, s, (tAt.bnd (g := callFB n m) k RDL_F).mono fun vs H1 ⟨ds, G1, ρ1, s1, sm1, ⟨_, r1⟩, S1, k1⟩ => ?_⟩
  rw [List.append_nil]
  unfold callFB at k1
  by_cases hl : ds.length = n ∧ s1.lv = true
  · rw [if_pos hl] at k1
    cases e1 : m ds s1 with
    | none => simp only [e1] at k1
    | some q =>
      obtain ⟨t, s2⟩ := q
      simp only [e1] at k1
      obtain ⟨g1, f1, fe⟩ := S1.fd pf ⟨rfl, hl.2⟩
      refine ⟨pf, G1, ds, s1, t, s2, hl.2, S1.sub, r1, hl.1, g1, fe, e1, fun v H' G' A sm sub sk nw fe' hl' o nd hA => ?_⟩
      exact k1 v H' G' _ sm ⟨A, rfl, o, nd, fun a ha => S1.F_none (hA a ha).1⟩ (S1.afterF rfl hl.2 sm sub sk nw fe' hA)
  · rw [if_neg hl] at k1
    exact k1.elim
end
end DL

set_option Elab.async false
set_option linter.all false
set_option maxRecDepth 100000
namespace DL
open PySem PySem.Spec PyProof.Rows L2

/-! ### stores by place -/
section
variable {X : Cx} {fd : Option Addr} {W : Wish} {a b e : Expr} {pos : Pos} {f g : M D}
theorem pget_list : PGet X (rIxL X.K) := by
  intro pins s σ H x y v u Q I rx ry h
  obtain ⟨p, xs, i, z, rfl, rfl, hq, he, q⟩ := h
  cases rx
  obtain ⟨t, rfl⟩ := ry
  obtain ⟨its, r, pl, hz⟩ := I.list hq
  obtain ⟨j, h1, h2, h3, h4, h5⟩ := atI_get he
  obtain ⟨w, ew, rw'⟩ := r.get h2
  have hl := r.length
  have hn := line63
  have fin : EP X pins σ Q w s := ⟨z, H, I, rw', q⟩
  by_cases h0 : 0 ≤ i
  · have hj : i.toNat = j := by
      rw [seqIndex_of h0 h5] at h1
      exact Option.some.inj h1
    exact wpAny_getItem_list pl.isList h0 (by omega) (by rw [hj]; simpa using ew) fin
  · have hj : (i + (its.toArray.size : Int)).toNat = j := by
      rw [seqIndex_neg (by omega) h4] at h1
      rw [List.size_toArray, ← hl]
      exact Option.some.inj h1
    exact wpAny_getItem_list_neg pl.isList (by omega) (by rw [List.size_toArray] <;> omega) (by omega) (by rw [hj]; simpa using ew) fin
theorem OwnL.setFz {c : Ct} {G H : Hp} : ∀ {ts : List OT} {vs : List V} {B : List Addr}, OwnL c G H ts vs B → B.Nodup → ∀ (j : Nat) {d : D} {v : V}, Rep c G d v → ∃ B', OwnL c G H (ts.set j (.fz d)) (vs.set j v) B' ∧ B'.Nodup ∧ ∀ b ∈ B', b ∈ B
  | _, _, _, .nil, _, _, _, _, _ => ⟨[], .nil, List.nodup_nil, fun _ h => h⟩
  | _, _, _, .cons (A := A) (B := B) h r, n, 0, _, _, q => ⟨[] ++ B, .cons (.fz q) r, (List.nodup_append.mp n).2.1, fun b hb => by simp at hb; simp [hb]⟩
  | _, _, _, .cons (A := A) (B := B) h r, n, j + 1, _, _, q => by
    obtain ⟨n1, n2, n3⟩ := List.nodup_append.mp n
    obtain ⟨B', r', n', k'⟩ := OwnL.setFz r n2 j q
    refine ⟨A ++ B', .cons h r', List.nodup_append.mpr ⟨n1, n', fun a ha b hb => n3 a ha b (k' b hb)⟩, fun b hb => ?_⟩
    rcases List.mem_append.mp hb with hb | hb
    · simp [hb]
    · simp [k' b hb]
/-- x[i] = e -/
def setK (i : Nat) (j d : D) : Env → FS → Out := fun ρ s => match ρ[i]? with
  | some (some (.ow ts)) => match j with
    | .int k => match ixN ts.length k with
      | some n => .nx (ρ.set i (some (.ow (ts.set n (.fz d))))) s
      | none => .bad
    | _ => .bad
  | _ => .bad
theorem setK_ok {c : Ct} {W : Wish} {F G H : Hp} {ρ : Env} {s : FS} {σ : L2.St} {i : Nat} {j d : D} {E : Ends} {y v : V} (k : sAt c W F G ρ s (setK i j d) E σ H) (rj : Rep c G j y) (rd : Rep c G d v) {x : V} (ex : σ[i]? = some (some x)) : rSetL x y v H (fun H' => E.nx σ H') := by
  obtain ⟨S, k⟩ := k
  unfold setK at k
  rcases e1 : ρ[i]? with _ | _ | t
  · simp only [e1] at k; exact k.elim
  · simp only [e1] at k; exact k.elim
  · cases t with
    | ow ts =>
      simp only [e1] at k
      cases rj with
      | int z =>
        simp only at k
        cases e2 : ixN ts.length z with
        | none => simp only [e2] at k; exact k.elim
        | some n =>
          simp only [e2] at k
          obtain ⟨a, vs, B, h1, h2, h3, h4, h5, u⟩ := S.upd0 e1
          rw [ex] at h1
          cases h1
          obtain ⟨B', r', n', k'⟩ := h3.setFz h5 n rd
          refine ⟨a, vs, z, n, rfl, rfl, h2, by rw [← h3.length]; exact e2, ?_⟩
          exact k σ _ G (Same.refl _) (u _ _ B' r' n' k')
      | _ => simp only at k; exact k.elim
    | _ => simp only [e1] at k; exact k.elim
def stSet (i : Nat) (m g : M D) : Stm := thn1 m fun d => thn1 (thr i) fun _ => thn1 g fun j => setK i j d
theorem sAt.thr {c : Ct} {W : Wish} {F G H : Hp} {ρ : Env} {s : FS} {σ : L2.St} {i : Nat} {k : Stm} {D : Ends} (h : sAt c W F G ρ s (thn1 (DL.thr i) fun _ => k) D σ H) : (∃ v, σ[i]? = some (some v)) ∧ sAt c W F G ρ s k D σ H := by
  have h2 := h.2
  unfold thn1 DL.thr at h2
  rcases e1 : ρ[i]? with _ | _ | t
  · simp only [e1] at h2; exact h2.elim
  · simp only [e1] at h2; exact h2.elim
  · simp only [e1] at h2
    obtain ⟨v, e, _⟩ := h.1.peek e1
    exact ⟨⟨v, e⟩, h.1, h2⟩
theorem sd_setI {i : Nat} {x : Str} {p p2 : Pos} {m : M D} (h : PD X fd W e m) (ho : PE X (.Name x p) (tVar i)) (hi : PD X fd W b g)
    (hp : ∀ {te to ti : TE}, PE X e te → PE X (.Name x p) to → PE X b ti → PS X (.Assign [.Subscript (.Name x p) b p2] e pos) (tAsg te (gSub to ti rSetL))) :
    SD X fd W (.Assign [.Subscript (.Name x p) b p2] e pos) (stSet i m g) := by
  refine PS.imp (hp h ho hi) fun Ends σ H ⟨F, G, ρ, s, k⟩ => ⟨F, G, ρ, s, (k.thn RD_F).mono fun v H1 ⟨d, G1, ρ1, s1, sm1, ⟨_, r1⟩, k1⟩ => ?_⟩
  obtain ⟨⟨x, ex⟩, k1⟩ := k1.thr
  refine ⟨x, ex, F, G1, ρ1, s1, (k1.thn RD_F).mono fun y H2 ⟨j, G2, ρ2, s2, sm2, ⟨_, r2⟩, k2⟩ => ?_⟩
  exact setK_ok k2 r2 (r1.mono sm2) ex
/-- x[i] op= e -/
def ixO (t : OT) (e : D) : Option D := match t, e with
  | .fz (.lst xs), .int i => atF xs i
  | .ow ts, .int i => match atF ts i with
    | some (.fz d) => some d
    | _ => none
  | _, _ => none
def stAugI (i : Nat) (g m : M D) (h : D → D → Option D) : Stm := thn1 (thr i) fun _ => thn1 g fun j => thn1 (pkT i) fun t => thn1 (M.lft (ixO t j)) fun old => thn1 m fun y => thn1 (M.lft (h old y)) fun z => setK i j z
theorem sAt.pkT {c : Ct} {W : Wish} {F G H : Hp} {ρ : Env} {s : FS} {σ : L2.St} {i : Nat} {k : OT → Stm} {D : Ends} (h : sAt c W F G ρ s (thn1 (DL.pkT i) k) D σ H) : ∃ t, ρ[i]? = some (some t) ∧ sAt c W F G ρ s (k t) D σ H := by
  have h2 := h.2
  unfold thn1 DL.pkT at h2
  rcases e1 : ρ[i]? with _ | _ | t
  · simp only [e1] at h2; exact h2.elim
  · simp only [e1] at h2; exact h2.elim
  · simp only [e1] at h2
    exact ⟨t, rfl, h.1, h2⟩
theorem sAt.lft {α : Type} {c : Ct} {W : Wish} {F G H : Hp} {ρ : Env} {s : FS} {σ : L2.St} {o : Option α} {k : α → Stm} {D : Ends} (h : sAt c W F G ρ s (thn1 (M.lft o) k) D σ H) : ∃ a, o = some a ∧ sAt c W F G ρ s (k a) D σ H := by
  cases o with
  | none => exact h.2.elim
  | some a => exact ⟨a, rfl, h⟩
theorem ixO_ok {c : Ct} {F G H : Hp} {σ : L2.St} {ρ : Env} {s : FS} {i : Nat} {t : OT} {j old : D} {x y : V} (S : Sat c F G H σ ρ s) (et : ρ[i]? = some (some t)) (ex : σ[i]? = some (some x)) (r2 : Rep c G j y) (eo : ixO t j = some old) :
    ∃ z, Rep c G old z ∧ ∀ Q : VK, Q z H → rIxL c.K x y H Q := by
  unfold ixO at eo
  split at eo
  · cases r2
    obtain ⟨B, h1, h2, h3⟩ := id S.sl
    obtain ⟨v', A, A', e3, o1, p1, s1⟩ := h1.get et
    rw [ex] at e3
    cases e3
    cases o1 with
    | fz r =>
      cases r with
      | lst h r =>
        obtain ⟨z, e4, q1⟩ := r.atI eo
        exact ⟨z, q1, fun Q q => ⟨_, _, _, z, rfl, rfl, .inl (.inl (S.sub _ _ h)), e4, q⟩⟩
  · cases r2
    split at eo
    · rename_i d e5
      cases eo
      obtain ⟨a, vs, B, h1, h2, h3, _⟩ := S.upd0 et
      rw [ex] at h1
      cases h1
      obtain ⟨j, e6, e7⟩ := atF_get e5
      obtain ⟨z, e8, q1⟩ := h3.getFz e7
      exact ⟨z, q1, fun Q q => ⟨_, _, _, z, rfl, rfl, .inl (.inl h2), atI_of h3.length.symm e6 e8, q⟩⟩
    · cases eo
  · cases eo
theorem sd_augI {i : Nat} {x : Str} {p p2 : Pos} {op : Operator} {h : D → D → Option D} {m : M D} (hop : DOp X fd (inplaceOp op) h) (ho : PE X (.Name x p) (tVar i)) (hi : PD X fd W b g) (he : PD X fd W e m)
    (ha : ∀ ov iv new, augStore b ov iv new = (do holding [new, ov, iv] (setItem ov iv new); release [new, ov, iv] []; pure .next) := by intros; rfl) :
    SD X fd W (.AugAssign (.Subscript (.Name x p) b p2) op e pos) (stAugI i g m h) := by
  obtain ⟨r, o, hr⟩ := hop
  refine PS.imp (ps_augS ho hi pget_list he o set_list ha) fun Ends σ H ⟨F, G, ρ, s, k⟩ => ?_
  obtain ⟨⟨x, ex⟩, k⟩ := k.thr
  refine ⟨x, ex, F, G, ρ, s, (k.thn RD_F).mono fun y H2 ⟨j, G2, ρ2, s2, sm2, ⟨_, r2⟩, k2⟩ => ?_⟩
  obtain ⟨t, et, k2⟩ := k2.pkT
  obtain ⟨old, eo, k2⟩ := k2.lft
  obtain ⟨z, rz, kz⟩ := ixO_ok k2.1 et ex r2 eo
  refine kz _ ⟨F, G2, ρ2, s2, (k2.thn RD_F).mono fun w H3 ⟨dw, G3, ρ3, s3, sm3, ⟨_, r3⟩, k3⟩ => ?_⟩
  obtain ⟨nw, en, k3⟩ := k3.lft
  exact hr G3 H3 old dw nw z w _ k3.1.sub (rz.mono sm3) r3 en fun u ru => setK_ok k3 (r2.mono sm3) ru ex

/-! ### still expressions: they lay nothing, they change nothing -/
def tK (c : Ct) (f : Env → Option D) : TE := fun σ H Q => ∃ F G ρ s d, Sat c F G H σ ρ s ∧ f ρ = some d ∧ ∀ v, Rep c G d v → Q v H
def KD (X : Cx) (fd : Option Addr) (e : Expr) (f : Env → Option D) : Prop := PE X e (tK (ct X fd) f)
def kVar (i : Nat) : Env → Option D := fun ρ => match ρ[i]? with
  | some (some (.fz d)) => some d
  | _ => none
theorem kd_var (i : Nat) {x : Str} {pos : Pos} (h : PE X (.Name x pos) (tVar i)) : KD X fd (.Name x pos) (kVar i) := by
  refine PE.imp h fun σ H Q ⟨F, G, ρ, s, d, S, e, k⟩ => ?_
  unfold kVar at e
  split at e
  · rename_i d' e1
    cases e
    obtain ⟨B, h1, h2, h3⟩ := id S.sl
    obtain ⟨v, A, A', e2, o1, p1, s1⟩ := h1.get e1
    cases o1 with
    | fz r => exact ⟨v, e2, k v r⟩
  · cases e
theorem kd_int {i j} : KD X fd (.Constant (.int i) j pos) (fun _ => some (.int i)) := PE.imp pe_int fun σ H Q ⟨F, G, ρ, s, d, S, e, k⟩ => k _ (by cases e; exact .int i)
theorem kd_op {op : Operator} {h : D → D → Option D} {f g : Env → Option D} (ho : DOp X fd (binaryOp op) h) (ha : KD X fd a f) (hb : KD X fd b g) : KD X fd (.BinOp a op b pos) (fun ρ => (f ρ).bind fun x => (g ρ).bind fun y => h x y) := by
  obtain ⟨r, o, hr⟩ := ho
  refine PE.imp (pe_op o ha hb) fun σ H Q ⟨F, G, ρ, s, d, S, e, k⟩ => ?_
  obtain ⟨x, e1, e⟩ := Option.bind_eq_some_iff.mp e
  obtain ⟨y, e2, e⟩ := Option.bind_eq_some_iff.mp e
  exact ⟨F, G, ρ, s, x, S, e1, fun v rv => ⟨F, G, ρ, s, y, S, e2, fun u ru => hr G H x y d v u Q S.sub rv ru e k⟩⟩
theorem kd_ix {f g : Env → Option D} (ha : KD X fd a f) (hb : KD X fd b g) (hs : PlainIx b) : KD X fd (.Subscript a b pos) (fun ρ => (f ρ).bind fun x => (g ρ).bind fun y => ixD x y) := by
  refine PE.imp (pe_ix ix_seq ha hb hs) fun σ H Q ⟨F, G, ρ, s, d, S, e, k⟩ => ?_
  obtain ⟨x, e1, e⟩ := Option.bind_eq_some_iff.mp e
  obtain ⟨y, e2, e⟩ := Option.bind_eq_some_iff.mp e
  refine ⟨F, G, ρ, s, x, S, e1, fun v rv => ⟨F, G, ρ, s, y, S, e2, fun u ru => ?_⟩⟩
  unfold ixD at e
  split at e
  · cases ru
    cases rv with
    | lst h r =>
      obtain ⟨z, e3, q⟩ := r.atI e
      exact .inl ⟨_, _, _, z, rfl, rfl, .inl (.inl (S.sub _ _ h)), e3, k z q⟩
  · cases ru
    cases rv with
    | tup h r =>
      obtain ⟨z, e3, q⟩ := r.atI e
      exact .inr (.inl ⟨_, _, _, z, rfl, rfl, sqT_mono S.sub h, e3, k z q⟩)
  · cases e
theorem pd_k {f : Env → Option D} (h : KD X fd a f) : PD X fd W a (fun ρ s => match f ρ with
    | some d => .ok d ρ s
    | none => .bad) := by
  refine PE.imp h fun σ H Q ⟨F, G, ρ, s, S, k⟩ => ?_
  cases e : f ρ with
  | none => simp only [e] at k
  | some d => simp only [e] at k; exact ⟨F, G, ρ, s, d, S, e, fun v r => k v H G F (Same.refl _) ⟨rfl, r⟩ S⟩

/-! ### own lists in own lists -/
/-- a row of a name's list -/
structure Row (c : Ct) (F G H : Hp) (σ : L2.St) (ρ : Env) (s : FS) (i n : Nat) (ts us : List OT) (a r : Addr) (vs ws : List V) : Prop where
  top : σ[i]? = some (some (.ref a))
  ha : H a = some (.lst vs)
  len : ts.length = vs.length
  hv : vs[n]? = some (.ref r)
  hr : H r = some (.lst ws)
  rlen : us.length = ws.length
  get : ∀ {m : Nat} {d : D}, us[m]? = some (.fz d) → ∃ v, ws[m]? = some v ∧ Rep c G d v
  set : ∀ (m : Nat) {d : D} {v : V}, Rep c G d v → Sat c F G (upd H r (.lst (ws.set m v))) σ (ρ.set i (some (.ow (ts.set n (.ow (us.set m (.fz d))))))) s
theorem Sat.row {c : Ct} {F G H : Hp} {σ : L2.St} {ρ : Env} {s : FS} {i n : Nat} {ts us : List OT} (S : Sat c F G H σ ρ s) (e : ρ[i]? = some (some (.ow ts))) (en : ts[n]? = some (.ow us)) : ∃ a r vs ws, Row c F G H σ ρ s i n ts us a r vs ws := by
  obtain ⟨v, C, e1, o1, nd, hC, S1⟩ := S.take e
  cases o1 with
  | ow h1 r1 =>
    rename_i a vs B
    obtain ⟨v', B0, B1, e2, o2, pm, put⟩ := r1.at en
    cases o2 with
    | ow h2 r2 =>
      rename_i r ws B2
      have ndB : (r :: B2 ++ B1).Nodup := pm.nodup_iff.mp (List.nodup_cons.mp nd).2
      have aB : a ∉ B := (List.nodup_cons.mp nd).1
      have mB : ∀ b, b ∈ B ↔ b ∈ r :: B2 ++ B1 := fun b => pm.mem_iff
      have ar : a ≠ r := fun z => aB ((mB a).mpr (by simp [z]))
      have rB1 : r ∉ B1 := fun z => (List.nodup_append.mp ndB).2.2 r (by simp) r z rfl
      have rB2 : r ∉ B2 := (List.nodup_cons.mp (List.nodup_append.mp ndB).1).1
      refine ⟨a, r, vs, ws, e1, h1, r1.length, e2, h2, r2.length, fun {m d} em => r2.getFz em, fun m d v rd => ?_⟩
      obtain ⟨B2', r2', nd2', sub2⟩ := r2.setFz (List.nodup_cons.mp (List.nodup_append.mp ndB).1).2 m rd
      have rB2' : r ∉ B2' := fun z => rB2 (sub2 r z)
      have ow' : Own c G (upd H r (.lst (ws.set m v))) (.ow (us.set m (.fz d))) (.ref r) (r :: B2') := .ow upd_same (r2'.mono (Same.refl G) fun b hb => upd_ne fun z => rB2' (z ▸ hb))
      obtain ⟨A1, pA, oA⟩ := put (G1 := G) (H1 := upd H r (.lst (ws.set m v))) (Same.refl G) (fun b hb => upd_ne fun z => rB1 (z ▸ hb)) ow'
      have hset : vs.set n (.ref r) = vs := set_same e2
      rw [hset] at oA
      have subA : ∀ b ∈ A1, b ∈ B := fun b hb => by
        rw [mB]
        rcases List.mem_append.mp (pA.mem_iff.mp hb) with hb | hb
        · rcases List.mem_cons.mp hb with z | hb
          · simp [z]
          · simp [sub2 b hb]
        · simp [hb]
      have ndA : A1.Nodup := by
        rw [pA.nodup_iff, List.nodup_append]
        refine ⟨List.nodup_cons.mpr ⟨rB2', nd2'⟩, (List.nodup_append.mp ndB).2.1, fun x hx y hy z => ?_⟩
        rcases List.mem_cons.mp hx with q | hx
        · exact rB1 (q ▸ z ▸ hy)
        · exact (List.nodup_append.mp ndB).2.2 x (by simp [sub2 x hx]) y hy z
      have rin : r ∈ a :: B := by simp [(mB r).mpr (by simp)]
      have S2 := S1.chg' (p := r) (o := .lst ws) (o' := .lst (ws.set m v)) (by rw [ovl_in rin, h2])
      have hi : i < ρ.length := (List.getElem?_eq_some_iff.mp e).1
      have S3 : Sat c (ovl F (upd H r (.lst (ws.set m v))) (a :: A1)) G (upd H r (.lst (ws.set m v))) σ (ρ.set i none) s := S2.less fun b o q => by
        by_cases hb : b = r
        · subst hb
          rw [upd_same]
          by_cases hb2 : b ∈ a :: A1
          · rw [ovl_in hb2, upd_same] at q; exact q
          · rw [ovl_out hb2] at q
            rw [hC b rin] at q; cases q
        · rw [upd_ne hb]
          by_cases hb2 : b ∈ a :: A1
          · rw [ovl_in hb2, upd_ne hb] at q
            have : b ∈ a :: B := by
              rcases List.mem_cons.mp hb2 with z | z
              · simp [z]
              · simp [subA b z]
            rw [ovl_in this]; exact q
          · rw [ovl_out hb2] at q
            rw [ovl_out fun z => by rw [hC b z] at q; cases q]; exact q
      have S4 := S3.put (i := i) (t := .ow (ts.set n (.ow (us.set m (.fz d))))) (by simpa using hi) (.ow (by rw [upd_ne ar]; exact h1) oA) (List.nodup_cons.mpr ⟨fun z => aB (subA a z), ndA⟩) (fun b hb => hC b (by
        rcases List.mem_cons.mp hb with z | z
        · simp [z]
        · simp [subA b z]))
      rw [set_same e1, List.set_set] at S4
      exact S4
/-- x[j][k] read, x an own list of own lists (or of plain ones) -/
def ix2K (ts : List OT) (j k : D) : Option D := match j, k with
  | .int a, .int b => match atF ts a with
    | some (.ow us) => match atF us b with
      | some (.fz d) => some d
      | _ => none
    | some (.fz (.lst ds)) => atF ds b
    | _ => none
  | _, _ => none
def ix2M (i : Nat) (f g : Env → Option D) : Env → Option D := fun ρ => match ρ[i]? with
  | some (some (.ow ts)) => (f ρ).bind fun x => (g ρ).bind fun y => ix2K ts x y
  | some (some (.fz (.lst ds))) => (f ρ).bind fun x => (ixD (.lst ds) x).bind fun r => (g ρ).bind fun y => ixD r y
  | _ => none
def stSet2 (i : Nat) (m : M D) (f g : Env → Option D) : Stm := thn1 m fun d => fun ρ s => match ρ[i]? with
  | some (some (.ow ts)) => match f ρ, g ρ with
    | some (.int a), some (.int b) => match ixN ts.length a with
      | some n => match ts[n]? with
        | some (.ow us) => match ixN us.length b with
          | some k => .nx (ρ.set i (some (.ow (ts.set n (.ow (us.set k (.fz d))))))) s
          | none => .bad
        | _ => .bad
      | none => .bad
    | _, _ => .bad
  | _ => .bad
theorem sd_set2 {i : Nat} {x : Str} {p p2 p3 : Pos} {m : M D} {f g : Env → Option D} (h : PD X fd W e m) (ho : PE X (.Name x p) (tVar i)) (ha : KD X fd a f) (hb : KD X fd b g) (hs : PlainIx a)
    (hp : ∀ {te to ti : TE}, PE X e te → PE X (.Subscript (.Name x p) a p3) to → PE X b ti → PS X (.Assign [.Subscript (.Subscript (.Name x p) a p3) b p2] e pos) (tAsg te (gSub to ti rSetL))) :
    SD X fd W (.Assign [.Subscript (.Subscript (.Name x p) a p3) b p2] e pos) (stSet2 i m f g) := by
  refine PS.imp (hp h (pe_ix ix_seq ho ha hs) hb) fun Ends σ H ⟨F, G, ρ, s, k⟩ => ⟨F, G, ρ, s, (k.thn RD_F).mono fun v H1 ⟨d, G1, ρ1, s1, sm1, ⟨_, r1⟩, S1, k1⟩ => ?_⟩
  rcases e1 : ρ1[i]? with _ | _ | t
  · simp only [e1] at k1; exact k1.elim
  · simp only [e1] at k1; exact k1.elim
  · cases t with
    | ow ts =>
      simp only [e1] at k1
      cases ef : f ρ1 with
      | none => simp only [ef] at k1; exact k1.elim
      | some dj =>
        cases eg : g ρ1 with
        | none => cases dj <;> simp only [ef, eg] at k1 <;> exact k1.elim
        | some dk =>
          cases dj with
          | int ja =>
            cases dk with
            | int jb =>
              simp only [ef, eg] at k1
              cases en : ixN ts.length ja with
              | none => simp only [en] at k1; exact k1.elim
              | some n =>
                simp only [en] at k1
                rcases eu : ts[n]? with _ | u
                · simp only [eu] at k1; exact k1.elim
                · cases u with
                  | ow us =>
                    simp only [eu] at k1
                    cases ek : ixN us.length jb with
                    | none => simp only [ek] at k1; exact k1.elim
                    | some kk =>
                      simp only [ek] at k1
                      obtain ⟨a', r', vs, ws, R⟩ := S1.row e1 eu
                      refine ⟨_, R.top, F, G1, ρ1, s1, .int ja, S1, ef, fun vj rj => ?_⟩
                      cases rj
                      refine .inl ⟨a', vs, ja, .ref r', rfl, rfl, .inl (.inl R.ha), atI_of R.len.symm en R.hv, F, G1, ρ1, s1, .int jb, S1, eg, fun vk rk => ?_⟩
                      cases rk
                      exact ⟨r', ws, jb, kk, rfl, rfl, R.hr, by rw [← R.rlen]; exact ek, k1 σ _ G1 (Same.refl _) (R.set kk r1)⟩
                  | _ => simp only [eu] at k1; exact k1.elim
            | _ => simp only [ef, eg] at k1; exact k1.elim
          | _ => simp only [ef] at k1; exact k1.elim
    | _ => simp only [e1] at k1; exact k1.elim
theorem ix2K_eq {ts : List OT} {j k d : D} (h : ix2K ts j k = some d) : ∃ a b, j = .int a ∧ k = .int b ∧ ((∃ us, atF ts a = some (.ow us) ∧ atF us b = some (.fz d)) ∨ ∃ ds, atF ts a = some (.fz (.lst ds)) ∧ atF ds b = some d) := by
  unfold ix2K at h
  split at h
  · rename_i a b
    refine ⟨a, b, rfl, rfl, ?_⟩
    split at h
    · rename_i us e
      split at h
      · rename_i d' e2; cases h; exact .inl ⟨us, e, e2⟩
      · cases h
    · rename_i ds e; exact .inr ⟨ds, e, h⟩
    · cases h
  · cases h
theorem ixD_eq {d e w : D} (h : ixD d e = some w) : ∃ i, e = .int i ∧ ((∃ xs, d = .lst xs ∧ atF xs i = some w) ∨ ∃ xs, d = .tup xs ∧ atF xs i = some w) := by
  cases d <;> cases e <;> first | exact ⟨_, rfl, .inl ⟨_, rfl, h⟩⟩ | exact ⟨_, rfl, .inr ⟨_, rfl, h⟩⟩ | (simp [ixD] at h; done)
theorem ixD_rd {c : Ct} {G H : Hp} {d e w : D} {x y : V} {Q : VK} (sm : Same G H) (r1 : Rep c G d x) (r2 : Rep c G e y) (h : ixD d e = some w) (q : ∀ z, Rep c G w z → Q z H) : rIx c.K x y H Q := by
  obtain ⟨i, rfl, h'⟩ := ixD_eq h
  cases r2
  rcases h' with ⟨xs, rfl, h'⟩ | ⟨xs, rfl, h'⟩
  · cases r1 with
    | lst h1 r =>
      obtain ⟨z, z1, z2⟩ := r.atI h'
      exact .inl ⟨_, _, _, z, rfl, rfl, .inl (.inl (sm _ _ h1)), z1, q z z2⟩
  · cases r1 with
    | tup h1 r =>
      obtain ⟨z, z1, z2⟩ := r.atI h'
      exact .inr (.inl ⟨_, _, _, z, rfl, rfl, sqT_mono sm h1, z1, q z z2⟩)
theorem kd_ix2 {i : Nat} {x : Str} {p p3 : Pos} {f g : Env → Option D} (ho : PE X (.Name x p) (tVar i)) (ha : KD X fd a f) (hb : KD X fd b g) (hs : PlainIx a) (hs2 : PlainIx b) : KD X fd (.Subscript (.Subscript (.Name x p) a p3) b pos) (ix2M i f g) := by
  refine PE.imp (pe_ix ix_seq (pe_ix ix_seq ho ha hs) hb hs2) fun σ H Q ⟨F, G, ρ, s, d, S, e, k⟩ => ?_
  unfold ix2M at e
  split at e
  · rename_i ts e1
    obtain ⟨dj, ef, e⟩ := Option.bind_eq_some_iff.mp e
    obtain ⟨dk, eg, e⟩ := Option.bind_eq_some_iff.mp e
    obtain ⟨ja, jb, rfl, rfl, h⟩ := ix2K_eq e
    rcases h with ⟨us, e2, e3⟩ | ⟨ds, e2, e3⟩
    · obtain ⟨n, n1, n2⟩ := atF_get e2
      obtain ⟨m, m1, m2⟩ := atF_get e3
      obtain ⟨a', r', vs, ws, R⟩ := S.row e1 n2
      refine ⟨_, R.top, F, G, ρ, s, .int ja, S, ef, fun vj rj => ?_⟩
      cases rj
      refine .inl ⟨a', vs, ja, .ref r', rfl, rfl, .inl (.inl R.ha), atI_of R.len.symm n1 R.hv, F, G, ρ, s, .int jb, S, eg, fun vk rk => ?_⟩
      cases rk
      obtain ⟨z, z1, z2⟩ := R.get m2
      exact .inl ⟨r', ws, jb, z, rfl, rfl, .inl (.inl R.hr), atI_of R.rlen.symm m1 z1, k z z2⟩
    · obtain ⟨a', vs, B, h1, h2, h3, _⟩ := S.upd0 e1
      obtain ⟨n, n1, n2⟩ := atF_get e2
      obtain ⟨z, z1, z2⟩ := h3.getFz n2
      refine ⟨_, h1, F, G, ρ, s, .int ja, S, ef, fun vj rj => ?_⟩
      cases rj
      refine .inl ⟨a', vs, ja, z, rfl, rfl, .inl (.inl h2), atI_of h3.length.symm n1 z1, F, G, ρ, s, .int jb, S, eg, fun vk rk => ?_⟩
      exact ixD_rd S.sub z2 rk (show ixD (.lst ds) (.int jb) = some d from e3) k
  · rename_i ds e1
    obtain ⟨dj, ef, e⟩ := Option.bind_eq_some_iff.mp e
    obtain ⟨dr, er, e⟩ := Option.bind_eq_some_iff.mp e
    obtain ⟨dk, eg, e⟩ := Option.bind_eq_some_iff.mp e
    obtain ⟨B, h1, h2, h3⟩ := id S.sl
    obtain ⟨v, A, A', e2, o1, p1, s1⟩ := h1.get e1
    cases o1 with
    | fz r =>
      exact ⟨_, e2, F, G, ρ, s, dj, S, ef, fun vj rj => ixD_rd S.sub r rj er fun z rz => ⟨F, G, ρ, s, dk, S, eg, fun vk rk => ixD_rd S.sub rz rk e k⟩⟩
  · cases e
end
end DL

set_option Elab.async false
set_option linter.all false
set_option maxRecDepth 100000
namespace DL
open PySem PySem.Spec PyProof.Rows L2

/-! ### dicts whose keys are ints and texts -/
def keyD : D → Option Key
  | .int i => some (.inl i)
  | .str x => some (.inr x)
  | _ => none
theorem keyD_rep {c : Ct} {G : Hp} {d : D} {v : V} {k : Key} (r : Rep c G d v) (h : keyD d = some k) : v = kV k := by
  cases r <;> simp [keyD] at h <;> subst h <;> rfl
def lookD {κ : Type} [DecidableEq κ] (kvs : List (κ × D)) (k : κ) : Option D := (kvs.find? fun kv => decide (kv.1 = k)).map (·.2)
theorem lookD_pos {κ : Type} [DecidableEq κ] {p : κ × D} {r : List (κ × D)} {k : κ} (e : p.1 = k) : lookD (p :: r) k = some p.2 := by simp [lookD, List.find?_cons, e]
theorem lookD_neg {κ : Type} [DecidableEq κ] {p : κ × D} {r : List (κ × D)} {k : κ} (e : ¬ p.1 = k) : lookD (p :: r) k = lookD r k := by simp [lookD, List.find?_cons, e]
theorem look_val {κ : Type} [DecidableEq κ] {c : Ct} {G : Hp} (k : κ) : ∀ {ds : List D} {kvs : List (κ × V)}, RepL c G ds (kvs.map (·.2)) →
    (∀ d, lookD ((kvs.map (·.1)).zip ds) k = some d → ∃ v, valV kvs k = some v ∧ Rep c G d v) ∧ (lookD ((kvs.map (·.1)).zip ds) k = none → valV kvs k = none)
  | ds, [], r => by cases r; simp [lookD, valV]
  | ds, kv :: kvs, r => by
    cases r with
    | cons h r =>
      have ih := look_val k (kvs := kvs) r
      rw [List.map_cons, List.zip_cons_cons]
      by_cases hk : kv.1 = k
      · rw [lookD_pos hk, valV_pos hk]
        exact ⟨fun d e => by cases e; exact ⟨_, rfl, h⟩, fun e => by cases e⟩
      · rw [lookD_neg hk, valV_neg hk]; exact ih
theorem Rep.dkInv {c : Ct} {G : Hp} {d : D} {v : V} (r : Rep c G d v) : ∀ kd, d = .dk kd → ∃ a kvs ds, v = .ref a ∧ kd = (kvs.map (·.1)).zip ds ∧ G a = some (.dK kvs) ∧ RepL c G ds (kvs.map (·.2)) := by
  cases r <;> intro kd e <;> cases e
  rename_i h1 h2 h3
  exact ⟨_, _, _, rfl, by rw [h2], h1, h3⟩
section
variable {X : Cx} {fd : Option Addr} {W : Wish} {a b e o i : Expr} {pos : Pos} {f g h : M D}
def dgetD (d e : D) : Option D := match d with
  | .dk kvs => (keyD e).bind fun k => lookD kvs k
  | _ => none
theorem pd_dget (hu : X.A.units + 1 < cLine) (ho : PD X fd W o f) (hi : PD X fd W i g) (hs : NoSl i) : PD X fd W (.Subscript o i pos) (f.bnd fun x => g.bnd fun y => M.lft (dgetD x y)) := by
  refine PE.imp (pe_dget hu ho hi hs) fun σ H Q ⟨F, G, ρ, s, k⟩ => ⟨F, G, ρ, s, (k.bnd RD_F).mono fun x H1 ⟨d, G1, ρ1, s1, sm1, ⟨_, r1⟩, k1⟩ => ?_⟩
  refine ⟨F, G1, ρ1, s1, (k1.bnd RD_F).mono fun y H2 ⟨e, G2, ρ2, s2, sm2, ⟨_, r2⟩, k2⟩ => ?_⟩
  obtain ⟨w, e1, q, _⟩ := k2.fin
  cases d <;> simp only [dgetD] at e1 <;> try (cases e1; done)
  obtain ⟨kk, e2, e3⟩ := Option.bind_eq_some_iff.mp e1
  obtain rfl := keyD_rep r2 e2
  obtain ⟨p, kvs, ds, rfl, rfl, h1, h3⟩ := (r1.mono sm2).dkInv _ rfl
  obtain ⟨v, e4, r4⟩ := (look_val kk h3).1 _ e3
  exact ⟨_, v, rfl, .inl ⟨_, kk, .inl (k2.1.sub _ _ h1), rfl, e4.symm⟩, q v r4⟩
def isDk : D → Option Unit
  | .dk _ => some ()
  | _ => none
def get2M (f g h : M D) : M D := f.bnd fun x => (M.lft (isDk x)).bnd fun _ => g.bnd fun y => h.bnd fun z => M.lft (match x with
  | .dk kvs => (keyD y).map fun k => (lookD kvs k).getD z
  | _ => none)
theorem pd_get2 {apos : Pos} (hu : X.A.units + 1 < cLine) (ho : PD X fd W o f) (hi : PD X fd W i g) (hz : PD X fd W e h) (m : M2 X o "get" apos i e pos) : PD X fd W (.Call (.Attribute o "get" apos) [i, e] [] pos) (get2M f g h) := by
  refine PE.imp (pe_dget2 hu ho hi hz m) fun σ H Q ⟨F, G, ρ, s, k⟩ => ⟨F, G, ρ, s, (k.bnd RD_F).mono fun x H1 ⟨d, G1, ρ1, s1, sm1, ⟨_, r1⟩, k1⟩ => ?_⟩
  obtain ⟨_, ek, k1⟩ := lft_bnd k1
  cases d <;> simp only [isDk] at ek <;> try (cases ek; done)
  obtain ⟨p, kvs, ds, rfl, rfl, h1, h3⟩ := r1.dkInv _ rfl
  refine ⟨p, rfl, .inl ⟨kvs, .inl (k1.1.sub _ _ h1)⟩, F, G1, ρ1, s1, (k1.bnd RD_F).mono fun y H2 ⟨e, G2, ρ2, s2, sm2, ⟨_, r2⟩, k2⟩ => ?_⟩
  refine ⟨F, G2, ρ2, s2, (k2.bnd RD_F).mono fun z H3 ⟨dz, G3, ρ3, s3, sm3, ⟨_, r3⟩, k3⟩ => ?_⟩
  obtain ⟨w, e1, q, _⟩ := k3.fin
  obtain ⟨kk, e2, rfl⟩ := Option.map_eq_some_iff.mp e1
  obtain rfl := keyD_rep r2 e2
  have sm23 := sm2.trans sm3
  have this := look_val kk (h3.mono sm23)
  cases e3 : lookD ((kvs.map (·.1)).zip ds) kk with
  | none =>
    rw [e3] at q
    exact ⟨none, .inl ⟨kvs, kk, .inl (k3.1.sub _ _ (sm23 _ _ h1)), rfl, (this.2 e3).symm⟩, q _ r3⟩
  | some dd =>
    rw [e3] at q
    obtain ⟨v, e4, r4⟩ := this.1 _ e3
    exact ⟨some v, .inl ⟨kvs, kk, .inl (k3.1.sub _ _ (sm23 _ _ h1)), rfl, e4.symm⟩, q _ r4⟩
/-! displays -/
def pairsM : List (M D × M D) → M (List (D × D))
  | [] => M.ret []
  | p :: r => p.1.bnd fun x => p.2.bnd fun y => (pairsM r).bnd fun ps => M.ret ((x, y) :: ps)
def RPL (c : Ct) : RT (List (D × D)) (List (V × V)) := fun F F' G' _ ds vs => F' = F ∧ RepL c G' (ds.map (·.1)) (vs.map (·.1)) ∧ RepL c G' (ds.map (·.2)) (vs.map (·.2))
theorem RPL_F {c : Ct} : ∀ F F' G' H' a v, RPL c F F' G' H' a v → F' = F := fun _ _ _ _ _ _ h => h.1
theorem pairs_imp {c : Ct} : ∀ (fs : List (M D × M D)) {σ : L2.St} {H : Hp} {Q : List (V × V) → Hp → Prop}, tM c W (RPL c) (pairsM fs) σ H Q → tPairs (fs.map fun p => (tM c W (RD c) p.1, tM c W (RD c) p.2)) σ H Q
  | [], σ, H, Q, ⟨F, G, ρ, s, k⟩ => tAt.ret k [] H G F (Same.refl _) ⟨rfl, .nil, .nil⟩ k.1
  | p :: r, σ, H, Q, ⟨F, G, ρ, s, k⟩ => by
    refine ⟨F, G, ρ, s, (tAt.bnd k RD_F).mono fun x H1 ⟨d, G1, ρ1, s1, sm1, ⟨_, r1⟩, k1⟩ => ?_⟩
    refine ⟨F, G1, ρ1, s1, (k1.bnd RD_F).mono fun y H2 ⟨e, G2, ρ2, s2, sm2, ⟨_, r2⟩, k2⟩ => ?_⟩
    refine pairs_imp r ⟨F, G2, ρ2, s2, (tAt.bnd k2 RPL_F).mono fun ps H3 ⟨ds, G3, ρ3, s3, sm3, ⟨_, r3, r4⟩, k3⟩ => ?_⟩
    exact tAt.ret k3 _ H3 G3 F (Same.refl _) ⟨rfl, .cons (r1.mono (sm2.trans sm3)) r3, .cons (r2.mono sm3) r4⟩ k3.1
def keysD : List D → Option (List Key)
  | [] => some []
  | d :: ds => (keyD d).bind fun k => (keysD ds).map (k :: ·)
theorem keysD_rep {c : Ct} {G : Hp} : ∀ {ds : List D} {vs : List V} {ks : List Key}, RepL c G ds vs → keysD ds = some ks → vs = ks.map kV
  | _, _, ks, .nil, h => by simp [keysD] at h; subst h; rfl
  | _, _, ks, .cons h r, e => by
    simp only [keysD] at e
    obtain ⟨k, e1, e2⟩ := Option.bind_eq_some_iff.mp e
    obtain ⟨ks', e3, rfl⟩ := Option.map_eq_some_iff.mp e2
    rw [keyD_rep h e1, keysD_rep r e3]; rfl
def dispD (dps : List (D × D)) : Option D := (keysD (dps.map (·.1))).bind fun ks => if dps.length ≤ 15 ∧ ks.Nodup then some (.dk (ks.zip (dps.map (·.2)))) else none
theorem putK_new {kvs : List (Key × V)} {k : Key} {v : V} (h : k ∉ kvs.map (·.1)) : putK kvs k v = kvs ++ [(k, v)] := by
  unfold putK
  rw [if_neg]
  intro z
  obtain ⟨x, hx, e⟩ := List.any_eq_true.mp z
  exact h (by rw [← of_decide_eq_true e]; exact List.mem_map_of_mem hx)
theorem mergeK_new : ∀ (more kvs : List (Key × V)), ((kvs ++ more).map (·.1)).Nodup → mergeK kvs more = kvs ++ more
  | [], kvs, _ => by simp [mergeK]
  | p :: r, kvs, h => by
    have h1 : p.1 ∉ kvs.map (·.1) := fun z => by
      rw [List.map_append, List.map_cons] at h
      exact (List.nodup_append.mp h).2.2 p.1 z p.1 (by simp) rfl
    show mergeK (putK kvs p.1 p.2) r = _
    rw [putK_new h1, mergeK_new r _ (by simpa using h)]
    simp
def dispM (fs : List (M D × M D)) : M D := (pairsM fs).bnd fun dps => M.lft (dispD dps)
theorem pd_disp {keys : List (Option Expr)} {values : List Expr} {fs : List (M D × M D)} (h : PPs X pos keys values (fs.map fun p => (tM (ct X fd) W (RD (ct X fd)) p.1, tM (ct X fd) W (RD (ct X fd)) p.2))) (hall : keys.all (·.isSome) = true) (hl : keys.length = values.length) (h0 : keys ≠ []) (h15 : keys.length ≤ 15) :
    PD X fd W (.Dict keys values pos) (dispM fs) := by
  refine PE.imp (pe_disp h hall hl h0 h15) fun σ H Q ⟨F, G, ρ, s, S, k⟩ p hp => ?_
  have S1 := S.new (o := .dK []) hp
  have Fp := S.F_none hp
  have subF : ∀ a o, F a = some o → upd F p (.dK []) a = some o := fun a o e => by rw [upd_ne fun z => by rw [z, Fp] at e; cases e]; exact e
  have k1 : tAt (ct X fd) W (fun _ => RD (ct X fd) F) (upd F p (.dK [])) G ρ s (dispM fs) σ (upd H p (.dK [])) (fun v H' => Q v H') ∨ True := .inr trivial
  unfold dispM M.bnd at k
  refine pairs_imp fs ⟨upd F p (.dK []), G, ρ, s, S1, ?_⟩
  cases hf : pairsM fs ρ s with
  | bad => simp only [hf] at k
  | ex e s' => simp only [hf] at k; exact W.mono _ _ _ _ _ _ subF (Same.refl _) k
  | ok dps ρ1 s1 =>
    simp only [hf] at k
    rintro ps H1 G1 F1 sm ⟨rfl, r1, r2⟩ S2
    unfold M.lft dispD at k
    cases hk : keysD (dps.map (·.1)) with
    | none => simp only [hk, Option.bind_none] at k
    | some ks =>
      simp only [hk, Option.bind_some] at k
      by_cases hc : dps.length ≤ 15 ∧ ks.Nodup
      · simp only [if_pos hc] at k
        have ek := keysD_rep r1 hk
        have lks : ks.length = ps.length := by have := congrArg List.length ek; simpa using this.symm
        refine ⟨(S2.fr p _ upd_same).1, ks.zip (ps.map (·.2)), ?_, ?_, ?_⟩
        · apply List.ext_getElem
          · simp [lks]
          · intro j h1 h2
            have e1 : (ps.map (·.1))[j]'(by simpa using h1) = (ks.map kV)[j]'(by simp; omega) := by simp only [ek]
            simp at e1
            simp [← e1]
        · have l1 := r1.length
          simp at l1
          simp
          omega
        · have mk : mergeK [] (ks.zip (ps.map (·.2))) = ks.zip (ps.map (·.2)) := by
            rw [mergeK_new _ _ (by rw [List.nil_append, List.map_fst_zip (by simp [lks])]; exact hc.2)]
            rfl
          rw [mk]
          have S3 := S2.chg (o' := .dK (ks.zip (ps.map (·.2))))
          obtain ⟨S4, sm4⟩ := S3.fz1 Fp
          have rr : Rep (ct X fd) (upd G1 p (.dK (ks.zip (ps.map (·.2))))) (.dk (ks.zip (dps.map (·.2)))) (.ref p) := by
            refine .dk upd_same (List.map_fst_zip (by simp [lks])) ?_
            rw [List.map_snd_zip (by simp [lks])]
            exact r2.mono sm4
          exact k _ _ _ F (sm.trans sm4) ⟨rfl, rr⟩ S4
      · simp only [if_neg hc] at k
theorem ppd_nil : PPs X pos [] [] (([] : List (M D × M D)).map fun p => (tM (ct X fd) W (RD (ct X fd)) p.1, tM (ct X fd) W (RD (ct X fd)) p.2)) := pps_nil
theorem ppd_cons {k v : Expr} {ks : List (Option Expr)} {vs : List Expr} {fs : List (M D × M D)} (hk : PD X fd W k f) (hv : PD X fd W v g) (hr : PPs X pos ks vs (fs.map fun p => (tM (ct X fd) W (RD (ct X fd)) p.1, tM (ct X fd) W (RD (ct X fd)) p.2))) :
    PPs X pos (some k :: ks) (v :: vs) (((f, g) :: fs).map fun p => (tM (ct X fd) W (RD (ct X fd)) p.1, tM (ct X fd) W (RD (ct X fd)) p.2)) := pps_cons hk hv hr
end

/-! ### short names for the terms -/
section
variable {X : Cx} {fd : Option Addr} {W : Wish} {a b e : Expr} {es : List Expr} {pos : Pos} {f g : M D}
def op2 (h : D → D → Option D) (f g : M D) : M D := f.bnd fun x => g.bnd fun y => M.lft (h x y)
def un1 (h : D → Option D) (f : M D) : M D := f.bnd fun x => M.lft (h x)
def tB (f : M D) : M Bool := f.bnd fun x => M.lft (asB x)
def tT (f : M D) : M Bool := f.bnd fun x => M.lft (truD x)
def notT (f : M Bool) : M Bool := f.bnd fun b => M.ret (!b)
def frzM (f : M OT) : M D := f.mp OT.fzD
def fzM (f : M D) : M OT := f.mp OT.fz
def ifE (t : M Bool) (f g : M D) : M D := t.bnd fun b => if b = true then f else g
def op2N (h : D → D → Option OT) (f g : M D) : M OT := f.bnd fun x => g.bnd fun y => M.lft (h x y)
def un1N (h : D → Option OT) (f : M D) : M OT := f.bnd fun x => M.lft (h x)
def one1 (f : M D) : M (List D) := f.bnd fun x => M.ret [x]
def lN (g : M (List OT)) : M OT := g.bnd fun ts => M.lft ((okLen ts).map .ow)
def tpM (g : M (List D)) : M D := g.bnd fun ds => M.lft ((okLen ds).map .tup)
def seqI (f : M D) : M (List D) := f.bnd fun x => M.lft (itsD x)
def itM (h : List D → Option (List D)) (g : M (List D)) : M (List D) := g.bnd fun ds => M.lft (h ds)
def soM (f : M D) : M (Option Int) := f.bnd fun x => M.lft ((asI x).map some)
def noM : M (Option Int) := M.ret none
def exprM (m : M D) : Stm := thn1 m fun _ ρ s => .nx ρ s
def retD (m : M D) : Stm := thn1 m fun d _ s => .rt (.fz d) s
def retN (m : M OT) : Stm := thn1 m fun t _ s => .rt t s
def retV : Stm := fun _ s => .rt (.fz .non) s
def badS : Stm := fun _ _ => .bad
def negD : D → Option D
  | .int i => some (.int (-i))
  | _ => none
theorem r_D {f : M OT} (h : PN X fd W a f) : PD X fd W a (frzM f) := pd_of h
theorem r_N (h : PD X fd W a f) : PN X fd W a (fzM f) := pn_of h
theorem r_v (i : Nat) {x : Str} {pos : Pos} (hN : X.N[i]? = some x := by rfl) (hv : Vis X.env.scope x := by first | exact Or.inl rfl | exact Or.inr (Or.inl rfl) | exact Or.inr (Or.inr rfl)) (hd : (x == ("__debug__" : Str)) = false := by decide)
    (hcd : (x == ("__classdict__" : Str)) = false := by decide) : PD X fd W (.Name x pos) (rd i) := pd_var i (pe_var hN hv hd hcd)
theorem r_mv (i : Nat) {x : Str} {pos : Pos} (hN : X.N[i]? = some x := by rfl) (hv : Vis X.env.scope x := by first | exact Or.inl rfl | exact Or.inr (Or.inl rfl) | exact Or.inr (Or.inr rfl)) (hd : (x == ("__debug__" : Str)) = false := by decide)
    (hcd : (x == ("__classdict__" : Str)) = false := by decide) : PN X fd W (.Name x pos) (mv i) := pn_var i (pe_var hN hv hd hcd)
theorem r_hv (i : Nat) {x : Str} {pos : Pos} (hN : X.N[i]? = some x := by rfl) (hv : Vis X.env.scope x := by first | exact Or.inl rfl | exact Or.inr (Or.inl rfl) | exact Or.inr (Or.inr rfl)) (hd : (x == ("__debug__" : Str)) = false := by decide)
    (hcd : (x == ("__classdict__" : Str)) = false := by decide) : HD X fd W (.Name x pos) (pk i) := hd_var i (pe_var hN hv hd hcd)
theorem r_kv (i : Nat) {x : Str} {pos : Pos} (hN : X.N[i]? = some x := by rfl) (hv : Vis X.env.scope x := by first | exact Or.inl rfl | exact Or.inr (Or.inl rfl) | exact Or.inr (Or.inr rfl)) (hd : (x == ("__debug__" : Str)) = false := by decide)
    (hcd : (x == ("__classdict__" : Str)) = false := by decide) : KD X fd (.Name x pos) (kVar i) := kd_var i (pe_var hN hv hd hcd)
theorem r_lv (i : Nat) {x : Str} {pos : Pos} (hN : X.N[i]? = some x := by rfl) (hv : Vis X.env.scope x := by first | exact Or.inl rfl | exact Or.inr (Or.inl rfl) | exact Or.inr (Or.inr rfl)) (hd : (x == ("__debug__" : Str)) = false := by decide)
    (hcd : (x == ("__classdict__" : Str)) = false := by decide) : LD X fd W (.Name x pos) (pkI i) := ld_var i (pe_var hN hv hd hcd)
theorem r_gi {x : Str} {n : Int} {t : Tok} (hg : Gl X x) (hm : X.mg x = some (.int n t)) (hd : (x == ("__debug__" : Str)) = false := by decide) : PD X fd W (.Name x pos) (M.ret (.int n)) := pd_C (v := .int n) (pe_glob hg hm ⟨_, rfl⟩ hd) fun _ => .int n
theorem r_op {op : Operator} {h : D → D → Option D} (ho : DOp X fd (binaryOp op) h) (ha : PD X fd W a f) (hb : PD X fd W b g) : PD X fd W (.BinOp a op b pos) (op2 h f g) := pd_op ho ha hb
theorem r_neg (h : PD X fd W a f) : PD X fd W (.UnaryOp .USub a pos) (un1 negD f) := by
  refine PE.imp (pe_un un_neg h) fun σ H Q ⟨F, G, ρ, s, k⟩ => ⟨F, G, ρ, s, (tAt.bnd k RD_F).mono fun x H1 ⟨d, G1, ρ1, s1, sm1, ⟨_, r1⟩, k1⟩ => ?_⟩
  obtain ⟨w, e, q, _⟩ := k1.fin
  cases r1 <;> simp [negD] at e
  subst e
  exact ⟨_, rfl, q _ (.int _)⟩
theorem SOp.of {f : Value → Value → Sem Value} {g : Int → Int → Bool} (ho : OpR X f (rI0 fun i j => .bl (g i j))) : SOp X fd f (i2 fun i j => some (.bl (g i j))) := by
  refine ⟨fun d e w h => ?_, _, ho, fun H d e w x y Q r1 r2 hw q => ?_⟩
  · unfold i2 at h; split at h <;> cases h; rfl
  · unfold i2 at hw
    split at hw
    · cases r1; cases r2
      obtain rfl := Option.some.inj hw
      exact ⟨_, _, rfl, rfl, q _ (.bl _)⟩
    · cases hw
theorem s_lt : SOp X fd (compareOp .Lt) ltI := SOp.of op_lt
theorem s_le : SOp X fd (compareOp .LtE) leI := SOp.of op_le
theorem s_gt : SOp X fd (compareOp .Gt) gtI := SOp.of op_gt
theorem s_ge : SOp X fd (compareOp .GtE) geI := SOp.of op_ge
theorem s_isN : SOp X fd (compareOp .Is) isN := by
  refine ⟨fun d e w h => ?_, ?_⟩
  · unfold isN at h; split at h
    · cases h; rfl
    · cases h
  · obtain ⟨r, o, hr⟩ := d_isN (X := X) (fd := fd)
    exact ⟨r, o, fun H d e w x y Q r1 r2 h q => hr H H d e w x y Q (Same.refl H) r1 r2 h q⟩
theorem s_notN : SOp X fd (compareOp .IsNot) notN := by
  refine ⟨fun d e w h => ?_, ?_⟩
  · unfold notN at h; split at h
    · cases h; rfl
    · cases h
  · obtain ⟨r, o, hr⟩ := d_notN (X := X) (fd := fd)
    exact ⟨r, o, fun H d e w x y Q r1 r2 h q => hr H H d e w x y Q (Same.refl H) r1 r2 h q⟩
theorem r_cmp {op : CmpOp} {h : D → D → Option D} (ho : SOp X fd (compareOp op) h) (ha : PD X fd W a f) (hb : HD X fd W b g) (hm : behindInMarks op b = false) : PD X fd W (.Compare a [op] [b] pos) (op2 h f g) := pd_cmpS ho ha hb hm
theorem r_tcmp {op : CmpOp} {h : D → D → Option D} (ho : SOp X fd (compareOp op) h) (ha : PD X fd W a f) (hb : HD X fd W b g) (hm : behindInMarks op b = false) : TD X fd W (.Compare a [op] [b] pos) (tB (op2 h f g)) := td_cmpS ho ha hb hm
theorem r_cmpV (i : Nat) {x : Str} {p : Pos} {op : CmpOp} {h : D → D → Option D} (ho : SOp X fd (compareOp op) h) (hb : HD X fd W b g) (hm : behindInMarks op b = false) (hN : X.N[i]? = some x := by rfl) (hv : Vis X.env.scope x := by first | exact Or.inl rfl | exact Or.inr (Or.inl rfl) | exact Or.inr (Or.inr rfl)) (hd : (x == ("__debug__" : Str)) = false := by decide)
    (hcd : (x == ("__classdict__" : Str)) = false := by decide) : PD X fd W (.Compare (.Name x p) [op] [b] pos) (nameOp i g h) := pd_cmpV i ho (pe_var hN hv hd hcd) hb hm
theorem r_tcmpV (i : Nat) {x : Str} {p : Pos} {op : CmpOp} {h : D → D → Option D} (ho : SOp X fd (compareOp op) h) (hb : HD X fd W b g) (hm : behindInMarks op b = false) (hN : X.N[i]? = some x := by rfl) (hv : Vis X.env.scope x := by first | exact Or.inl rfl | exact Or.inr (Or.inl rfl) | exact Or.inr (Or.inr rfl)) (hd : (x == ("__debug__" : Str)) = false := by decide)
    (hcd : (x == ("__classdict__" : Str)) = false := by decide) : TD X fd W (.Compare (.Name x p) [op] [b] pos) (tB (nameOp i g h)) := td_cmpV i ho (pe_var hN hv hd hcd) hb hm
theorem r_tval (h : PD X fd W a f) (he : ∀ whole, isTrue a X.env whole = (do let v ← whole; standAt a.pos; holding [v] (truthy v)) := by intro _; rfl) : TD X fd W a (tB f) := td_val h he
theorem r_ttru (h : HD X fd W a f) (he : ∀ whole, isTrue a X.env whole = (do let v ← whole; standAt a.pos; holding [v] (truthy v)) := by intro _; rfl) : TD X fd W a (tT f) := td_tru h he
theorem r_tnot {t : M Bool} (h : TD X fd W a t) : TD X fd W (.UnaryOp .Not a pos) (notT t) := td_not h
theorem r_not (h : PD X fd W a f) : PD X fd W (.UnaryOp .Not a pos) (un1 (fun x => (asB x).map fun b => .bl (!b)) f) := pd_not h
theorem r_if {c : Expr} {t : M Bool} (hc : TD X fd W c t) (ha : PD X fd W a f) (hb : PD X fd W b g) : PD X fd W (.IfExp c a b pos) (ifE t f g) := pd_if hc ha hb
theorem r_ix (ha : PD X fd W a f) (hb : PD X fd W b g) (hs : PlainIx b := by intro _ _; rfl) : PD X fd W (.Subscript a b pos) (op2 ixD f g) := pd_ix ha hb hs
theorem r_ixV (i : Nat) {x : Str} {p : Pos} (hb : PD X fd W b g) (hs : PlainIx b := by intro _ _; rfl) (hN : X.N[i]? = some x := by rfl) (hv : Vis X.env.scope x := by first | exact Or.inl rfl | exact Or.inr (Or.inl rfl) | exact Or.inr (Or.inr rfl)) (hd : (x == ("__debug__" : Str)) = false := by decide)
    (hcd : (x == ("__classdict__" : Str)) = false := by decide) : PD X fd W (.Subscript (.Name x p) b pos) (nameIx i g) := pd_ixV i (pe_var hN hv hd hcd) hb hs
theorem r_one (h : HD X fd W e f) (hs : starEach (e :: []) X.env = (false, eval e X.env) :: starEach [] X.env := by rfl) : AH X fd W [e] (one1 f) := ah_one h hs
theorem r_lst {g : M (List OT)} (h : AN X fd W es g) : PN X fd W (.List es pos) (lN g) := pn_lst h
theorem r_tup {k1} {g : M (List D)} (h : AD X fd W es g) : PD X fd W (.Tuple es k1 pos) (tpM g) := pd_tup h
theorem r_cat (ha : PD X fd W a f) (hb : PD X fd W b g) : PN X fd W (.BinOp a .Add b pos) (op2N catD f g) := pn_cat ha hb
theorem r_rep (ha : PD X fd W a f) (hb : PD X fd W b g) : PN X fd W (.BinOp a .Mult b pos) (op2N repD f g) := pn_rep ha hb
theorem r_seq {tg : Expr} (h : PD X fd W a f) : ID X fd W tg a (seqI f) := id_seq h
theorem r_so (h : PD X fd W a f) : ODx X fd W (some a) (soM f) := od_so h
theorem r_no : ODx X fd W none noM := od_no
theorem r_expr {m : M D} (h : PD X fd W e m) (hs : swapsWith e none pos.line X.env = pure false := by rfl) : SD X fd W (.Expr e pos) (exprM m) := sd_expr h hs
theorem r_ret {m : M D} (h : PD X fd W e m) : SD X fd W (.Return (some e) pos) (retD m) := sd_retD h
theorem r_retN {m : M OT} (h : PN X fd W e m) : SD X fd W (.Return (some e) pos) (retN m) := sd_ret h
theorem r_retV : SD X fd W (.Return none pos) retV := sd_retN
theorem r_bad {st : Stmt} : SD X fd W st badS := sd_never
theorem r_set (i : Nat) {x : Str} {pos' : Pos} {m : M D} (h : PD X fd W e m) (hN : X.N.Nodup) (hi : X.N[i]? = some x := by rfl) (hx : Loc X.env.scope x := by first | exact Or.inl rfl | exact Or.inr rfl) (hs : swapsWith e (some (.Name x pos')) pos.line X.env = pure false := by rfl) (hf : X.fn x = true ∨ X.env.scope.names.lookup x = some .local := by first | exact .inl rfl | exact .inr rfl) :
    SD X fd W (.Assign [.Name x pos'] e pos) (stD i m) := sd_setD h fun he => ps_set hN hi hx he hs hf
theorem r_setN (i : Nat) {x : Str} {pos' : Pos} {m : M OT} (h : PN X fd W e m) (hN : X.N.Nodup) (hi : X.N[i]? = some x := by rfl) (hx : Loc X.env.scope x := by first | exact Or.inl rfl | exact Or.inr rfl) (hs : swapsWith e (some (.Name x pos')) pos.line X.env = pure false := by rfl) (hf : X.fn x = true ∨ X.env.scope.names.lookup x = some .local := by first | exact .inl rfl | exact .inr rfl) :
    SD X fd W (.Assign [.Name x pos'] e pos) (stN i m) := sd_set h fun he => ps_set hN hi hx he hs hf
theorem r_aug (i : Nat) {x : Str} {op : Operator} {pos' : Pos} {h : D → D → Option D} {m : M D} (ho : DOp X fd (inplaceOp op) h) (he : PD X fd W e m) (hN : X.N.Nodup) (hi : X.N[i]? = some x := by rfl) (hx : Loc X.env.scope x := by first | exact Or.inl rfl | exact Or.inr rfl) (hv : Vis X.env.scope x := by first | exact Or.inl rfl | exact Or.inr (Or.inl rfl) | exact Or.inr (Or.inr rfl)) (hd : (x == ("__debug__" : Str)) = false := by decide)
    (hcd : (x == ("__classdict__" : Str)) = false := by decide) (hf : X.fn x = true ∨ X.env.scope.names.lookup x = some .local := by first | exact .inl rfl | exact .inr rfl) : SD X fd W (.AugAssign (.Name x pos') op e pos) (stAug i m h) :=
  sd_aug ho he (pe_var hi hv hd hcd) fun he ho => ps_aug hN hi hx he ho hf
theorem r_gn (i : Nat) {x : Str} {pos : Pos} (hN : X.N.Nodup) (hi : X.N[i]? = some x := by rfl) (hx : Loc X.env.scope x := by first | exact Or.inl rfl | exact Or.inr rfl) (hf : X.fn x = true ∨ X.env.scope.names.lookup x = some .local := by first | exact .inl rfl | exact .inr rfl) : GD X fd (.Name x pos) [i] (gN i) := gd_name (pg_name hN hi hx hf)
theorem r_setI (i : Nat) {x : Str} {p p2 : Pos} {m : M D} (h : PD X fd W e m) (hi : PD X fd W b g) (hN : X.N[i]? = some x := by rfl) (hv : Vis X.env.scope x := by first | exact Or.inl rfl | exact Or.inr (Or.inl rfl) | exact Or.inr (Or.inr rfl)) (hd : (x == ("__debug__" : Str)) = false := by decide)
    (hcd : (x == ("__classdict__" : Str)) = false := by decide) (ha : ∀ v, assign (.Subscript (.Name x p) b p2) X.env v = (do
      let ov ← holding [v] (eval (.Name x p) X.env)
      let iv ← holding [v, ov] (eval b X.env)
      standAt p2
      holding [v, ov, iv] (setItem ov iv v)
      release [v, ov, iv] []) := by intro _; rfl)
    (hs : swapsWithSole [.Subscript (.Name x p) b p2] e pos.line X.env = pure false := by rfl) (hw : swappedStores [.Subscript (.Name x p) b p2] e X.env = pure none := by rfl)
    (h1 : (assignEach [.Subscript (.Name x p) b p2] X.env).map (·.2) = [assign (.Subscript (.Name x p) b p2) X.env] := by rfl) :
    SD X fd W (.Assign [.Subscript (.Name x p) b p2] e pos) (stSet i m g) := sd_setI h (pe_var hN hv hd hcd) hi fun he ho hi => ps_asg he (pg_sub ho hi set_list ha) hs hw h1
theorem r_set2 (i : Nat) {x : Str} {p p2 p3 : Pos} {m : M D} {f g : Env → Option D} (h : PD X fd W e m) (ha : KD X fd a f) (hb : KD X fd b g) (hs : PlainIx a := by intro _ _; rfl) (hN : X.N[i]? = some x := by rfl) (hv : Vis X.env.scope x := by first | exact Or.inl rfl | exact Or.inr (Or.inl rfl) | exact Or.inr (Or.inr rfl)) (hd : (x == ("__debug__" : Str)) = false := by decide)
    (hcd : (x == ("__classdict__" : Str)) = false := by decide) (has : ∀ v, assign (.Subscript (.Subscript (.Name x p) a p3) b p2) X.env v = (do
      let ov ← holding [v] (eval (.Subscript (.Name x p) a p3) X.env)
      let iv ← holding [v, ov] (eval b X.env)
      standAt p2
      holding [v, ov, iv] (setItem ov iv v)
      release [v, ov, iv] []) := by intro _; rfl)
    (hsw : swapsWithSole [.Subscript (.Subscript (.Name x p) a p3) b p2] e pos.line X.env = pure false := by rfl) (hw : swappedStores [.Subscript (.Subscript (.Name x p) a p3) b p2] e X.env = pure none := by rfl)
    (h1 : (assignEach [.Subscript (.Subscript (.Name x p) a p3) b p2] X.env).map (·.2) = [assign (.Subscript (.Subscript (.Name x p) a p3) b p2) X.env] := by rfl) :
    SD X fd W (.Assign [.Subscript (.Subscript (.Name x p) a p3) b p2] e pos) (stSet2 i m f g) := sd_set2 h (pe_var hN hv hd hcd) ha hb hs fun he ho hi => ps_asg he (pg_sub ho hi set_list has) hsw hw h1
end
end DL

set_option Elab.async false
set_option linter.all false
set_option maxRecDepth 100000
namespace L2
open PySem PySem.Spec PyProof.Rows
theorem Room.u65 {k : Nat} {A : Around} (r : Room k A) : A.units + 65 < cLine := by have := r.un; omega
theorem truth_ints {prog : Program} {w : World} {A : Around} {ns : List Int} {its : List Value} (e : Vals (ns.map V.int) its) :
    TruthOf prog w A (fun i v => its.toArray[i]? = some v) (fun i => (ns.map (· != 0)).getD i false) := fun i v s Q E hv hq => by
  have hv' : its[i]? = some v := by simpa using hv
  cases hn : ns[i]? with
  | none =>
    have : (ns.map V.int)[i]? = none := by rw [List.getElem?_map, hn]; rfl
    rw [Vals.none_of e this] at hv'; cases hv'
  | some n =>
    obtain ⟨u, hu, r⟩ := Vals.get e (i := i) (x := .int n) (by rw [List.getElem?_map, hn]; rfl)
    rw [hv'] at hu
    cases hu
    obtain ⟨t, rfl⟩ := r
    have hg : (ns.map (· != 0)).getD i false = (n != 0) := by rw [List.getD_eq_getElem?_getD, List.getElem?_map, hn] <;> rfl
    have hq' : Q ((ns.map (· != 0)).getD i false) s := hq
    rw [hg] at hq'
    exact truthy_int hq'
def rAnyI (K : PySem.W.Frag) : List V → Hp → VK → Prop := fun vs H Q => ∃ (a : Addr) (ns : List Int), vs = [V.ref a] ∧ SqL K H a (ns.map V.int) ∧ Q (.bl (ns.any (· != 0))) H
theorem cr_anyI {X : Cx} (hc : X.calm = true) : CallR X (.builtin "any") (rAnyI X.K) := by
  intro pins s σ H vs us Q I r h
  obtain ⟨a, ns, rfl, hs, q⟩ := h
  obtain ⟨its, rv, hl, _⟩ := I.list hs
  rw [Vals.ref1 r]
  refine call_any_walk (iter_any hl.isList fun s₂ e2 st hne => ?_)
  subst e2
  refine ⟨_, _, _, _, _, _, _, rfl, Walks.list (A := X.A.in1) (I.ok.hd hc) _ a hne its.toArray, st, truth_ints rv, fun h' tk hk => ?_⟩
  refine ⟨.bl _, H, I.kept fun b o eo => hk b o (fun hmem => ?_) (Heap.get?_push_of_some _ eo), ?_, q⟩
  · rcases List.mem_cons.mp hmem with e1 | hmem
    · exact absurd (e1 ▸ Heap.lt_size eo) (Nat.lt_irrefl _)
    · cases hmem
  · show Value.bool _ = Value.bool _
    have hl := rv.length
    rw [List.length_map] at hl
    have : ns.any (· != 0) = (ns.map (· != 0)).any id := by rw [List.any_map]; rfl
    rw [this, ← any_range, List.size_toArray, ← hl, List.length_map]
end L2
namespace DL
open PySem PySem.Spec PyProof.Rows L2
section
variable {X : Cx} {fd : Option Addr} {W : Wish} {a b e : Expr} {es : List Expr} {pos : Pos} {f g : M D} {st : Stmt}
def anyT : List D → Option D
  | [.lst xs] => (intsD xs).map fun ns => .bl (ns.any (· != 0))
  | _ => none
theorem sc_anyI (hc : X.calm = true) : SCall X fd (.builtin "any") anyT := by
  refine ⟨fun ds w h => ?_, _, cr_anyI hc, fun H ds w vs Q r h q => ?_⟩
  · unfold anyT at h
    split at h
    · obtain ⟨n, e, rfl⟩ := Option.map_eq_some_iff.mp h; rfl
    · cases h
  · unfold anyT at h
    split at h
    · obtain ⟨ns, e, rfl⟩ := Option.map_eq_some_iff.mp h
      have := intsD_eq e
      subst this
      cases r with
      | cons r rr =>
        cases rr
        cases r with
        | lst h r =>
          rw [r.ints] at h
          exact ⟨_, ns, rfl, .inl (.inl h), q _ (.bl _)⟩
    · cases h
def kM (f : Env → Option D) : M D := fun ρ s => match f ρ with
  | some d => .ok d ρ s
  | none => .bad
def kop2 (h : D → D → Option D) (f g : Env → Option D) : Env → Option D := fun ρ => (f ρ).bind fun x => (g ρ).bind fun y => h x y
def tplM (f : M (List D)) : M D := f.mp .tup
def srtD : D → Option OT
  | .lst ds => (intsD ds).map fun ns => .ow ((srtI ns).map fun n => .fz (.int n))
  | _ => none
theorem r_sorted {p : Pos} (hg : Gl X "sorted") (hm : X.mg "sorted" = none) (h : HD X fd W a f) (hs : starEach [a] X.env = (false, eval a X.env) :: starEach [] X.env := by rfl) :
    PN X fd W (.Call (.Name "sorted" p) [a] [] pos) (un1N srtD f) := pn_sorted (g := M.ret []) hg hm h hs
/-- a slot frozen behind a statement -/
def fzE (i : Nat) (ρ : Env) : Env := match ρ[i]? with
  | some (some t) => ρ.set i (some (.fz t.fzD))
  | _ => ρ
theorem Sat.fzE {c : Ct} {F G H : Hp} {σ : L2.St} {ρ : Env} {s : FS} (S : Sat c F G H σ ρ s) (i : Nat) : ∃ G', Same G G' ∧ Sat c F G' H σ (DL.fzE i ρ) s := by
  unfold DL.fzE
  rcases e : ρ[i]? with _ | _ | t
  · exact ⟨G, Same.refl _, S⟩
  · exact ⟨G, Same.refl _, S⟩
  · obtain ⟨v, A, e1, o1, nd, hF, S1⟩ := S.take e
    obtain ⟨S2, sm2⟩ := S1.freeze hF fun a ha => o1.there a ha
    have r := o1.freeze sm2 (fun a ha => ovl_in ha)
    have hi : i < ρ.length := (List.getElem?_eq_some_iff.mp e).1
    have S3 := S2.putD (i := i) (by simpa using hi) r
    rw [set_same e1, List.set_set] at S3
    exact ⟨_, sm2, S3⟩
def fzS (i : Nat) (f : Stm) : Stm := fun ρ s => match f ρ s with
  | .nx ρ1 s1 => .nx (DL.fzE i ρ1) s1
  | o => o
theorem sd_fz (i : Nat) {f : Stm} (h : SD X fd W st f) : SD X fd W st (fzS i f) := by
  refine PS.imp h fun D σ H ⟨F, G, ρ, s, S, k⟩ => ⟨F, G, ρ, s, S, ?_⟩
  unfold fzS at k
  cases hf : f ρ s with
  | nx ρ1 s1 =>
    simp only [hf] at k
    intro σ' H' G' sm S'
    obtain ⟨G2, sm2, S2⟩ := S'.fzE i
    exact k σ' H' G2 (sm.trans sm2) S2
  | rt t s1 => simp only [hf] at k; exact k
  | bk ρ1 s1 => simp only [hf] at k; exact k
  | ct ρ1 s1 => simp only [hf] at k; exact k
  | ex t s1 => simp only [hf] at k; exact k
  | bad => simp only [hf] at k; exact k
end
end DL

set_option Elab.async false
set_option linter.all false
set_option maxRecDepth 100000
namespace DL
open PySem PySem.Spec PyProof.Rows L2
/-! ### the draws -/
def absI (i : Int) : Int := if i < 0 then -i else i
def drawA (s : FS) : FS := if s.big = 0 ∧ s.pos < (s.script.length : Int) then
    (if absI (s.script.getD s.pos.toNat 0) ≥ 10 ^ 18 then { s with pos := s.pos + 1, big := absI (s.script.getD s.pos.toNat 0) }
      else { s with pos := s.pos + 1, st := (s.st * 48271 + absI (s.script.getD s.pos.toNat 0) * 69621 + (s.pos + 1)) % 2147483647 }) else s
def drawB (m : Int) (s : FS) : Int × FS := if 0 < s.big then (s.big % m, { s with big := s.big / m })
  else ((((s.st * 16807 + 12345) % 2147483647) * ((s.st * 16807 + 12345) % 2147483647) + (s.st * 16807 + 12345) % 2147483647) % 2147483629 / 11 % m, { s with st := (s.st * 16807 + 12345) % 2147483647 })
def drawF (m : Int) (s : FS) : Int × FS := drawB m (drawA s)
def m__law_draw : List D → FS → Option (OT × FS)
  | [.feed, .int m], s => if 0 < m ∧ m < 1073741824 ∧ 0 ≤ s.pos then some (.fz (.int (drawF m s).1), (drawF m s).2) else none
  | _, _ => none
/-- a state of the draws that is in order -/
structure FS.ok (s : FS) : Prop where
  lv : s.lv = true
  pos : 0 ≤ s.pos
theorem drawA_ok {s : FS} (h : s.ok) : (drawA s).ok := by
  unfold drawA
  have := h.pos
  split
  · split
    · exact ⟨h.lv, by show 0 ≤ s.pos + 1; omega⟩
    · exact ⟨h.lv, by show 0 ≤ s.pos + 1; omega⟩
  · exact h
theorem drawB_ok {s : FS} {m : Int} (h : s.ok) (hm : 0 < m) : (drawB m s).2.ok ∧ 0 ≤ (drawB m s).1 ∧ (drawB m s).1 < m := by
  unfold drawB
  split
  · exact ⟨⟨h.lv, h.pos⟩, Int.emod_nonneg _ (by omega), Int.emod_lt_of_pos _ hm⟩
  · exact ⟨⟨h.lv, h.pos⟩, Int.emod_nonneg _ (by omega), Int.emod_lt_of_pos _ hm⟩
theorem drawF_ok {s : FS} {m : Int} (h : s.ok) (hm : 0 < m) : (drawF m s).2.ok ∧ 0 ≤ (drawF m s).1 ∧ (drawF m s).1 < m := drawB_ok (drawA_ok h) hm
theorem m_draw {s : FS} {m : Int} (h : s.ok) (hm : 0 < m) (h2 : m < 1073741824) : ∃ r s', m__law_draw [.feed, .int m] s = some (.fz (.int r), s') ∧ 0 ≤ r ∧ r < m ∧ s'.ok := by
  obtain ⟨h3, h4, h5⟩ := drawF_ok h hm
  exact ⟨_, _, if_pos ⟨hm, h2, h.pos⟩, h4, h5, h3⟩
/-- a call of _law_draw in an expression -/
theorem callF_draw {s : FS} {ρ : Env} {g : M (List D)} {m : Int} {ρ1 : Env} {s1 : FS} (e : g ρ s = .ok [.feed, .int m] ρ1 s1) (h : s1.ok) (hm : 0 < m) (h2 : m < 1073741824) :
    ∃ r s', callF 2 m__law_draw g ρ s = .ok (.fz (.int r)) ρ1 s' ∧ 0 ≤ r ∧ r < m ∧ s'.ok := by
  obtain ⟨r, s', e1, h3, h4, h5⟩ := m_draw h hm h2
  refine ⟨r, s', ?_, h3, h4, h5⟩
  unfold callF M.bnd callFB
  rw [e]
  simp only [List.length_cons, List.length_nil, h.lv, and_self, if_true, e1]

/-! ### the law's own call -/
def spFeed (K : PySem.W.Frag) : Sp := fun vs H Q _ => ∃ (a : Addr) (ns : List Int), vs = [.ref a] ∧ SqL K H a (ns.map V.int) ∧
  ∀ p q, H q = none → upd H q (.lst (ns.map V.int)) p = none → Q (.ref p) (upd (upd H q (.lst (ns.map V.int))) p (.lst [.ref q, .int 0, .int 0, .int 1]))
def spLaw (K : PySem.W.Frag) : Sp := fun vs H Q _ => ∃ (a : Addr) (ns : List Int), vs = [.ref a] ∧ SqL K H a (ns.map V.int) ∧ ns.length ≤ 63 ∧ ∀ H', Q (.bl true) H'
def s01 (ns : List Int) : FS := ⟨ns, 0, 0, 1, true⟩
theorem s01_ok (ns : List Int) : (s01 ns).ok := ⟨rfl, Int.le_refl 0⟩
/-- the state at the law's second statement -/
def envL (n : Nat) (i : Nat) : Env := (List.replicate n none).set i (some (.fz .feed))
theorem slots_no {c : Ct} {G H : Hp} : ∀ (σ : L2.St), Slots c G H (List.replicate σ.length none) σ []
  | [] => .nil
  | v :: σ => by
    rw [List.length_cons, List.replicate_succ]
    exact .no (slots_no σ)
theorem law_read {K : PySem.W.Frag} {H : Hp} {p q : Addr} {ns : List Int} {σ : L2.St} {i : Nat} {b : Stm} {Q : VK} {n : Nat} (hn : n = σ.length) (hi : σ[i]? = some (some (.ref p))) (hq : H q = some (.lst (ns.map V.int))) (hp : H p = some (.lst [.ref q, .int 0, .int 0, .int 1])) (hpq : q ≠ p)
    (hb : ∃ s', b (envL n i) (s01 ns) = .rt (.fz (.bl true)) s') (hQ : ∀ H', Q (.bl true) H') : tS ⟨K, some p⟩ W0 b { nx := fun _ H' => Q .non H', rt := Q } σ H := by
  subst hn
  have S : Sat ⟨K, some p⟩ (fun _ => none) (fun a => if a = q then H a else none) H σ (List.replicate σ.length none) (s01 ns) := by
    refine ⟨fun a o e => ?_, fun a o e => (by cases e), fun p' e => ?_, [], slots_no σ, List.nodup_nil, fun _ h => by simp at h⟩
    · split at e
      · exact e
      · cases e
    · have : p = p' := Option.some.inj e.1
      subst this
      exact ⟨if_neg fun z => hpq z.symm, rfl, q, hp, (if_pos rfl).trans hq⟩
  have S2 := S.putD' (i := i) (d := .feed) (v := .ref p) (.feed rfl)
  rw [set_same hi] at S2
  refine ⟨_, _, _, _, S2, ?_⟩
  obtain ⟨s', e⟩ := hb
  show oc _ _ _ _ _ (b (envL σ.length i) (s01 ns))
  rw [e]
  intro v H' G' A sm o nd hF S'
  cases o with
  | fz r =>
    cases r
    exact hQ H'
section
variable {P : Program} {w : World} {K : PySem.W.Frag} {mg : Str → Option Value} {base : Heap}
theorem fn_law {x qual : Str} {st : Stmt} {f : Addr} {fd : FuncData} {N : List Str} {k : Nat} {i : Nat} {b : Stm} {sc : Scope} {s0 : Stmt} {body : List Stmt} (F : Fun K x qual st f fd) (hsc : defScope st = sc) (hbd : defBody st = s0 :: body) (S : FnScope N ["script"] (defScope st)) (hi : i < N.length) (hi0 : 0 < N.length)
    (hfirst : ∀ (cdv : Value) (A : Around) (outer : List PySem.Env) (s : Shared) (H : Hp) (E : XK), Room k (A.deeper (envOfC qual sc s.heap.objs.size f cdv)) →
      PS (cxOf CX0 P w K mg base N qual sc f cdv A outer s H E).nox s0 (tAsg (tCall (spFeed K) [] E0 (tCons (tVar 0) tNil)) (gName i)))
    (hbody : ∀ (cdv : Value) (A : Around) (outer : List PySem.Env) (s : Shared) (H : Hp) (E : XK) (p : Addr), Room k (A.deeper (envOfC qual sc s.heap.objs.size f cdv)) →
      SDs (cxOf CX0 P w K mg base N qual sc f cdv A outer s H E).nox (some p) W0 body b)
    (hb : ∀ ns : List Int, ns.length ≤ 63 → ∃ s', b (envL N.length i) (s01 ns) = .rt (.fz (.bl true)) s') : FnOk P w K mg base CX0 (k + 1) f fd ["script"] (spLaw K) := by
  subst hsc
  refine F.ok S (fun vs H Q E h => ?_) (fun cdv A outer s H vs Q E hr h => ?_)
  · obtain ⟨a, ns, rfl, _⟩ := h
    rfl
  · obtain ⟨a, ns, rfl, hS, hlen, q⟩ := h
    rw [hbd]
    have hall : PSs (cxOf CX0 P w K mg base N qual (defScope st) f cdv A outer s H E).nox (s0 :: body) (fun D σ H => tAsg (tCall (spFeed K) [] E0 (tCons (tVar 0) tNil)) (gName i) { D with nx := fun σ H => ∃ p, tS ⟨K, some p⟩ W0 b D σ H } σ H) := by
      refine ⟨fun pins s' σ H' D I h => ?_⟩
      exact (pss_cons (hfirst cdv A outer s H E hr) (t := _) (u := fun D σ H => ∃ p, tS ⟨K, some p⟩ W0 b D σ H) ⟨fun pins s' σ H' D I ⟨p, h⟩ => (hbody cdv A outer s H E p hr).run pins s' σ H' D I h⟩).run pins s' σ H' D I h
    refine ⟨_, hall, ?_⟩
    have l0 : (L2.start N [.ref a]).length = N.length := by
      unfold L2.start
      simp
      omega
    refine ⟨.ref a, by unfold L2.start; rfl, a, ns, rfl, hS, fun p qq hq hp => ?_⟩
    have npq : qq ≠ p := fun z => by subst z; rw [upd_same] at hp; cases hp
    refine ⟨p, law_read (q := qq) (ns := ns) (i := i) (n := N.length) (by rw [List.length_set, l0]) (by rw [List.getElem?_set_self (by rw [l0]; exact hi)]) (by rw [upd_ne npq, upd_same]) upd_same npq (hb ns hlen) q⟩
end
end DL

set_option Elab.async false
set_option linter.all false
set_option maxRecDepth 100000
set_option maxHeartbeats 4000000
namespace Sq
open PySem PySem.Spec PyProof.Rows L2 DL
section
def topS (i : Nat) : Stmt := PySem.Challenge.pw_squarewords_k56_whole_field_laws.main.body.getD i (.Pass ⟨0, 0, 0, 0⟩)
abbrev s_prime_and_degree : Stmt := topS 5
abbrev n_prime_and_degree : List Str := ["q", "p", "degree", "rest"]
abbrev p_prime_and_degree : List Str := ["q"]
theorem sc_prime_and_degree : FnScope n_prime_and_degree p_prime_and_degree (defScope s_prime_and_degree) := ⟨rfl, rfl, rfl, by decide +kernel, rfl, by decide +kernel, by decide +kernel⟩
abbrev s_power_of : Stmt := topS 6
abbrev n_power_of : List Str := ["p", "degree", "told", "_"]
abbrev p_power_of : List Str := ["p", "degree"]
theorem sc_power_of : FnScope n_power_of p_power_of (defScope s_power_of) := ⟨rfl, rfl, rfl, by decide +kernel, rfl, by decide +kernel, by decide +kernel⟩
abbrev s_figures : Stmt := topS 7
abbrev n_figures : List Str := ["number", "p", "many", "found", "_"]
abbrev p_figures : List Str := ["number", "p", "many"]
theorem sc_figures : FnScope n_figures p_figures (defScope s_figures) := ⟨rfl, rfl, rfl, by decide +kernel, rfl, by decide +kernel, by decide +kernel⟩
abbrev s_number_of : Stmt := topS 8
abbrev n_number_of : List Str := ["coefficients", "p", "told", "coefficient"]
abbrev p_number_of : List Str := ["coefficients", "p"]
theorem sc_number_of : FnScope n_number_of p_number_of (defScope s_number_of) := ⟨rfl, rfl, rfl, by decide +kernel, rfl, by decide +kernel, by decide +kernel⟩
abbrev s_rest_by : Stmt := topS 9
abbrev n_rest_by : List Str := ["coefficients", "rule", "p", "rest", "degree", "top", "many", "at"]
abbrev p_rest_by : List Str := ["coefficients", "rule", "p"]
theorem sc_rest_by : FnScope n_rest_by p_rest_by (defScope s_rest_by) := ⟨rfl, rfl, rfl, by decide +kernel, rfl, by decide +kernel, by decide +kernel⟩
abbrev s_rules_of_degree : Stmt := topS 10
abbrev n_rules_of_degree : List Str := ["p", "degree", "number"]
abbrev p_rules_of_degree : List Str := ["p", "degree"]
theorem sc_rules_of_degree : FnScope n_rules_of_degree p_rules_of_degree (defScope s_rules_of_degree) := ⟨rfl, rfl, rfl, by decide +kernel, rfl, by decide +kernel, by decide +kernel⟩
abbrev s_is_product : Stmt := topS 11
abbrev n_is_product : List Str := ["rule", "p", "degree", "lesser", "divisor"]
abbrev p_is_product : List Str := ["rule", "p"]
theorem sc_is_product : FnScope n_is_product p_is_product (defScope s_is_product) := ⟨rfl, rfl, rfl, by decide +kernel, rfl, by decide +kernel, by decide +kernel⟩
abbrev s_rule_of : Stmt := topS 12
abbrev n_rule_of : List Str := ["q", "p", "degree", "rule"]
abbrev p_rule_of : List Str := ["q"]
theorem sc_rule_of : FnScope n_rule_of p_rule_of (defScope s_rule_of) := ⟨rfl, rfl, rfl, by decide +kernel, rfl, by decide +kernel, by decide +kernel⟩
abbrev s_times_unknown : Stmt := topS 13
abbrev n_times_unknown : List Str := ["coefficients", "rule", "p", "top", "below", "back"]
abbrev p_times_unknown : List Str := ["coefficients", "rule", "p"]
theorem sc_times_unknown : FnScope n_times_unknown p_times_unknown (defScope s_times_unknown) := ⟨rfl, rfl, rfl, by decide +kernel, rfl, by decide +kernel, by decide +kernel⟩
abbrev s_products_of : Stmt := topS 14
abbrev n_products_of : List Str := ["q", "p", "degree", "rule", "products", "a", "steps", "line", "b", "many", "at", "m", "step"]
abbrev p_products_of : List Str := ["q"]
theorem sc_products_of : FnScope n_products_of p_products_of (defScope s_products_of) := ⟨rfl, rfl, rfl, by decide +kernel, rfl, by decide +kernel, by decide +kernel⟩
abbrev s_sums_of : Stmt := topS 15
abbrev n_sums_of : List Str := ["q", "p", "degree", "own", "number", "one", "other", "x", "y"]
abbrev p_sums_of : List Str := ["q"]
theorem sc_sums_of : FnScope n_sums_of p_sums_of (defScope s_sums_of) := ⟨rfl, rfl, rfl, by decide +kernel, rfl, by decide +kernel, by decide +kernel⟩
abbrev s_field_of : Stmt := topS 16
abbrev n_field_of : List Str := ["q"]
abbrev p_field_of : List Str := ["q"]
theorem sc_field_of : FnScope n_field_of p_field_of (defScope s_field_of) := ⟨rfl, rfl, rfl, by decide +kernel, rfl, by decide +kernel, by decide +kernel⟩
abbrev s_power_in : Stmt := topS 17
abbrev n_power_in : List Str := ["q", "a", "k", "products", "told", "_"]
abbrev p_power_in : List Str := ["q", "a", "k"]
theorem sc_power_in : FnScope n_power_in p_power_in (defScope s_power_in) := ⟨rfl, rfl, rfl, by decide +kernel, rfl, by decide +kernel, by decide +kernel⟩
abbrev s__law_feed : Stmt := topS 19
abbrev n__law_feed : List Str := ["script"]
abbrev p__law_feed : List Str := ["script"]
theorem sc__law_feed : FnScope n__law_feed p__law_feed (defScope s__law_feed) := ⟨rfl, rfl, rfl, by decide +kernel, rfl, by decide +kernel, by decide +kernel⟩
abbrev s__law_draw : Stmt := topS 20
abbrev n__law_draw : List Str := ["feed", "many", "cell", "told", "mixed"]
abbrev p__law_draw : List Str := ["feed", "many"]
theorem sc__law_draw : FnScope n__law_draw p__law_draw (defScope s__law_draw) := ⟨rfl, rfl, rfl, by decide +kernel, rfl, by decide +kernel, by decide +kernel⟩
abbrev s__law_same : Stmt := topS 21
abbrev n__law_same : List Str := ["actual", "due", "k"]
abbrev p__law_same : List Str := ["actual", "due"]
theorem sc__law_same : FnScope n__law_same p__law_same (defScope s__law_same) := ⟨rfl, rfl, rfl, by decide +kernel, rfl, by decide +kernel, by decide +kernel⟩
abbrev s__law_prime : Stmt := topS 22
abbrev n__law_prime : List Str := ["q"]
abbrev p__law_prime : List Str := ["q"]
theorem sc__law_prime : FnScope n__law_prime p__law_prime (defScope s__law_prime) := ⟨rfl, rfl, rfl, by decide +kernel, rfl, by decide +kernel, by decide +kernel⟩
abbrev s__law_rule : Stmt := topS 23
abbrev n__law_rule : List Str := ["q"]
abbrev p__law_rule : List Str := ["q"]
theorem sc__law_rule : FnScope n__law_rule p__law_rule (defScope s__law_rule) := ⟨rfl, rfl, rfl, by decide +kernel, rfl, by decide +kernel, by decide +kernel⟩
abbrev s__law_figures : Stmt := topS 24
abbrev n__law_figures : List Str := ["a", "p", "many", "found", "k"]
abbrev p__law_figures : List Str := ["a", "p", "many"]
theorem sc__law_figures : FnScope n__law_figures p__law_figures (defScope s__law_figures) := ⟨rfl, rfl, rfl, by decide +kernel, rfl, by decide +kernel, by decide +kernel⟩
abbrev s__law_number : Stmt := topS 25
abbrev n__law_number : List Str := ["figures_v", "p", "told", "k"]
abbrev p__law_number : List Str := ["figures_v", "p"]
theorem sc__law_number : FnScope n__law_number p__law_number (defScope s__law_number) := ⟨rfl, rfl, rfl, by decide +kernel, rfl, by decide +kernel, by decide +kernel⟩
abbrev s__law_plus : Stmt := topS 26
abbrev n__law_plus : List Str := ["p", "many", "a", "b", "mine", "theirs", "k"]
abbrev p__law_plus : List Str := ["p", "many", "a", "b"]
theorem sc__law_plus : FnScope n__law_plus p__law_plus (defScope s__law_plus) := ⟨rfl, rfl, rfl, by decide +kernel, rfl, by decide +kernel, by decide +kernel⟩
abbrev s__law_in_range : Stmt := topS 27
abbrev n__law_in_range : List Str := ["table", "q", "line", "a"]
abbrev p__law_in_range : List Str := ["table", "q"]
theorem sc__law_in_range : FnScope n__law_in_range p__law_in_range (defScope s__law_in_range) := ⟨rfl, rfl, rfl, by decide +kernel, rfl, by decide +kernel, by decide +kernel⟩
abbrev s__law_group : Stmt := topS 28
abbrev n__law_group : List Str := ["table", "numbers", "one", "a", "b", "c"]
abbrev p__law_group : List Str := ["table", "numbers", "one"]
theorem sc__law_group : FnScope n__law_group p__law_group (defScope s__law_group) := ⟨rfl, rfl, rfl, by decide +kernel, rfl, by decide +kernel, by decide +kernel⟩
abbrev s__law_through : Stmt := topS 29
abbrev n__law_through : List Str := ["sums", "products", "q", "a", "b", "c"]
abbrev p__law_through : List Str := ["sums", "products", "q"]
theorem sc__law_through : FnScope n__law_through p__law_through (defScope s__law_through) := ⟨rfl, rfl, rfl, by decide +kernel, rfl, by decide +kernel, by decide +kernel⟩
abbrev s__law_power : Stmt := topS 30
abbrev n__law_power : List Str := ["products", "a", "k", "told", "step"]
abbrev p__law_power : List Str := ["products", "a", "k"]
theorem sc__law_power : FnScope n__law_power p__law_power (defScope s__law_power) := ⟨rfl, rfl, rfl, by decide +kernel, rfl, by decide +kernel, by decide +kernel⟩
abbrev s__law_right : Stmt := topS 31
abbrev n__law_right : List Str := ["feed", "q", "told", "sums", "products", "p", "many", "a", "b", "here", "step", "both"]
abbrev p__law_right : List Str := ["feed", "q"]
theorem sc__law_right : FnScope n__law_right p__law_right (defScope s__law_right) := ⟨rfl, rfl, rfl, by decide +kernel, rfl, by decide +kernel, by decide +kernel⟩
abbrev s_law : Stmt := topS 32
abbrev n_law : List Str := ["script", "feed", "numbers"]
abbrev p_law : List Str := ["script"]
theorem sc_law : FnScope n_law p_law (defScope s_law) := ⟨rfl, rfl, rfl, by decide +kernel, rfl, by decide +kernel, by decide +kernel⟩
/-- what the top has written -/
structure Txt (K : PySem.W.Frag) (mg : Str → Option Value) where
  a_prime_and_degree : Addr
  fd_prime_and_degree : FuncData
  F_prime_and_degree : Fun K "prime_and_degree" "prime_and_degree" s_prime_and_degree a_prime_and_degree fd_prime_and_degree
  g_prime_and_degree : mg "prime_and_degree" = some (.ref a_prime_and_degree)
  b_prime_and_degree : Binds K fd_prime_and_degree ["q"] []
  a_power_of : Addr
  fd_power_of : FuncData
  F_power_of : Fun K "power_of" "power_of" s_power_of a_power_of fd_power_of
  g_power_of : mg "power_of" = some (.ref a_power_of)
  b_power_of : Binds K fd_power_of ["p", "degree"] []
  a_figures : Addr
  fd_figures : FuncData
  F_figures : Fun K "figures" "figures" s_figures a_figures fd_figures
  g_figures : mg "figures" = some (.ref a_figures)
  b_figures : Binds K fd_figures ["number", "p", "many"] []
  a_number_of : Addr
  fd_number_of : FuncData
  F_number_of : Fun K "number_of" "number_of" s_number_of a_number_of fd_number_of
  g_number_of : mg "number_of" = some (.ref a_number_of)
  b_number_of : Binds K fd_number_of ["coefficients", "p"] []
  a_rest_by : Addr
  fd_rest_by : FuncData
  F_rest_by : Fun K "rest_by" "rest_by" s_rest_by a_rest_by fd_rest_by
  g_rest_by : mg "rest_by" = some (.ref a_rest_by)
  b_rest_by : Binds K fd_rest_by ["coefficients", "rule", "p"] []
  a_rules_of_degree : Addr
  fd_rules_of_degree : FuncData
  F_rules_of_degree : Fun K "rules_of_degree" "rules_of_degree" s_rules_of_degree a_rules_of_degree fd_rules_of_degree
  g_rules_of_degree : mg "rules_of_degree" = some (.ref a_rules_of_degree)
  b_rules_of_degree : Binds K fd_rules_of_degree ["p", "degree"] []
  a_is_product : Addr
  fd_is_product : FuncData
  F_is_product : Fun K "is_product" "is_product" s_is_product a_is_product fd_is_product
  g_is_product : mg "is_product" = some (.ref a_is_product)
  b_is_product : Binds K fd_is_product ["rule", "p"] []
  a_rule_of : Addr
  fd_rule_of : FuncData
  F_rule_of : Fun K "rule_of" "rule_of" s_rule_of a_rule_of fd_rule_of
  g_rule_of : mg "rule_of" = some (.ref a_rule_of)
  b_rule_of : Binds K fd_rule_of ["q"] []
  a_times_unknown : Addr
  fd_times_unknown : FuncData
  F_times_unknown : Fun K "times_unknown" "times_unknown" s_times_unknown a_times_unknown fd_times_unknown
  g_times_unknown : mg "times_unknown" = some (.ref a_times_unknown)
  b_times_unknown : Binds K fd_times_unknown ["coefficients", "rule", "p"] []
  a_products_of : Addr
  fd_products_of : FuncData
  F_products_of : Fun K "products_of" "products_of" s_products_of a_products_of fd_products_of
  g_products_of : mg "products_of" = some (.ref a_products_of)
  b_products_of : Binds K fd_products_of ["q"] []
  a_sums_of : Addr
  fd_sums_of : FuncData
  F_sums_of : Fun K "sums_of" "sums_of" s_sums_of a_sums_of fd_sums_of
  g_sums_of : mg "sums_of" = some (.ref a_sums_of)
  b_sums_of : Binds K fd_sums_of ["q"] []
  a_field_of : Addr
  fd_field_of : FuncData
  F_field_of : Fun K "field_of" "field_of" s_field_of a_field_of fd_field_of
  g_field_of : mg "field_of" = some (.ref a_field_of)
  b_field_of : Binds K fd_field_of ["q"] []
  a_power_in : Addr
  fd_power_in : FuncData
  F_power_in : Fun K "power_in" "power_in" s_power_in a_power_in fd_power_in
  g_power_in : mg "power_in" = some (.ref a_power_in)
  b_power_in : Binds K fd_power_in ["q", "a", "k"] []
  a__law_feed : Addr
  fd__law_feed : FuncData
  F__law_feed : Fun K "_law_feed" "_law_feed" s__law_feed a__law_feed fd__law_feed
  g__law_feed : mg "_law_feed" = some (.ref a__law_feed)
  b__law_feed : Binds K fd__law_feed ["script"] []
  a__law_draw : Addr
  fd__law_draw : FuncData
  F__law_draw : Fun K "_law_draw" "_law_draw" s__law_draw a__law_draw fd__law_draw
  g__law_draw : mg "_law_draw" = some (.ref a__law_draw)
  b__law_draw : Binds K fd__law_draw ["feed", "many"] []
  a__law_same : Addr
  fd__law_same : FuncData
  F__law_same : Fun K "_law_same" "_law_same" s__law_same a__law_same fd__law_same
  g__law_same : mg "_law_same" = some (.ref a__law_same)
  b__law_same : Binds K fd__law_same ["actual", "due"] []
  a__law_prime : Addr
  fd__law_prime : FuncData
  F__law_prime : Fun K "_law_prime" "_law_prime" s__law_prime a__law_prime fd__law_prime
  g__law_prime : mg "_law_prime" = some (.ref a__law_prime)
  b__law_prime : Binds K fd__law_prime ["q"] []
  a__law_rule : Addr
  fd__law_rule : FuncData
  F__law_rule : Fun K "_law_rule" "_law_rule" s__law_rule a__law_rule fd__law_rule
  g__law_rule : mg "_law_rule" = some (.ref a__law_rule)
  b__law_rule : Binds K fd__law_rule ["q"] []
  a__law_figures : Addr
  fd__law_figures : FuncData
  F__law_figures : Fun K "_law_figures" "_law_figures" s__law_figures a__law_figures fd__law_figures
  g__law_figures : mg "_law_figures" = some (.ref a__law_figures)
  b__law_figures : Binds K fd__law_figures ["a", "p", "many"] []
  a__law_number : Addr
  fd__law_number : FuncData
  F__law_number : Fun K "_law_number" "_law_number" s__law_number a__law_number fd__law_number
  g__law_number : mg "_law_number" = some (.ref a__law_number)
  b__law_number : Binds K fd__law_number ["figures_v", "p"] []
  a__law_plus : Addr
  fd__law_plus : FuncData
  F__law_plus : Fun K "_law_plus" "_law_plus" s__law_plus a__law_plus fd__law_plus
  g__law_plus : mg "_law_plus" = some (.ref a__law_plus)
  b__law_plus : Binds K fd__law_plus ["p", "many", "a", "b"] []
  a__law_in_range : Addr
  fd__law_in_range : FuncData
  F__law_in_range : Fun K "_law_in_range" "_law_in_range" s__law_in_range a__law_in_range fd__law_in_range
  g__law_in_range : mg "_law_in_range" = some (.ref a__law_in_range)
  b__law_in_range : Binds K fd__law_in_range ["table", "q"] []
  a__law_group : Addr
  fd__law_group : FuncData
  F__law_group : Fun K "_law_group" "_law_group" s__law_group a__law_group fd__law_group
  g__law_group : mg "_law_group" = some (.ref a__law_group)
  b__law_group : Binds K fd__law_group ["table", "numbers", "one"] []
  a__law_through : Addr
  fd__law_through : FuncData
  F__law_through : Fun K "_law_through" "_law_through" s__law_through a__law_through fd__law_through
  g__law_through : mg "_law_through" = some (.ref a__law_through)
  b__law_through : Binds K fd__law_through ["sums", "products", "q"] []
  a__law_power : Addr
  fd__law_power : FuncData
  F__law_power : Fun K "_law_power" "_law_power" s__law_power a__law_power fd__law_power
  g__law_power : mg "_law_power" = some (.ref a__law_power)
  b__law_power : Binds K fd__law_power ["products", "a", "k"] []
  a__law_right : Addr
  fd__law_right : FuncData
  F__law_right : Fun K "_law_right" "_law_right" s__law_right a__law_right fd__law_right
  g__law_right : mg "_law_right" = some (.ref a__law_right)
  b__law_right : Binds K fd__law_right ["feed", "q"] []
  a_law : Addr
  fd_law : FuncData
  F_law : Fun K "law" "law" s_law a_law fd_law
  g_law : mg "law" = some (.ref a_law)
  b_law : Binds K fd_law ["script"] []
  z_abs : mg "abs" = none
  z_all : mg "all" = none
  z_any : mg "any" = none
  z_bool : mg "bool" = none
  z_int : mg "int" = none
  z_isinstance : mg "isinstance" = none
  z_len : mg "len" = none
  z_list : mg "list" = none
  z_range : mg "range" = none
  z_reversed : mg "reversed" = none
  z_sorted : mg "sorted" = none
  z_str : mg "str" = none
  z_sum : mg "sum" = none
  z_tuple : mg "tuple" = none
  z_zip : mg "zip" = none
  t_GREATEST_FIELD : Tok
  c_GREATEST_FIELD : mg "GREATEST_FIELD" = some (.int 16 t_GREATEST_FIELD)
variable {P : Program} {w : World} {K : PySem.W.Frag} {mg : Str → Option Value} {base : Heap}
theorem ok__law_feed (T : Txt K mg) : FnOk P w K mg base CX0 1 T.a__law_feed T.fd__law_feed ["script"] (spFeed K) := by
  refine T.F__law_feed.ok sc__law_feed (fun vs H Q E h => ?_) (fun cdv A outer s H vs Q E hr h => ?_)
  · obtain ⟨a, ns, rfl, _⟩ := h
    rfl
  · obtain ⟨a, ns, rfl, hS, q⟩ := h
    refine ⟨_, pss_one (ps_ret (pe_lst (pa_cons (pe_callTy call_list_of (by rfl) T.z_list (by decide +kernel) (pa_cons (pv 0) pa_nil)) (pa_cons pe_int (pa_cons pe_int (pa_cons pe_int pa_nil)))))), ?_⟩
    refine ⟨.ref a, rfl, a, _, rfl, .inl hS, fun l hl => ?_⟩
    exact ⟨by show 4 ≤ sizeLine; decide, fun p hp => q p l hl hp⟩
theorem ok__law_draw (T : Txt K mg) : FnOk P w K mg base CX0 1 T.a__law_draw T.fd__law_draw ["feed", "many"] (spF K 2 m__law_draw) := by
  refine T.F__law_draw.ok sc__law_draw (fun vs H Q E h => ?_) (fun cdv A outer s H vs Q E hr h => ?_)
  · obtain ⟨p, G, ds, s, t, s', _, _, r, hl, _⟩ := h
    rw [← r.length, hl]; rfl
  · obtain ⟨p, G, ds, fs, t, fs', hlv, sm, r, hl, gp, hfe, hm, q⟩ := h
    have hds : ∃ m, ds = [.feed, .int m] ∧ 0 < m ∧ m < 1073741824 ∧ 0 ≤ fs.pos ∧ t = .fz (.int (drawF m fs).1) ∧ fs' = (drawF m fs).2 := by
      unfold m__law_draw at hm
      split at hm
      · split at hm
        · rename_i c
          cases hm
          exact ⟨_, rfl, c.1, c.2.1, c.2.2, rfl, rfl⟩
        · cases hm
      · cases hm
    obtain ⟨m, rfl, m0, m1, hpos, rfl, rfl⟩ := hds
    have hvs : vs = [.ref p, .int m] := by
      cases r with
      | cons r rr =>
        obtain ⟨v, rfl, r2⟩ := repL1 rr rfl
        cases r2
        cases r with
        | feed hh => cases hh; rfl
    subst hvs
    obtain ⟨qa, hp, gq⟩ := hfe
    have hqp : qa ≠ p := fun z => by rw [z, gp] at gq; cases gq
    have hq : H qa = some (.lst (fs.script.map V.int)) := sm _ _ gq
    have fin : ∀ (v : Int) (fs2 : FS), fs2.lv = true → fs2.script = fs.script → (v = (drawF m fs).1 ∧ fs2 = (drawF m fs).2) → ∀ H2 : Hp, H2 = upd H p (.lst [.ref qa, .int fs2.pos, .int fs2.big, .int fs2.st]) → Q (.int v) H2 := by
      rintro v fs2 h2 h3 ⟨rfl, rfl⟩ H2 rfl
      have ne : ∀ a o, G a = some o → a ≠ p := fun a o e z => by rw [z, gp] at e; cases e
      have sub : Same G (upd H p (.lst [.ref qa, .int (drawF m fs).2.pos, .int (drawF m fs).2.big, .int (drawF m fs).2.st])) := fun a o e => by rw [upd_ne (ne a o e)]; exact sm a o e
      refine q _ _ G [] (Same.refl G) sub (fun a o n e => by rw [upd_ne n]; exact e) (fun a o _ g => g) ⟨qa, upd_same, by rw [h3]; exact gq⟩ h2 (.fz (.int _)) List.nodup_nil (fun _ h => by simp at h)
    have at0 : ∀ {a b c d : V}, atI [a, b, c, d] 0 = some a := fun {_ _ _ _} => rfl
    have at1 : ∀ {a b c d : V}, atI [a, b, c, d] 1 = some b := fun {_ _ _ _} => rfl
    have at2 : ∀ {a b c d : V}, atI [a, b, c, d] 2 = some c := fun {_ _ _ _} => rfl
    have at3 : ∀ {a b c d : V}, atI [a, b, c, d] 3 = some d := fun {_ _ _ _} => rfl
    -- the second half, from any state of the feed
    have half : ∀ (fs1 : FS) (y2 : Option V), fs1 = drawA fs → fs1.lv = true → fs1.script = fs.script → ∀ H1 : Hp, H1 = upd H p (.lst [.ref qa, .int fs1.pos, .int fs1.big, .int fs1.st]) →
        ∃ t, PSs (cxOf CX0 P w K mg base n__law_draw "_law_draw" (defScope s__law_draw) T.a__law_draw cdv A outer s H E).nox ((defBody s__law_draw).drop 1) t ∧ t { nx := fun _ H' => Q .non H', rt := Q } [some (.ref p), some (.int m), y2, none, none] H1 := by
      intro fs1 y2 e1 hl1 hs1 H1 eH
      have hp1 : H1 p = some (.lst [.ref qa, .int fs1.pos, .int fs1.big, .int fs1.st]) := by rw [eH, upd_same]
      refine ⟨_, pss_cons (ps_if (pt_cmpR op_gt (pe_ix ix_list (pv 0) pe_int (fun _ _ => rfl)) pe_int (nomark _))
          (pss_cons (ps_set (i := 3) sc__law_draw.nd rfl (.inl rfl) (pe_op op_mod (pe_callTy call_int1 (by rfl) T.z_int (by decide +kernel) (pa_cons (pe_ix ix_list (pv 0) pe_int (fun _ _ => rfl)) pa_nil)) (pv 1)))
          (pss_cons (ps_asg (pe_op op_fdiv (pe_ix ix_list (pv 0) pe_int (fun _ _ => rfl)) (pv 1)) (pg_sub (pv 0) pe_int set_list))
          (pss_one (ps_ret (pv 3))))) pss_nil)
        (pss_cons (ps_asg (pe_op op_mod (pe_callTy call_int1 (by rfl) T.z_int (by decide +kernel) (pa_cons (pe_op op_add (pe_op op_mul (pe_ix ix_list (pv 0) pe_int (fun _ _ => rfl)) pe_int) pe_int) pa_nil)) pe_int) (pg_sub (pv 0) pe_int set_list))
        (pss_cons (ps_set (i := 4) sc__law_draw.nd rfl (.inl rfl) (pe_op op_mod (pe_callTy call_int1 (by rfl) T.z_int (by decide +kernel) (pa_cons (pe_op op_add (pe_op op_mul (pe_ix ix_list (pv 0) pe_int (fun _ _ => rfl)) (pe_ix ix_list (pv 0) pe_int (fun _ _ => rfl))) (pe_ix ix_list (pv 0) pe_int (fun _ _ => rfl))) pa_nil)) pe_int))
        (pss_one (ps_ret (pe_op op_mod (pe_op op_fdiv (pv 4) pe_int) (pv 1)))))), ?_⟩
      refine ⟨.ref p, rfl, p, _, 2, _, rfl, rfl, .inl (.inl hp1), at2, _, _, rfl, rfl, _, rfl, ite2 (fun c => ?_) (fun c => ?_)⟩
      · have c : 0 < fs1.big := of_decide_eq_true c
        refine ⟨.ref p, rfl, p, _, 2, _, rfl, rfl, .inl (.inl hp1), at2, .inl ⟨_, rfl, .int m, rfl, _, m, rfl, rfl, m0, ?_⟩⟩
        refine ⟨.ref p, rfl, p, _, 2, _, rfl, rfl, .inl (.inl hp1), at2, .int m, rfl, _, m, rfl, rfl, ⟨m0, m1⟩, .ref p, rfl, p, _, 2, 2, rfl, rfl, hp1, rfl, ?_⟩
        refine ⟨_, rfl, fin _ { fs1 with big := fs1.big / m } hl1 hs1 ?_ _ ?_⟩
        · unfold drawF drawB; rw [← e1, if_pos c]; exact ⟨rfl, rfl⟩
        · rw [eH, upd_upd]; rfl
      · have c : ¬ 0 < fs1.big := fun z => c (decide_eq_true z)
        refine ⟨.ref p, rfl, p, _, 3, _, rfl, rfl, .inl (.inl hp1), at3, _, _, rfl, rfl, .inr ⟨by decide, by decide⟩, _, _, rfl, rfl, .inl ⟨_, rfl, _, _, rfl, rfl, (by show (0 : Int) < 2147483647; decide), .ref p, rfl, p, _, 3, 3, rfl, rfl, hp1, rfl, ?_⟩⟩
        have hp2 : (upd H1 p (.lst ([V.ref qa, .int fs1.pos, .int fs1.big, .int fs1.st].set 3 (.int ((fs1.st * 16807 + 12345) % 2147483647))))) p = some (.lst [.ref qa, .int fs1.pos, .int fs1.big, .int ((fs1.st * 16807 + 12345) % 2147483647)]) := upd_same
        have b0 : 0 ≤ (fs1.st * 16807 + 12345) % 2147483647 := Int.emod_nonneg _ (by decide)
        have b1 : (fs1.st * 16807 + 12345) % 2147483647 < 2147483647 := Int.emod_lt_of_pos _ (by decide)
        refine ⟨.ref p, rfl, p, _, 3, _, rfl, rfl, .inl (.inl hp2), at3, .ref p, rfl, p, _, 3, _, rfl, rfl, .inl (.inl hp2), at3, _, _, rfl, rfl, .inl ⟨by omega, by omega⟩, .ref p, rfl, p, _, 3, _, rfl, rfl, .inl (.inl hp2), at3, _, _, rfl, rfl, .inl ⟨_, rfl, _, _, rfl, rfl, (by show (0 : Int) < 2147483629; decide), ?_⟩⟩
        refine ⟨_, rfl, _, _, rfl, rfl, ⟨by decide, by decide⟩, _, rfl, _, m, rfl, rfl, m0, fin _ { fs1 with st := (fs1.st * 16807 + 12345) % 2147483647 } hl1 hs1 ?_ _ ?_⟩
        · unfold drawF drawB; rw [← e1, if_neg c]; exact ⟨rfl, rfl⟩
        · rw [eH, upd_upd]; rfl
    have eH0 : H = upd H p (.lst [.ref qa, .int fs.pos, .int fs.big, .int fs.st]) := by
      funext a
      by_cases ha : a = p
      · rw [ha, upd_same, hp]
      · rw [upd_ne ha]
    by_cases c1 : fs.big = 0
    · by_cases c2 : fs.pos < (fs.script.length : Int)
      · -- a cell is taken
        have hcell : fs.script[fs.pos.toNat]? = some (fs.script.getD fs.pos.toNat 0) := by
          have : fs.pos.toNat < fs.script.length := by omega
          rw [List.getD_eq_getElem?_getD, List.getElem?_eq_getElem this]; rfl
        have hat : atI (fs.script.map V.int) fs.pos = some (.int (fs.script.getD fs.pos.toNat 0)) := by
          have e : fs.pos = ((fs.pos.toNat : Nat) : Int) := by omega
          rw [e]
          refine atI_nat ?_
          rw [List.getElem?_map]
          have : ((fs.pos.toNat : Nat) : Int).toNat = fs.pos.toNat := by omega
          rw [this, hcell]; rfl
        generalize hcl : fs.script.getD fs.pos.toNat 0 = cl at hat
        have hp2 : (upd H p (.lst ([V.ref qa, .int fs.pos, .int fs.big, .int fs.st].set 1 (.int (fs.pos + 1))))) p = some (.lst [.ref qa, .int (fs.pos + 1), .int fs.big, .int fs.st]) := upd_same
        by_cases c3 : absI cl ≥ 10 ^ 18
        · obtain ⟨t2, ht2, hr2⟩ := half { fs with pos := fs.pos + 1, big := absI cl } (some (.int (absI cl))) (by unfold drawA; rw [if_pos ⟨c1, c2⟩, hcl, if_pos c3]) hlv rfl _ rfl
          refine ⟨_, pss_cons (ps_if (PW.pt (pw_and (pt_cmpR op_eq (pe_ix ix_list (pv 0) pe_int (fun _ _ => rfl)) pe_int (nomark _)) (pw_and1 (pt_cmpR op_lt (pe_ix ix_list (pv 0) pe_int (fun _ _ => rfl)) (pe_callB call_len_seq (by rfl) T.z_len PySem.boot_len (pa_cons (pe_ix ix_list (pv 0) pe_int (fun _ _ => rfl)) pa_nil)) (nomark _)))))
            (pss_cons (ps_set (i := 2) sc__law_draw.nd rfl (.inl rfl) (pe_callB call_abs (by rfl) T.z_abs (by decide +kernel) (pa_cons (pe_callTy call_int1 (by rfl) T.z_int (by decide +kernel) (pa_cons (pe_ix ix_list (pe_ix ix_list (pv 0) pe_int (fun _ _ => rfl)) (pe_ix ix_list (pv 0) pe_int (fun _ _ => rfl)) (fun _ _ => rfl)) pa_nil)) pa_nil)))
            (pss_cons (ps_augS (pv 0) pe_int pget_list pe_int ip_add set_list)
            (pss_one (ps_if (pt_cmpR op_ge (pv 2) (pe_op op_pow pe_int pe_int) (nomark _))
              (pss_one (ps_asg (pv 2) (pg_sub (pv 0) pe_int set_list)))
              (pss_one ps_never))))) pss_nil) ht2, ?_⟩
          refine ⟨.ref p, rfl, p, _, 2, _, rfl, rfl, .inl (.inl hp), at2, rfl, _, rfl, ?_⟩
          rw [c1]
          refine iteT ⟨.ref p, rfl, p, _, 1, _, rfl, rfl, .inl (.inl hp), at1, .ref p, rfl, p, _, 0, _, rfl, rfl, .inl (.inl hp), at0, qa, _, rfl, .inl (.inl (.inl hq)), _, _, rfl, rfl, _, rfl, ?_⟩
          rw [List.length_map, decide_eq_true c2]
          refine iteT ⟨.ref p, rfl, p, _, 0, _, rfl, rfl, .inl (.inl hp), at0, .ref p, rfl, p, _, 1, _, rfl, rfl, .inl (.inl hp), at1, qa, _, _, _, rfl, rfl, .inl (.inl hq), hat, .inl ⟨_, rfl, _, rfl, ?_⟩⟩
          refine ⟨.ref p, rfl, p, _, 1, _, rfl, rfl, .inl (.inl hp), at1, _, _, rfl, rfl, p, _, 1, 1, rfl, rfl, hp, rfl, ?_⟩
          refine ⟨_, rfl, _, _, rfl, rfl, ⟨by decide, by decide, by decide⟩, _, _, rfl, rfl, _, rfl, ?_⟩
          have c3' : (10 : Int) ^ Int.toNat 18 ≤ (if cl < 0 then -cl else cl) := c3
          rw [decide_eq_true c3']
          refine iteT ⟨_, rfl, .ref p, rfl, p, _, 2, 2, rfl, rfl, hp2, rfl, ?_⟩
          rw [upd_upd]
          exact hr2
        · obtain ⟨t2, ht2, hr2⟩ := half { fs with pos := fs.pos + 1, st := (fs.st * 48271 + absI cl * 69621 + (fs.pos + 1)) % 2147483647 } (some (.int (absI cl))) (by unfold drawA; rw [if_pos ⟨c1, c2⟩, hcl, if_neg c3]) hlv rfl _ rfl
          refine ⟨_, pss_cons (ps_if (PW.pt (pw_and (pt_cmpR op_eq (pe_ix ix_list (pv 0) pe_int (fun _ _ => rfl)) pe_int (nomark _)) (pw_and1 (pt_cmpR op_lt (pe_ix ix_list (pv 0) pe_int (fun _ _ => rfl)) (pe_callB call_len_seq (by rfl) T.z_len PySem.boot_len (pa_cons (pe_ix ix_list (pv 0) pe_int (fun _ _ => rfl)) pa_nil)) (nomark _)))))
            (pss_cons (ps_set (i := 2) sc__law_draw.nd rfl (.inl rfl) (pe_callB call_abs (by rfl) T.z_abs (by decide +kernel) (pa_cons (pe_callTy call_int1 (by rfl) T.z_int (by decide +kernel) (pa_cons (pe_ix ix_list (pe_ix ix_list (pv 0) pe_int (fun _ _ => rfl)) (pe_ix ix_list (pv 0) pe_int (fun _ _ => rfl)) (fun _ _ => rfl)) pa_nil)) pa_nil)))
            (pss_cons (ps_augS (pv 0) pe_int pget_list pe_int ip_add set_list)
            (pss_one (ps_if (pt_cmpR op_ge (pv 2) (pe_op op_pow pe_int pe_int) (nomark _))
              (pss_one ps_never)
              (pss_one (ps_asg (pe_op op_mod (pe_callTy call_int1 (by rfl) T.z_int (by decide +kernel) (pa_cons (pe_op op_add (pe_op op_add (pe_op op_mul (pe_ix ix_list (pv 0) pe_int (fun _ _ => rfl)) pe_int) (pe_op op_mul (pv 2) pe_int)) (pe_ix ix_list (pv 0) pe_int (fun _ _ => rfl))) pa_nil)) pe_int) (pg_sub (pv 0) pe_int set_list))))))) pss_nil) ht2, ?_⟩
          refine ⟨.ref p, rfl, p, _, 2, _, rfl, rfl, .inl (.inl hp), at2, rfl, _, rfl, ?_⟩
          rw [c1]
          refine iteT ⟨.ref p, rfl, p, _, 1, _, rfl, rfl, .inl (.inl hp), at1, .ref p, rfl, p, _, 0, _, rfl, rfl, .inl (.inl hp), at0, qa, _, rfl, .inl (.inl (.inl hq)), _, _, rfl, rfl, _, rfl, ?_⟩
          rw [List.length_map, decide_eq_true c2]
          refine iteT ⟨.ref p, rfl, p, _, 0, _, rfl, rfl, .inl (.inl hp), at0, .ref p, rfl, p, _, 1, _, rfl, rfl, .inl (.inl hp), at1, qa, _, _, _, rfl, rfl, .inl (.inl hq), hat, .inl ⟨_, rfl, _, rfl, ?_⟩⟩
          refine ⟨.ref p, rfl, p, _, 1, _, rfl, rfl, .inl (.inl hp), at1, _, _, rfl, rfl, p, _, 1, 1, rfl, rfl, hp, rfl, ?_⟩
          refine ⟨_, rfl, _, _, rfl, rfl, ⟨by decide, by decide, by decide⟩, _, _, rfl, rfl, _, rfl, ?_⟩
          have c3' : ¬ (10 : Int) ^ Int.toNat 18 ≤ (if cl < 0 then -cl else cl) := c3
          rw [decide_eq_false c3']
          refine iteF ⟨.ref p, rfl, p, _, 3, _, rfl, rfl, .inl (.inl hp2), at3, _, _, rfl, rfl, .inr ⟨by decide, by decide⟩, _, rfl, _, _, rfl, rfl, .inr ⟨by decide, by decide⟩, _, _, rfl, rfl, .ref p, rfl, p, _, 1, _, rfl, rfl, .inl (.inl hp2), at1, _, _, rfl, rfl, .inl ⟨_, rfl, _, _, rfl, rfl, (by show (0 : Int) < 2147483647; decide), .ref p, rfl, p, _, 3, 3, rfl, rfl, hp2, rfl, ?_⟩⟩
          rw [upd_upd]
          exact hr2
      · obtain ⟨t2, ht2, hr2⟩ := half fs none (by unfold drawA; rw [if_neg fun z => c2 z.2]) hlv rfl _ eH0
        refine ⟨_, pss_cons (ps_if (PW.pt (pw_and (pt_cmpR op_eq (pe_ix ix_list (pv 0) pe_int (fun _ _ => rfl)) pe_int (nomark _)) (pw_and1 (pt_cmpR op_lt (pe_ix ix_list (pv 0) pe_int (fun _ _ => rfl)) (pe_callB call_len_seq (by rfl) T.z_len PySem.boot_len (pa_cons (pe_ix ix_list (pv 0) pe_int (fun _ _ => rfl)) pa_nil)) (nomark _))))) pss_never pss_nil) ht2, ?_⟩
        refine ⟨.ref p, rfl, p, _, 2, _, rfl, rfl, .inl (.inl hp), at2, rfl, _, rfl, ?_⟩
        rw [c1]
        refine iteT ⟨.ref p, rfl, p, _, 1, _, rfl, rfl, .inl (.inl hp), at1, .ref p, rfl, p, _, 0, _, rfl, rfl, .inl (.inl hp), at0, qa, _, rfl, .inl (.inl (.inl hq)), _, _, rfl, rfl, _, rfl, ?_⟩
        rw [List.length_map, decide_eq_false c2]
        exact iteF hr2
    · obtain ⟨t2, ht2, hr2⟩ := half fs none (by unfold drawA; rw [if_neg fun z => c1 z.1]) hlv rfl _ eH0
      refine ⟨_, pss_cons (ps_if (PW.pt (pw_and (pt_cmpR op_eq (pe_ix ix_list (pv 0) pe_int (fun _ _ => rfl)) pe_int (nomark _)) (pw_and1 (pt_cmpR op_lt (pe_ix ix_list (pv 0) pe_int (fun _ _ => rfl)) (pe_callB call_len_seq (by rfl) T.z_len PySem.boot_len (pa_cons (pe_ix ix_list (pv 0) pe_int (fun _ _ => rfl)) pa_nil)) (nomark _))))) pss_never pss_nil) ht2, ?_⟩
      refine ⟨.ref p, rfl, p, _, 2, _, rfl, rfl, .inl (.inl hp), at2, rfl, _, rfl, ?_⟩
      rw [decide_eq_false (show ¬ V.int fs.big = V.int 0 from fun z => c1 (V.int.inj z))]
      exact iteF hr2

def b_prime_and_degree : Stm :=
    (Stm.seq (ifM (notT (tB (chainM leI leI (M.ret (.int 2)) (rd 0) (M.ret (.int 16)))))
    (retD (M.ret .non))
    skip)
    (Stm.seq (stD 1 (M.ret (.int 2)))
    (Stm.seq (whl (tB (op2 gtI (op2 modI (rd 0) (rd 1)) (M.ret (.int 0)))) []
    (stAug 1 (M.ret (.int 1)) addI) 20)
    (Stm.seq (stD 2 (M.ret (.int 0)))
    (Stm.seq (stD 3 (rd 0))
    (Stm.seq (whl (tB (op2 eqD (op2 modI (rd 3) (rd 1)) (M.ret (.int 0)))) []
    (Stm.seq (stAug 3 (rd 1) divI)
    (stAug 2 (M.ret (.int 1)) addI)) 20)
    (Stm.seq (ifM (tB (op2 gtI (rd 3) (M.ret (.int 1))))
    (retD (M.ret .non))
    skip)
    (retD (tpM (consM (rd 1) (consM (rd 2) (M.ret []))))))))))))
def m_prime_and_degree : List D → Option OT := runP 4 b_prime_and_degree
theorem ok_prime_and_degree (T : Txt K mg) : FnOk P w K mg base CX0 1 T.a_prime_and_degree T.fd_prime_and_degree ["q"] (spP K 1 m_prime_and_degree) := by
  refine fn_pure2 (N := n_prime_and_degree) (ps := p_prime_and_degree) (k := 0) (b := b_prime_and_degree) (sc := ?sc) (body := ?bd) T.F_prime_and_degree ?hsc ?hbd sc_prime_and_degree ?h
  case hsc => conv => lhs; whnf
  case hbd => conv => lhs; whnf
  case h => exact fun cdv A outer s H E fo hr =>
    (ss_cons (sd_if (r_tnot (td_chain d_le d_le pd_int (r_v 0) (r_gi (by rfl) T.c_GREATEST_FIELD)))
    (ss_one (r_ret pd_non))
    ss_nil)
    (ss_cons (r_set 1 pd_int sc_prime_and_degree.nd)
    (ss_cons (sd_while [] 20 PassesOwn.never (r_tcmp s_gt (r_op d_mod (r_v 0) (r_v 1)) (hd_of pd_int) (nomark _))
    (ss_one (r_aug 1 d_iadd pd_int sc_prime_and_degree.nd)))
    (ss_cons (r_set 2 pd_int sc_prime_and_degree.nd)
    (ss_cons (r_set 3 (r_v 0) sc_prime_and_degree.nd)
    (ss_cons (sd_while [] 20 PassesOwn.never (r_tcmp (s_eq hr.units) (r_op d_mod (r_v 3) (r_v 1)) (hd_of pd_int) (nomark _))
    (ss_cons (r_aug 3 d_idiv (r_v 1) sc_prime_and_degree.nd)
    (ss_one (r_aug 2 d_iadd pd_int sc_prime_and_degree.nd))))
    (ss_cons (sd_if (r_tcmp s_gt (r_v 3) (hd_of pd_int) (nomark _))
    (ss_one (r_ret pd_non))
    ss_nil)
    (ss_one (r_ret (r_tup (ad_cons (r_v 1) (ad_cons (r_v 2) ad_nil))))))))))))
def b_power_of : Stm :=
    (Stm.seq (stD 2 (M.ret (.int 1)))
    (Stm.seq (forS (itM rg1 (consM (rd 1) (M.ret []))) (gN 3) [3]
    (stAug 2 (rd 0) mulI))
    (retD (rd 2))))
def m_power_of : List D → Option OT := runP 4 b_power_of
theorem ok_power_of (T : Txt K mg) : FnOk P w K mg base CX0 1 T.a_power_of T.fd_power_of ["p", "degree"] (spP K 2 m_power_of) := by
  refine fn_pure2 (N := n_power_of) (ps := p_power_of) (k := 0) (b := b_power_of) (sc := ?sc) (body := ?bd) T.F_power_of ?hsc ?hbd sc_power_of ?h
  case hsc => conv => lhs; whnf
  case hbd => conv => lhs; whnf
  case h => exact fun cdv A outer s H E fo hr =>
    (ss_cons (r_set 2 pd_int sc_power_of.nd)
    (ss_cons (sd_for [3] PassesOwn.never rfl (id_rg1 (by rfl) T.z_range (ad_cons (r_v 1) ad_nil)) (r_gn 3 sc_power_of.nd)
    (ss_one (r_aug 2 d_imul (r_v 0) sc_power_of.nd)))
    (ss_one (r_ret (r_v 2)))))
def b_figures : Stm :=
    (Stm.seq (stN 3 (lN (M.ret [])))
    (Stm.seq (forS (itM rg1 (consM (rd 2) (M.ret []))) (gN 4) [4]
    (Stm.seq (exprM (apM 3 (consN (fzM (op2 modI (rd 0) (rd 1))) (M.ret []))))
    (stAug 0 (rd 1) divI)))
    (retD (rd 3))))
def m_figures : List D → Option OT := runP 5 b_figures
theorem ok_figures (T : Txt K mg) : FnOk P w K mg base CX0 1 T.a_figures T.fd_figures ["number", "p", "many"] (spP K 3 m_figures) := by
  refine fn_pure2 (N := n_figures) (ps := p_figures) (k := 0) (b := b_figures) (sc := ?sc) (body := ?bd) T.F_figures ?hsc ?hbd sc_figures ?h
  case hsc => conv => lhs; whnf
  case hbd => conv => lhs; whnf
  case h => exact fun cdv A outer s H E fo hr =>
    (ss_cons (r_setN 3 (r_lst an_nil) sc_figures.nd)
    (ss_cons (sd_for [4] PassesOwn.never rfl (id_rg1 (by rfl) T.z_range (ad_cons (r_v 2) ad_nil)) (r_gn 4 sc_figures.nd)
    (ss_cons (r_expr (pd_append 3 (pv 3) (an_cons (r_N (r_op d_mod (r_v 0) (r_v 1))) an_nil)))
    (ss_one (r_aug 0 d_idiv (r_v 1) sc_figures.nd))))
    (ss_one (r_ret (r_v 3)))))
def b_number_of : Stm :=
    (Stm.seq (stD 2 (M.ret (.int 0)))
    (Stm.seq (forS (itM rvD (consM (rd 0) (M.ret []))) (gN 3) [3]
    (stD 2 (op2 addI (op2 mulI (rd 2) (rd 1)) (rd 3))))
    (retD (rd 2))))
def m_number_of : List D → Option OT := runP 4 b_number_of
theorem ok_number_of (T : Txt K mg) : FnOk P w K mg base CX0 1 T.a_number_of T.fd_number_of ["coefficients", "p"] (spP K 2 m_number_of) := by
  refine fn_pure2 (N := n_number_of) (ps := p_number_of) (k := 0) (b := b_number_of) (sc := ?sc) (body := ?bd) T.F_number_of ?hsc ?hbd sc_number_of ?h
  case hsc => conv => lhs; whnf
  case hbd => conv => lhs; whnf
  case h => exact fun cdv A outer s H E fo hr =>
    (ss_cons (r_set 2 pd_int sc_number_of.nd)
    (ss_cons (sd_for [3] PassesOwn.never rfl (id_rev (by rfl) T.z_reversed (ad_cons (r_v 0) ad_nil)) (r_gn 3 sc_number_of.nd)
    (ss_one (r_set 2 (r_op d_add (r_op d_mul (r_v 2) (r_v 1)) (r_v 3)) sc_number_of.nd)))
    (ss_one (r_ret (r_v 2)))))
def b_rest_by : Stm :=
    (Stm.seq (stN 3 (lstM (seqI (rd 0))))
    (Stm.seq (stD 4 (op2 subI (scM (one1 (rd 1)) lenD) (M.ret (.int 1))))
    (Stm.seq (forS (itM rg3 (consM (op2 subI (scM (one1 (pk 3)) lenD) (M.ret (.int 1))) (consM (op2 subI (rd 4) (M.ret (.int 1))) (consM (un1 negD (M.ret (.int 1))) (M.ret []))))) (gN 5) [5, 6, 7]
    (Stm.seq (stD 6 (nameIx 3 (rd 5)))
    (forS (itM rg1 (consM (op2 addI (rd 4) (M.ret (.int 1))) (M.ret []))) (gN 7) [7]
    (stSet 3 (op2 modI (op2 subI (nameIx 3 (op2 addI (op2 subI (rd 5) (rd 4)) (rd 7))) (op2 mulI (rd 6) (op2 ixD (rd 1) (rd 7)))) (rd 2)) (op2 addI (op2 subI (rd 5) (rd 4)) (rd 7))))))
    (retD (frzM (nameSl 3 noM (soM (rd 4))))))))
def m_rest_by : List D → Option OT := runP 8 b_rest_by
theorem ok_rest_by (T : Txt K mg) : FnOk P w K mg base CX0 1 T.a_rest_by T.fd_rest_by ["coefficients", "rule", "p"] (spP K 3 m_rest_by) := by
  refine fn_pure2 (N := n_rest_by) (ps := p_rest_by) (k := 0) (b := b_rest_by) (sc := ?sc) (body := ?bd) T.F_rest_by ?hsc ?hbd sc_rest_by ?h
  case hsc => conv => lhs; whnf
  case hbd => conv => lhs; whnf
  case h => exact fun cdv A outer s H E fo hr =>
    (ss_cons (r_setN 3 (pn_list (by rfl) T.z_list (ld_of (r_v 0))) sc_rest_by.nd)
    (ss_cons (r_set 4 (r_op d_sub (pd_scB sc_len (by rfl) T.z_len (by decide +kernel) (r_one (hd_of (r_v 1)))) pd_int) sc_rest_by.nd)
    (ss_cons (sd_for [5, 6, 7] PassesOwn.never rfl (id_rg3 (by rfl) T.z_range (ad_cons (r_op d_sub (pd_scB sc_len (by rfl) T.z_len (by decide +kernel) (r_one (r_hv 3))) pd_int) (ad_cons (r_op d_sub (r_v 4) pd_int) (ad_cons (r_neg pd_int) ad_nil))) (fun h => pi_range3 (by rfl) T.z_range h)) (r_gn 5 sc_rest_by.nd)
    (ss_cons (r_set 6 (r_ixV 3 (r_v 5)) sc_rest_by.nd)
    (ss_one (sd_for [7] PassesOwn.never rfl (id_rg1 (by rfl) T.z_range (ad_cons (r_op d_add (r_v 4) pd_int) ad_nil)) (r_gn 7 sc_rest_by.nd)
    (ss_one (r_setI 3 (r_op d_mod (r_op d_sub (r_ixV 3 (r_op d_add (r_op d_sub (r_v 5) (r_v 4)) (r_v 7))) (r_op d_mul (r_v 6) (r_ix (r_v 1) (r_v 7)))) (r_v 2)) (r_op d_add (r_op d_sub (r_v 5) (r_v 4)) (r_v 7))))))))
    (ss_one (r_ret (r_D (pn_slV 3 (pv 3) r_no (r_so (r_v 4)))))))))
def b_rules_of_degree : Stm :=
    (retD (frzM (lcM (itM rg1 (consM (frzM (callP 2 m_power_of (consM (rd 0) (consM (rd 1) (M.ret []))))) (M.ret []))) (gN 2) [2] (M.ret true) (op2N catD (frzM (callP 3 m_figures (consM (rd 2) (consM (rd 0) (consM (rd 1) (M.ret [])))))) (frzM (lN (consN (fzM (M.ret (.int 1))) (M.ret []))))))))
def m_rules_of_degree : List D → Option OT := runP 3 b_rules_of_degree
theorem ok_rules_of_degree (T : Txt K mg) : FnOk P w K mg base CX0 2 T.a_rules_of_degree T.fd_rules_of_degree ["p", "degree"] (spP K 2 m_rules_of_degree) := by
  refine fn_pure2 (N := n_rules_of_degree) (ps := p_rules_of_degree) (k := 1) (b := b_rules_of_degree) (sc := ?sc) (body := ?bd) T.F_rules_of_degree ?hsc ?hbd sc_rules_of_degree ?h
  case hsc => conv => lhs; whnf
  case hbd => conv => lhs; whnf
  case h => exact fun cdv A outer s H E fo hr =>
    (ss_one (r_ret (r_D (pn_lc (own := [("number", 2)]) rfl sc_rules_of_degree.nd (id_rg1 (by rfl) T.z_range (ad_cons (r_D (pn_call (ok_power_of T) (hr.mono (by decide)) (by rfl) T.g_power_of T.F_power_of.kp T.b_power_of (ad_cons (r_v 0) (ad_cons (r_v 1) ad_nil)))) ad_nil)) (blkOk_by (by first | decide +kernel | rfl)) (by decide) (fun _ _ _ _ _ => (r_gn 2 sc_rules_of_degree.nd)) (fun _ _ _ _ _ => tds_nil) (fun _ _ _ _ _ => (r_cat (r_D (pn_call (ok_figures T) (hr.mono (by decide)) (by rfl) T.g_figures T.F_figures.kp T.b_figures (ad_cons (r_v 2) (ad_cons (r_v 0) (ad_cons (r_v 1) ad_nil))))) (r_D (r_lst (an_cons (r_N pd_int) an_nil)))))))))
def b_is_product : Stm :=
    (Stm.seq (stD 2 (op2 subI (scM (one1 (rd 0)) lenD) (M.ret (.int 1))))
    (Stm.seq (forS (itM rg2 (consM (M.ret (.int 1)) (consM (op2 addI (op2 divI (rd 2) (M.ret (.int 2))) (M.ret (.int 1))) (M.ret [])))) (gN 3) [3, 4]
    (forS (seqI (frzM (callP 2 m_rules_of_degree (consM (rd 1) (consM (rd 3) (M.ret [])))))) (gN 4) [4]
    (ifM (notT (tB (scM (one1 (frzM (callP 3 m_rest_by (consM (rd 0) (consM (rd 4) (consM (rd 1) (M.ret []))))))) anyT)))
    (retD (M.ret (.bl true)))
    skip)))
    (retD (M.ret (.bl false)))))
def m_is_product : List D → Option OT := runP 5 b_is_product
theorem ok_is_product (T : Txt K mg) : FnOk P w K mg base CX0 3 T.a_is_product T.fd_is_product ["rule", "p"] (spP K 2 m_is_product) := by
  refine fn_pure2 (N := n_is_product) (ps := p_is_product) (k := 2) (b := b_is_product) (sc := ?sc) (body := ?bd) T.F_is_product ?hsc ?hbd sc_is_product ?h
  case hsc => conv => lhs; whnf
  case hbd => conv => lhs; whnf
  case h => exact fun cdv A outer s H E fo hr =>
    (ss_cons (r_set 2 (r_op d_sub (pd_scB sc_len (by rfl) T.z_len (by decide +kernel) (r_one (hd_of (r_v 0)))) pd_int) sc_is_product.nd)
    (ss_cons (sd_for [3, 4] PassesOwn.never rfl (id_rg2 (by rfl) T.z_range (ad_cons pd_int (ad_cons (r_op d_add (r_op d_div (r_v 2) pd_int) pd_int) ad_nil))) (r_gn 3 sc_is_product.nd)
    (ss_one (sd_for [4] PassesOwn.never rfl (r_seq (r_D (pn_call (ok_rules_of_degree T) (hr.mono (by decide)) (by rfl) T.g_rules_of_degree T.F_rules_of_degree.kp T.b_rules_of_degree (ad_cons (r_v 1) (ad_cons (r_v 3) ad_nil))))) (r_gn 4 sc_is_product.nd)
    (ss_one (sd_if (r_tnot (r_tval (pd_scB (sc_anyI rfl) (by rfl) T.z_any (by decide +kernel) (r_one (hd_of (r_D (pn_call (ok_rest_by T) (hr.mono (by decide)) (by rfl) T.g_rest_by T.F_rest_by.kp T.b_rest_by (ad_cons (r_v 0) (ad_cons (r_v 4) (ad_cons (r_v 1) ad_nil))))))))))
    (ss_one (r_ret pd_bl))
    ss_nil)))))
    (ss_one (r_ret pd_bl))))
def b_rule_of : Stm :=
    (Stm.seq (stG (gT 2 (gsC (gN 1) (gsC (gN 2) gsN))) (frzM (callP 1 m_prime_and_degree (consM (rd 0) (M.ret [])))))
    (Stm.seq (forS (seqI (frzM (callP 2 m_rules_of_degree (consM (rd 1) (consM (rd 2) (M.ret [])))))) (gN 3) [3]
    (ifM (notT (tB (frzM (callP 2 m_is_product (consM (rd 3) (consM (rd 1) (M.ret [])))))))
    (retD (rd 3))
    skip))
    (retD (M.ret .non))))
def m_rule_of : List D → Option OT := runP 4 b_rule_of
theorem ok_rule_of (T : Txt K mg) : FnOk P w K mg base CX0 4 T.a_rule_of T.fd_rule_of ["q"] (spP K 1 m_rule_of) := by
  refine fn_pure2 (N := n_rule_of) (ps := p_rule_of) (k := 3) (b := b_rule_of) (sc := ?sc) (body := ?bd) T.F_rule_of ?hsc ?hbd sc_rule_of ?h
  case hsc => conv => lhs; whnf
  case hbd => conv => lhs; whnf
  case h => exact fun cdv A outer s H E fo hr =>
    (ss_cons (sd_tgt (r_D (pn_call (ok_prime_and_degree T) (hr.mono (by decide)) (by rfl) T.g_prime_and_degree T.F_prime_and_degree.kp T.b_prime_and_degree (ad_cons (r_v 0) ad_nil))) (gd_tup rfl (gds_cons (r_gn 1 sc_rule_of.nd) (gds_cons (r_gn 2 sc_rule_of.nd) gds_nil))))
    (ss_cons (sd_for [3] PassesOwn.never rfl (r_seq (r_D (pn_call (ok_rules_of_degree T) (hr.mono (by decide)) (by rfl) T.g_rules_of_degree T.F_rules_of_degree.kp T.b_rules_of_degree (ad_cons (r_v 1) (ad_cons (r_v 2) ad_nil))))) (r_gn 3 sc_rule_of.nd)
    (ss_one (sd_if (r_tnot (r_tval (r_D (pn_call (ok_is_product T) (hr.mono (by decide)) (by rfl) T.g_is_product T.F_is_product.kp T.b_is_product (ad_cons (r_v 3) (ad_cons (r_v 1) ad_nil))))))
    (ss_one (r_ret (r_v 3)))
    ss_nil)))
    (ss_one (r_ret pd_non))))
def b_times_unknown : Stm :=
    (Stm.seq (stD 3 (op2 ixD (rd 0) (un1 negD (M.ret (.int 1)))))
    (retD (frzM (lcM (itM zpD (consM (frzM (op2N catD (frzM (lN (consN (fzM (M.ret (.int 0))) (M.ret [])))) (frzM (slM (rd 0) noM (soM (un1 negD (M.ret (.int 1)))))))) (consM (rd 1) (M.ret [])))) (gT 2 (gsC (gN 4) (gsC (gN 5) gsN))) [4, 5] (M.ret true) (fzM (op2 modI (op2 subI (rd 4) (op2 mulI (rd 3) (rd 5))) (rd 2)))))))
def m_times_unknown : List D → Option OT := runP 6 b_times_unknown
theorem ok_times_unknown (T : Txt K mg) : FnOk P w K mg base CX0 1 T.a_times_unknown T.fd_times_unknown ["coefficients", "rule", "p"] (spP K 3 m_times_unknown) := by
  refine fn_pure2 (N := n_times_unknown) (ps := p_times_unknown) (k := 0) (b := b_times_unknown) (sc := ?sc) (body := ?bd) T.F_times_unknown ?hsc ?hbd sc_times_unknown ?h
  case hsc => conv => lhs; whnf
  case hbd => conv => lhs; whnf
  case h => exact fun cdv A outer s H E fo hr =>
    (ss_cons (r_set 3 (r_ix (r_v 0) (r_neg pd_int)) sc_times_unknown.nd)
    (ss_one (r_ret (r_D (pn_lc (own := [("below", 4), ("back", 5)]) rfl sc_times_unknown.nd (id_zip (by rfl) T.z_zip (ad_cons (r_D (r_cat (r_D (r_lst (an_cons (r_N pd_int) an_nil))) (r_D (pn_sl (r_v 0) r_no (r_so (r_neg pd_int)))))) (ad_cons (r_v 1) ad_nil))) (blkOk_by (by first | decide +kernel | rfl)) (by decide) (fun _ _ _ _ _ => (gd_tup rfl (gds_cons (r_gn 4 sc_times_unknown.nd) (gds_cons (r_gn 5 sc_times_unknown.nd) gds_nil)))) (fun _ _ _ _ _ => tds_nil) (fun _ _ _ _ _ => (r_N (r_op d_mod (r_op d_sub (r_v 4) (r_op d_mul (r_v 3) (r_v 5))) (r_v 2)))))))))
def b_products_of : Stm :=
    (Stm.seq (stG (gT 2 (gsC (gN 1) (gsC (gN 2) gsN))) (frzM (callP 1 m_prime_and_degree (consM (rd 0) (M.ret [])))))
    (Stm.seq (stD 3 (frzM (callP 1 m_rule_of (consM (rd 0) (M.ret [])))))
    (Stm.seq (stN 4 (lN (M.ret [])))
    (Stm.seq (forS (itM rg1 (consM (rd 0) (M.ret []))) (gN 5) [5, 6, 7, 8, 9]
    (Stm.seq (stN 6 (lN (consN (callP 3 m_figures (consM (rd 5) (consM (rd 1) (consM (rd 2) (M.ret []))))) (M.ret []))))
    (Stm.seq (whl (tB (op2 ltI (scM (one1 (pk 6)) lenD) (rd 2))) []
    (exprM (apM 6 (consN (callP 3 m_times_unknown (consM (nameIx 6 (un1 negD (M.ret (.int 1)))) (consM (rd 3) (consM (rd 1) (M.ret []))))) (M.ret [])))) 10)
    (Stm.seq (stN 7 (lN (M.ret [])))
    (Stm.seq (forS (itM rg1 (consM (rd 0) (M.ret []))) (gN 8) [8, 9]
    (Stm.seq (stD 9 (frzM (callP 3 m_figures (consM (rd 8) (consM (rd 1) (consM (rd 2) (M.ret [])))))))
    (exprM (apM 7 (consN (callP 2 m_number_of (consM (frzM (lcM (itM rg1 (consM (rd 2) (M.ret []))) (gN 10) [10] (M.ret true) (fzM (op2 modI (scM (one1 (frzM (lcM (itM zpD (consM (rd 9) (consM (rd 6) (M.ret [])))) (gT 2 (gsC (gN 11) (gsC (gN 12) gsN))) [11, 12] (M.ret true) (fzM (op2 mulI (rd 11) (op2 ixD (rd 12) (rd 10))))))) sumD) (rd 1))))) (consM (rd 1) (M.ret [])))) (M.ret []))))))
    (exprM (apM 4 (consN (fzM (rd 7)) (M.ret [])))))))))
    (retD (rd 4))))))
def m_products_of : List D → Option OT := runP 13 b_products_of
theorem ok_products_of (T : Txt K mg) : FnOk P w K mg base CX0 5 T.a_products_of T.fd_products_of ["q"] (spP K 1 m_products_of) := by
  refine fn_pure2 (N := n_products_of) (ps := p_products_of) (k := 4) (b := b_products_of) (sc := ?sc) (body := ?bd) T.F_products_of ?hsc ?hbd sc_products_of ?h
  case hsc => conv => lhs; whnf
  case hbd => conv => lhs; whnf
  case h => exact fun cdv A outer s H E fo hr =>
    (ss_cons (sd_tgt (r_D (pn_call (ok_prime_and_degree T) (hr.mono (by decide)) (by rfl) T.g_prime_and_degree T.F_prime_and_degree.kp T.b_prime_and_degree (ad_cons (r_v 0) ad_nil))) (gd_tup rfl (gds_cons (r_gn 1 sc_products_of.nd) (gds_cons (r_gn 2 sc_products_of.nd) gds_nil))))
    (ss_cons (r_set 3 (r_D (pn_call (ok_rule_of T) (hr.mono (by decide)) (by rfl) T.g_rule_of T.F_rule_of.kp T.b_rule_of (ad_cons (r_v 0) ad_nil))) sc_products_of.nd)
    (ss_cons (r_setN 4 (r_lst an_nil) sc_products_of.nd)
    (ss_cons (sd_for [5, 6, 7, 8, 9] PassesOwn.never rfl (id_rg1 (by rfl) T.z_range (ad_cons (r_v 0) ad_nil)) (r_gn 5 sc_products_of.nd)
    (ss_cons (r_setN 6 (r_lst (an_cons (pn_call (ok_figures T) (hr.mono (by decide)) (by rfl) T.g_figures T.F_figures.kp T.b_figures (ad_cons (r_v 5) (ad_cons (r_v 1) (ad_cons (r_v 2) ad_nil)))) an_nil)) sc_products_of.nd)
    (ss_cons (sd_while [] 10 PassesOwn.never (r_tcmp s_lt (pd_scB sc_len (by rfl) T.z_len (by decide +kernel) (r_one (r_hv 6))) (hd_of (r_v 2)) (nomark _))
    (ss_one (r_expr (pd_append 6 (pv 6) (an_cons (pn_call (ok_times_unknown T) (hr.mono (by decide)) (by rfl) T.g_times_unknown T.F_times_unknown.kp T.b_times_unknown (ad_cons (r_ixV 6 (r_neg pd_int)) (ad_cons (r_v 3) (ad_cons (r_v 1) ad_nil)))) an_nil)))))
    (ss_cons (r_setN 7 (r_lst an_nil) sc_products_of.nd)
    (ss_cons (sd_for [8, 9] PassesOwn.never rfl (id_rg1 (by rfl) T.z_range (ad_cons (r_v 0) ad_nil)) (r_gn 8 sc_products_of.nd)
    (ss_cons (r_set 9 (r_D (pn_call (ok_figures T) (hr.mono (by decide)) (by rfl) T.g_figures T.F_figures.kp T.b_figures (ad_cons (r_v 8) (ad_cons (r_v 1) (ad_cons (r_v 2) ad_nil))))) sc_products_of.nd)
    (ss_one (r_expr (pd_append 7 (pv 7) (an_cons (pn_call (ok_number_of T) (hr.mono (by decide)) (by rfl) T.g_number_of T.F_number_of.kp T.b_number_of (ad_cons (r_D (pn_lc (own := [("at", 10)]) rfl sc_products_of.nd (id_rg1 (by rfl) T.z_range (ad_cons (r_v 2) ad_nil)) (blkOk_by (by first | decide +kernel | rfl)) (by decide) (fun _ _ _ _ _ => (r_gn 10 sc_products_of.nd)) (fun _ _ _ _ _ => tds_nil) (fun _ _ _ _ _ => (r_N (r_op d_mod (pd_scB (sc_sum rfl) (by rfl) T.z_sum (by decide +kernel) (r_one (hd_of (r_D (pn_lc (own := [("m", 11), ("step", 12)]) rfl sc_products_of.nd (id_zip (by rfl) T.z_zip (ad_cons (r_v 9) (ad_cons (r_v 6) ad_nil))) (blkOk_by (by first | decide +kernel | rfl)) (by decide) (fun _ _ _ _ _ => (gd_tup rfl (gds_cons (r_gn 11 sc_products_of.nd) (gds_cons (r_gn 12 sc_products_of.nd) gds_nil)))) (fun _ _ _ _ _ => tds_nil) (fun _ _ _ _ _ => (r_N (r_op d_mul (r_v 11) (r_ix (r_v 12) (r_v 10)))))))))) (r_v 1)))))) (ad_cons (r_v 1) ad_nil))) an_nil))))))
    (ss_one (r_expr (pd_append 4 (pv 4) (an_cons (r_N (r_v 7)) an_nil)))))))))
    (ss_one (r_ret (r_v 4)))))))
def b_sums_of : Stm :=
    (Stm.seq (stG (gT 2 (gsC (gN 1) (gsC (gN 2) gsN))) (frzM (callP 1 m_prime_and_degree (consM (rd 0) (M.ret [])))))
    (Stm.seq (stD 3 (frzM (lcM (itM rg1 (consM (rd 0) (M.ret []))) (gN 4) [4] (M.ret true) (callP 3 m_figures (consM (rd 4) (consM (rd 1) (consM (rd 2) (M.ret []))))))))
    (retD (frzM (lcM (seqI (rd 3)) (gN 5) [5] (M.ret true) (lcM (seqI (rd 3)) (gN 6) [6] (M.ret true) (callP 2 m_number_of (consM (frzM (lcM (itM zpD (consM (rd 5) (consM (rd 6) (M.ret [])))) (gT 2 (gsC (gN 7) (gsC (gN 8) gsN))) [7, 8] (M.ret true) (fzM (op2 modI (op2 addI (rd 7) (rd 8)) (rd 1))))) (consM (rd 1) (M.ret []))))))))))
def m_sums_of : List D → Option OT := runP 9 b_sums_of
theorem ok_sums_of (T : Txt K mg) : FnOk P w K mg base CX0 2 T.a_sums_of T.fd_sums_of ["q"] (spP K 1 m_sums_of) := by
  refine fn_pure2 (N := n_sums_of) (ps := p_sums_of) (k := 1) (b := b_sums_of) (sc := ?sc) (body := ?bd) T.F_sums_of ?hsc ?hbd sc_sums_of ?h
  case hsc => conv => lhs; whnf
  case hbd => conv => lhs; whnf
  case h => exact fun cdv A outer s H E fo hr =>
    (ss_cons (sd_tgt (r_D (pn_call (ok_prime_and_degree T) (hr.mono (by decide)) (by rfl) T.g_prime_and_degree T.F_prime_and_degree.kp T.b_prime_and_degree (ad_cons (r_v 0) ad_nil))) (gd_tup rfl (gds_cons (r_gn 1 sc_sums_of.nd) (gds_cons (r_gn 2 sc_sums_of.nd) gds_nil))))
    (ss_cons (r_set 3 (r_D (pn_lc (own := [("number", 4)]) rfl sc_sums_of.nd (id_rg1 (by rfl) T.z_range (ad_cons (r_v 0) ad_nil)) (blkOk_by (by first | decide +kernel | rfl)) (by decide) (fun _ _ _ _ _ => (r_gn 4 sc_sums_of.nd)) (fun _ _ _ _ _ => tds_nil) (fun _ _ _ _ _ => (pn_call (ok_figures T) (hr.mono (by decide)) (by rfl) T.g_figures T.F_figures.kp T.b_figures (ad_cons (r_v 4) (ad_cons (r_v 1) (ad_cons (r_v 2) ad_nil))))))) sc_sums_of.nd)
    (ss_one (r_ret (r_D (pn_lc (own := [("one", 5)]) rfl sc_sums_of.nd (r_seq (r_v 3)) (blkOk_by (by first | decide +kernel | rfl)) (by decide) (fun _ _ _ _ _ => (r_gn 5 sc_sums_of.nd)) (fun _ _ _ _ _ => tds_nil) (fun _ _ _ _ _ => (pn_lc (own := [("other", 6)]) rfl sc_sums_of.nd (r_seq (r_v 3)) (blkOk_by (by first | decide +kernel | rfl)) (by decide) (fun _ _ _ _ _ => (r_gn 6 sc_sums_of.nd)) (fun _ _ _ _ _ => tds_nil) (fun _ _ _ _ _ => (pn_call (ok_number_of T) (hr.mono (by decide)) (by rfl) T.g_number_of T.F_number_of.kp T.b_number_of (ad_cons (r_D (pn_lc (own := [("x", 7), ("y", 8)]) rfl sc_sums_of.nd (id_zip (by rfl) T.z_zip (ad_cons (r_v 5) (ad_cons (r_v 6) ad_nil))) (blkOk_by (by first | decide +kernel | rfl)) (by decide) (fun _ _ _ _ _ => (gd_tup rfl (gds_cons (r_gn 7 sc_sums_of.nd) (gds_cons (r_gn 8 sc_sums_of.nd) gds_nil)))) (fun _ _ _ _ _ => tds_nil) (fun _ _ _ _ _ => (r_N (r_op d_mod (r_op d_add (r_v 7) (r_v 8)) (r_v 1)))))) (ad_cons (r_v 1) ad_nil))))))))))))
def b_field_of : Stm :=
    (Stm.seq (ifM (tB (op2 isN (frzM (callP 1 m_prime_and_degree (consM (rd 0) (M.ret [])))) (M.ret .non)))
    badS
    skip)
    (retD (tpM (consM (frzM (callP 1 m_sums_of (consM (rd 0) (M.ret [])))) (consM (frzM (callP 1 m_products_of (consM (rd 0) (M.ret [])))) (M.ret []))))))
def m_field_of : List D → Option OT := runP 1 b_field_of
theorem ok_field_of (T : Txt K mg) : FnOk P w K mg base CX0 6 T.a_field_of T.fd_field_of ["q"] (spP K 1 m_field_of) := by
  refine fn_pure2 (N := n_field_of) (ps := p_field_of) (k := 5) (b := b_field_of) (sc := ?sc) (body := ?bd) T.F_field_of ?hsc ?hbd sc_field_of ?h
  case hsc => conv => lhs; whnf
  case hbd => conv => lhs; whnf
  case h => exact fun cdv A outer s H E fo hr =>
    (ss_cons (sd_if (r_tcmp s_isN (r_D (pn_call (ok_prime_and_degree T) (hr.mono (by decide)) (by rfl) T.g_prime_and_degree T.F_prime_and_degree.kp T.b_prime_and_degree (ad_cons (r_v 0) ad_nil))) (hd_of pd_non) (nomark _))
    (ss_one r_bad)
    ss_nil)
    (ss_one (r_ret (r_tup (ad_cons (r_D (pn_call (ok_sums_of T) (hr.mono (by decide)) (by rfl) T.g_sums_of T.F_sums_of.kp T.b_sums_of (ad_cons (r_v 0) ad_nil))) (ad_cons (r_D (pn_call (ok_products_of T) (hr.mono (by decide)) (by rfl) T.g_products_of T.F_products_of.kp T.b_products_of (ad_cons (r_v 0) ad_nil))) ad_nil))))))
def b_power_in : Stm :=
    (Stm.seq (stD 3 (frzM (callP 1 m_products_of (consM (rd 0) (M.ret [])))))
    (Stm.seq (ifM (tB (op2 eqD (rd 1) (M.ret (.int 0))))
    (retD (scM (one1 (op2 eqD (rd 2) (M.ret (.int 0)))) intD))
    skip)
    (Stm.seq (stD 4 (M.ret (.int 1)))
    (Stm.seq (forS (itM rg1 (consM (op2 modI (rd 2) (op2 subI (rd 0) (M.ret (.int 1)))) (M.ret []))) (gN 5) [5]
    (stD 4 (op2 ixD (op2 ixD (rd 3) (rd 4)) (rd 1))))
    (retD (rd 4))))))
def m_power_in : List D → Option OT := runP 6 b_power_in
theorem ok_power_in (T : Txt K mg) : FnOk P w K mg base CX0 6 T.a_power_in T.fd_power_in ["q", "a", "k"] (spP K 3 m_power_in) := by
  refine fn_pure2 (N := n_power_in) (ps := p_power_in) (k := 5) (b := b_power_in) (sc := ?sc) (body := ?bd) T.F_power_in ?hsc ?hbd sc_power_in ?h
  case hsc => conv => lhs; whnf
  case hbd => conv => lhs; whnf
  case h => exact fun cdv A outer s H E fo hr =>
    (ss_cons (r_set 3 (r_D (pn_call (ok_products_of T) (hr.mono (by decide)) (by rfl) T.g_products_of T.F_products_of.kp T.b_products_of (ad_cons (r_v 0) ad_nil))) sc_power_in.nd)
    (ss_cons (sd_if (r_tcmp (s_eq hr.units) (r_v 1) (hd_of pd_int) (nomark _))
    (ss_one (r_ret (pd_scT sc_int (by rfl) T.z_int (by decide +kernel) (r_one (hd_of (r_cmp (s_eq hr.units) (r_v 2) (hd_of pd_int) (nomark _)))))))
    ss_nil)
    (ss_cons (r_set 4 pd_int sc_power_in.nd)
    (ss_cons (sd_for [5] PassesOwn.never rfl (id_rg1 (by rfl) T.z_range (ad_cons (r_op d_mod (r_v 2) (r_op d_sub (r_v 0) pd_int)) ad_nil)) (r_gn 5 sc_power_in.nd)
    (ss_one (r_set 4 (r_ix (r_ix (r_v 3) (r_v 4)) (r_v 1)) sc_power_in.nd)))
    (ss_one (r_ret (r_v 4)))))))
def b__law_same (self : List D → Option OT) : Stm :=
    (Stm.seq (ifM (tB (un1 (isiB "list") (rd 1)))
    (Stm.seq (ifM (orM (notT (tB (un1 (isiB "list") (rd 0)))) (tB (op2 neD (scM (one1 (rd 0)) lenD) (scM (one1 (rd 1)) lenD))))
    (retD (M.ret (.bl false)))
    skip)
    (retD (scM (one1 (frzM (lcM (itM rg1 (consM (scM (one1 (rd 1)) lenD) (M.ret []))) (gN 2) [2] (M.ret true) (callP 2 self (consM (op2 ixD (rd 0) (rd 2)) (consM (op2 ixD (rd 1) (rd 2)) (M.ret []))))))) allD)))
    skip)
    (Stm.seq (ifM (tB (un1 (isiB "tuple") (rd 1)))
    (Stm.seq (ifM (orM (notT (tB (un1 (isiB "tuple") (rd 0)))) (tB (op2 neD (scM (one1 (rd 0)) lenD) (scM (one1 (rd 1)) lenD))))
    (retD (M.ret (.bl false)))
    skip)
    (retD (scM (one1 (frzM (lcM (itM rg1 (consM (scM (one1 (rd 1)) lenD) (M.ret []))) (gN 2) [2] (M.ret true) (callP 2 self (consM (op2 ixD (rd 0) (rd 2)) (consM (op2 ixD (rd 1) (rd 2)) (M.ret []))))))) allD)))
    skip)
    (Stm.seq (ifM (tB (op2 isN (rd 1) (M.ret .non)))
    (retD (op2 isN (rd 0) (M.ret .non)))
    skip)
    (Stm.seq (ifM (tB (un1 (isiB "bool") (rd 1)))
    (retD (andV (un1 (isiB "bool") (rd 0)) (op2 eqD (rd 0) (rd 1))))
    skip)
    (Stm.seq (ifM (tB (un1 (isiB "str") (rd 1)))
    (retD (andV (un1 (isiB "str") (rd 0)) (op2 eqD (rd 0) (rd 1))))
    skip)
    (retD (andV (un1 (isiB "int") (rd 0)) (andV (un1 (fun x => (asB x).map fun b => .bl (!b)) (un1 (isiB "bool") (rd 0))) (op2 eqD (rd 0) (rd 1))))))))))
def m__law_same : Nat → List D → Option OT
  | 0 => fun _ => none
  | d + 1 => runP 3 (b__law_same (m__law_same d))
theorem ok__law_same (T : Txt K mg) : ∀ d, FnOk P w K mg base CX0 (1 + d) T.a__law_same T.fd__law_same ["actual", "due"] (spP K 2 (m__law_same d))
  | 0 => ⟨fun vs H Q E ⟨_, _, _, _, _, r, hl, _⟩ => by rw [← r.length, hl]; rfl, fun _ _ _ _ _ _ _ _ _ _ _ _ _ ⟨_, _, _, _, _, _, _, h, _⟩ => by cases h⟩
  | d + 1 => by
    have Gself := ok__law_same T d
    have hself : 1 + d ≤ 1 + d := Nat.le_refl _
    refine fn_pure2 (N := n__law_same) (ps := p__law_same) (k := 1 + d) (b := b__law_same (m__law_same d)) (sc := ?sc) (body := ?bd) T.F__law_same ?hsc ?hbd sc__law_same ?h
    case hsc => conv => lhs; whnf
    case hbd => conv => lhs; whnf
    case h => exact fun cdv A outer s H E fo hr => 
    (ss_cons (sd_if (r_tval (pd_isi (T' := "list") k7_list (by rfl) T.z_isinstance (r_v 1) (by rfl) T.z_list (by decide +kernel)))
    (ss_cons (sd_if (td_W (wd_or (r_tnot (r_tval (pd_isi (T' := "list") k7_list (by rfl) T.z_isinstance (r_v 0) (by rfl) T.z_list (by decide +kernel)))) (wd_or1 (r_tcmp (s_ne hr.units) (pd_scB sc_len (by rfl) T.z_len (by decide +kernel) (r_one (hd_of (r_v 0)))) (hd_of (pd_scB sc_len (by rfl) T.z_len (by decide +kernel) (r_one (hd_of (r_v 1))))) (nomark _)))))
    (ss_one (r_ret pd_bl))
    ss_nil)
    (ss_one (r_ret (pd_scB (sc_all rfl) (by rfl) T.z_all (by decide +kernel) (r_one (hd_of (r_D (pn_lc (own := [("k", 2)]) rfl sc__law_same.nd (id_rg1 (by rfl) T.z_range (ad_cons (pd_scB sc_len (by rfl) T.z_len (by decide +kernel) (r_one (hd_of (r_v 1)))) ad_nil)) (blkOk_by (by first | decide +kernel | rfl)) (by decide) (fun _ _ _ _ _ => (r_gn 2 sc__law_same.nd)) (fun _ _ _ _ _ => tds_nil) (fun _ _ _ _ _ => (pn_call Gself (hr.mono hself) (by rfl) T.g__law_same T.F__law_same.kp T.b__law_same (ad_cons (r_ix (r_v 0) (r_v 2)) (ad_cons (r_ix (r_v 1) (r_v 2)) ad_nil))))))))))))
    ss_nil)
    (ss_cons (sd_if (r_tval (pd_isi (T' := "tuple") k7_tuple (by rfl) T.z_isinstance (r_v 1) (by rfl) T.z_tuple (by decide +kernel)))
    (ss_cons (sd_if (td_W (wd_or (r_tnot (r_tval (pd_isi (T' := "tuple") k7_tuple (by rfl) T.z_isinstance (r_v 0) (by rfl) T.z_tuple (by decide +kernel)))) (wd_or1 (r_tcmp (s_ne hr.units) (pd_scB sc_len (by rfl) T.z_len (by decide +kernel) (r_one (hd_of (r_v 0)))) (hd_of (pd_scB sc_len (by rfl) T.z_len (by decide +kernel) (r_one (hd_of (r_v 1))))) (nomark _)))))
    (ss_one (r_ret pd_bl))
    ss_nil)
    (ss_one (r_ret (pd_scB (sc_all rfl) (by rfl) T.z_all (by decide +kernel) (r_one (hd_of (r_D (pn_lc (own := [("k", 2)]) rfl sc__law_same.nd (id_rg1 (by rfl) T.z_range (ad_cons (pd_scB sc_len (by rfl) T.z_len (by decide +kernel) (r_one (hd_of (r_v 1)))) ad_nil)) (blkOk_by (by first | decide +kernel | rfl)) (by decide) (fun _ _ _ _ _ => (r_gn 2 sc__law_same.nd)) (fun _ _ _ _ _ => tds_nil) (fun _ _ _ _ _ => (pn_call Gself (hr.mono hself) (by rfl) T.g__law_same T.F__law_same.kp T.b__law_same (ad_cons (r_ix (r_v 0) (r_v 2)) (ad_cons (r_ix (r_v 1) (r_v 2)) ad_nil))))))))))))
    ss_nil)
    (ss_cons (sd_if (r_tcmp s_isN (r_v 1) (hd_of pd_non) (nomark _))
    (ss_one (r_ret (r_cmp s_isN (r_v 0) (hd_of pd_non) (nomark _))))
    ss_nil)
    (ss_cons (sd_if (r_tval (pd_isi (T' := "bool") k7_bool (by rfl) T.z_isinstance (r_v 1) (by rfl) T.z_bool (by decide +kernel)))
    (ss_one (r_ret (pd_and (pd_isi (T' := "bool") k7_bool (by rfl) T.z_isinstance (r_v 0) (by rfl) T.z_bool (by decide +kernel)) (pd_one (r_cmp (s_eq hr.units) (r_v 0) (hd_of (r_v 1)) (nomark _))))))
    ss_nil)
    (ss_cons (sd_if (r_tval (pd_isi (T' := "str") k7_str (by rfl) T.z_isinstance (r_v 1) (by rfl) T.z_str (by decide +kernel)))
    (ss_one (r_ret (pd_and (pd_isi (T' := "str") k7_str (by rfl) T.z_isinstance (r_v 0) (by rfl) T.z_str (by decide +kernel)) (pd_one (r_cmp (s_eq hr.units) (r_v 0) (hd_of (r_v 1)) (nomark _))))))
    ss_nil)
    (ss_one (r_ret (pd_and (pd_isi (T' := "int") k7_int (by rfl) T.z_isinstance (r_v 0) (by rfl) T.z_int (by decide +kernel)) (pd_and (r_not (pd_isi (T' := "bool") k7_bool (by rfl) T.z_isinstance (r_v 0) (by rfl) T.z_bool (by decide +kernel))) (pd_one (r_cmp (s_eq hr.units) (r_v 0) (hd_of (r_v 1)) (nomark _))))))))))))
def b__law_prime : Stm :=
    (retD (op2 dgetD (dispM [((M.ret (.int 2)), (M.ret (.int 2))), ((M.ret (.int 3)), (M.ret (.int 3))), ((M.ret (.int 4)), (M.ret (.int 2))), ((M.ret (.int 5)), (M.ret (.int 5))), ((M.ret (.int 7)), (M.ret (.int 7))), ((M.ret (.int 8)), (M.ret (.int 2))), ((M.ret (.int 9)), (M.ret (.int 3))), ((M.ret (.int 11)), (M.ret (.int 11))), ((M.ret (.int 13)), (M.ret (.int 13))), ((M.ret (.int 16)), (M.ret (.int 2)))]) (rd 0)))
def m__law_prime : List D → Option OT := runP 1 b__law_prime
theorem ok__law_prime (T : Txt K mg) : FnOk P w K mg base CX0 1 T.a__law_prime T.fd__law_prime ["q"] (spP K 1 m__law_prime) := by
  refine fn_pure2 (N := n__law_prime) (ps := p__law_prime) (k := 0) (b := b__law_prime) (sc := ?sc) (body := ?bd) T.F__law_prime ?hsc ?hbd sc__law_prime ?h
  case hsc => conv => lhs; whnf
  case hbd => conv => lhs; whnf
  case h => exact fun cdv A outer s H E fo hr =>
    (ss_one (r_ret (pd_dget (hu_of hr) (pd_disp (ppd_cons pd_int pd_int (ppd_cons pd_int pd_int (ppd_cons pd_int pd_int (ppd_cons pd_int pd_int (ppd_cons pd_int pd_int (ppd_cons pd_int pd_int (ppd_cons pd_int pd_int (ppd_cons pd_int pd_int (ppd_cons pd_int pd_int (ppd_cons pd_int pd_int ppd_nil)))))))))) (by rfl) (by rfl) (fun z => by cases z) (by decide)) (r_v 0) (fun _ _ => rfl))))
def b__law_rule : Stm :=
    (retD (get2M (dispM [((M.ret (.int 4)), (frzM (lN (consN (fzM (M.ret (.int 1))) (consN (fzM (M.ret (.int 1))) (consN (fzM (M.ret (.int 1))) (M.ret []))))))), ((M.ret (.int 8)), (frzM (lN (consN (fzM (M.ret (.int 1))) (consN (fzM (M.ret (.int 1))) (consN (fzM (M.ret (.int 0))) (consN (fzM (M.ret (.int 1))) (M.ret [])))))))), ((M.ret (.int 9)), (frzM (lN (consN (fzM (M.ret (.int 1))) (consN (fzM (M.ret (.int 0))) (consN (fzM (M.ret (.int 1))) (M.ret []))))))), ((M.ret (.int 16)), (frzM (lN (consN (fzM (M.ret (.int 1))) (consN (fzM (M.ret (.int 1))) (consN (fzM (M.ret (.int 0))) (consN (fzM (M.ret (.int 0))) (consN (fzM (M.ret (.int 1))) (M.ret [])))))))))]) (rd 0) (frzM (lN (consN (fzM (M.ret (.int 0))) (consN (fzM (M.ret (.int 1))) (M.ret [])))))))
def m__law_rule : List D → Option OT := runP 1 b__law_rule
theorem ok__law_rule (T : Txt K mg) : FnOk P w K mg base CX0 1 T.a__law_rule T.fd__law_rule ["q"] (spP K 1 m__law_rule) := by
  refine fn_pure2 (N := n__law_rule) (ps := p__law_rule) (k := 0) (b := b__law_rule) (sc := ?sc) (body := ?bd) T.F__law_rule ?hsc ?hbd sc__law_rule ?h
  case hsc => conv => lhs; whnf
  case hbd => conv => lhs; whnf
  case h => exact fun cdv A outer s H E fo hr =>
    (ss_one (r_ret (pd_get2 (hu_of hr) (pd_disp (ppd_cons pd_int (r_D (r_lst (an_cons (r_N pd_int) (an_cons (r_N pd_int) (an_cons (r_N pd_int) an_nil))))) (ppd_cons pd_int (r_D (r_lst (an_cons (r_N pd_int) (an_cons (r_N pd_int) (an_cons (r_N pd_int) (an_cons (r_N pd_int) an_nil)))))) (ppd_cons pd_int (r_D (r_lst (an_cons (r_N pd_int) (an_cons (r_N pd_int) (an_cons (r_N pd_int) an_nil))))) (ppd_cons pd_int (r_D (r_lst (an_cons (r_N pd_int) (an_cons (r_N pd_int) (an_cons (r_N pd_int) (an_cons (r_N pd_int) (an_cons (r_N pd_int) an_nil))))))) ppd_nil)))) (by rfl) (by rfl) (fun z => by cases z) (by decide)) (r_v 0) (r_D (r_lst (an_cons (r_N pd_int) (an_cons (r_N pd_int) an_nil)))) ⟨rfl, rfl, rfl, rfl⟩)))
def b__law_figures : Stm :=
    (Stm.seq (stN 3 (lN (M.ret [])))
    (Stm.seq (forS (itM rg1 (consM (rd 2) (M.ret []))) (gN 4) [4]
    (Stm.seq (exprM (apM 3 (consN (fzM (op2 modI (scM (one1 (rd 0)) intD) (rd 1))) (M.ret []))))
    (stD 0 (op2 divI (rd 0) (rd 1)))))
    (retD (rd 3))))
def m__law_figures : List D → Option OT := runP 5 b__law_figures
theorem ok__law_figures (T : Txt K mg) : FnOk P w K mg base CX0 1 T.a__law_figures T.fd__law_figures ["a", "p", "many"] (spP K 3 m__law_figures) := by
  refine fn_pure2 (N := n__law_figures) (ps := p__law_figures) (k := 0) (b := b__law_figures) (sc := ?sc) (body := ?bd) T.F__law_figures ?hsc ?hbd sc__law_figures ?h
  case hsc => conv => lhs; whnf
  case hbd => conv => lhs; whnf
  case h => exact fun cdv A outer s H E fo hr =>
    (ss_cons (r_setN 3 (r_lst an_nil) sc__law_figures.nd)
    (ss_cons (sd_for [4] PassesOwn.never rfl (id_rg1 (by rfl) T.z_range (ad_cons (r_v 2) ad_nil)) (r_gn 4 sc__law_figures.nd)
    (ss_cons (r_expr (pd_append 3 (pv 3) (an_cons (r_N (r_op d_mod (pd_scT sc_int (by rfl) T.z_int (by decide +kernel) (r_one (hd_of (r_v 0)))) (r_v 1))) an_nil)))
    (ss_one (r_set 0 (r_op d_div (r_v 0) (r_v 1)) sc__law_figures.nd))))
    (ss_one (r_ret (r_v 3)))))
def b__law_number : Stm :=
    (Stm.seq (stD 2 (M.ret (.int 0)))
    (Stm.seq (forS (itM rg1 (consM (scM (one1 (rd 0)) lenD) (M.ret []))) (gN 3) [3]
    (stD 2 (op2 addI (op2 mulI (rd 2) (rd 1)) (op2 ixD (rd 0) (op2 subI (op2 subI (scM (one1 (rd 0)) lenD) (M.ret (.int 1))) (rd 3))))))
    (retD (rd 2))))
def m__law_number : List D → Option OT := runP 4 b__law_number
theorem ok__law_number (T : Txt K mg) : FnOk P w K mg base CX0 1 T.a__law_number T.fd__law_number ["figures_v", "p"] (spP K 2 m__law_number) := by
  refine fn_pure2 (N := n__law_number) (ps := p__law_number) (k := 0) (b := b__law_number) (sc := ?sc) (body := ?bd) T.F__law_number ?hsc ?hbd sc__law_number ?h
  case hsc => conv => lhs; whnf
  case hbd => conv => lhs; whnf
  case h => exact fun cdv A outer s H E fo hr =>
    (ss_cons (r_set 2 pd_int sc__law_number.nd)
    (ss_cons (sd_for [3] PassesOwn.never rfl (id_rg1 (by rfl) T.z_range (ad_cons (pd_scB sc_len (by rfl) T.z_len (by decide +kernel) (r_one (hd_of (r_v 0)))) ad_nil)) (r_gn 3 sc__law_number.nd)
    (ss_one (r_set 2 (r_op d_add (r_op d_mul (r_v 2) (r_v 1)) (r_ix (r_v 0) (r_op d_sub (r_op d_sub (pd_scB sc_len (by rfl) T.z_len (by decide +kernel) (r_one (hd_of (r_v 0)))) pd_int) (r_v 3)))) sc__law_number.nd)))
    (ss_one (r_ret (r_v 2)))))
def b__law_plus : Stm :=
    (Stm.seq (stD 4 (frzM (callP 3 m__law_figures (consM (rd 2) (consM (rd 0) (consM (rd 1) (M.ret [])))))))
    (Stm.seq (stD 5 (frzM (callP 3 m__law_figures (consM (rd 3) (consM (rd 0) (consM (rd 1) (M.ret [])))))))
    (retD (frzM (callP 2 m__law_number (consM (frzM (lcM (itM rg1 (consM (rd 1) (M.ret []))) (gN 6) [6] (M.ret true) (fzM (op2 modI (scM (one1 (op2 addI (op2 ixD (rd 4) (rd 6)) (op2 ixD (rd 5) (rd 6)))) intD) (rd 0))))) (consM (rd 0) (M.ret []))))))))
def m__law_plus : List D → Option OT := runP 7 b__law_plus
theorem ok__law_plus (T : Txt K mg) : FnOk P w K mg base CX0 2 T.a__law_plus T.fd__law_plus ["p", "many", "a", "b"] (spP K 4 m__law_plus) := by
  refine fn_pure2 (N := n__law_plus) (ps := p__law_plus) (k := 1) (b := b__law_plus) (sc := ?sc) (body := ?bd) T.F__law_plus ?hsc ?hbd sc__law_plus ?h
  case hsc => conv => lhs; whnf
  case hbd => conv => lhs; whnf
  case h => exact fun cdv A outer s H E fo hr =>
    (ss_cons (r_set 4 (r_D (pn_call (ok__law_figures T) (hr.mono (by decide)) (by rfl) T.g__law_figures T.F__law_figures.kp T.b__law_figures (ad_cons (r_v 2) (ad_cons (r_v 0) (ad_cons (r_v 1) ad_nil))))) sc__law_plus.nd)
    (ss_cons (r_set 5 (r_D (pn_call (ok__law_figures T) (hr.mono (by decide)) (by rfl) T.g__law_figures T.F__law_figures.kp T.b__law_figures (ad_cons (r_v 3) (ad_cons (r_v 0) (ad_cons (r_v 1) ad_nil))))) sc__law_plus.nd)
    (ss_one (r_ret (r_D (pn_call (ok__law_number T) (hr.mono (by decide)) (by rfl) T.g__law_number T.F__law_number.kp T.b__law_number (ad_cons (r_D (pn_lc (own := [("k", 6)]) rfl sc__law_plus.nd (id_rg1 (by rfl) T.z_range (ad_cons (r_v 1) ad_nil)) (blkOk_by (by first | decide +kernel | rfl)) (by decide) (fun _ _ _ _ _ => (r_gn 6 sc__law_plus.nd)) (fun _ _ _ _ _ => tds_nil) (fun _ _ _ _ _ => (r_N (r_op d_mod (pd_scT sc_int (by rfl) T.z_int (by decide +kernel) (r_one (hd_of (r_op d_add (r_ix (r_v 4) (r_v 6)) (r_ix (r_v 5) (r_v 6)))))) (r_v 0)))))) (ad_cons (r_v 0) ad_nil))))))))
def b__law_in_range : Stm :=
    (Stm.seq (ifM (orM (notT (tB (un1 (isiB "list") (rd 0)))) (tB (op2 neD (scM (one1 (rd 0)) lenD) (rd 1))))
    (retD (M.ret (.bl false)))
    skip)
    (Stm.seq (forS (seqI (rd 0)) (gN 2) [2, 3]
    (Stm.seq (ifM (orM (notT (tB (un1 (isiB "list") (rd 2)))) (tB (op2 neD (scM (one1 (rd 2)) lenD) (rd 1))))
    (retD (M.ret (.bl false)))
    skip)
    (forS (seqI (rd 2)) (gN 3) [3]
    (ifM (orM (notT (tB (un1 (isiB "int") (rd 3)))) (orM (tB (un1 (isiB "bool") (rd 3))) (notT (tB (chainM leI ltI (M.ret (.int 0)) (rd 3) (rd 1))))))
    (retD (M.ret (.bl false)))
    skip))))
    (retD (M.ret (.bl true)))))
def m__law_in_range : List D → Option OT := runP 4 b__law_in_range
theorem ok__law_in_range (T : Txt K mg) : FnOk P w K mg base CX0 1 T.a__law_in_range T.fd__law_in_range ["table", "q"] (spP K 2 m__law_in_range) := by
  refine fn_pure2 (N := n__law_in_range) (ps := p__law_in_range) (k := 0) (b := b__law_in_range) (sc := ?sc) (body := ?bd) T.F__law_in_range ?hsc ?hbd sc__law_in_range ?h
  case hsc => conv => lhs; whnf
  case hbd => conv => lhs; whnf
  case h => exact fun cdv A outer s H E fo hr =>
    (ss_cons (sd_if (td_W (wd_or (r_tnot (r_tval (pd_isi (T' := "list") k7_list (by rfl) T.z_isinstance (r_v 0) (by rfl) T.z_list (by decide +kernel)))) (wd_or1 (r_tcmp (s_ne hr.units) (pd_scB sc_len (by rfl) T.z_len (by decide +kernel) (r_one (hd_of (r_v 0)))) (hd_of (r_v 1)) (nomark _)))))
    (ss_one (r_ret pd_bl))
    ss_nil)
    (ss_cons (sd_for [2, 3] PassesOwn.never rfl (r_seq (r_v 0)) (r_gn 2 sc__law_in_range.nd)
    (ss_cons (sd_if (td_W (wd_or (r_tnot (r_tval (pd_isi (T' := "list") k7_list (by rfl) T.z_isinstance (r_v 2) (by rfl) T.z_list (by decide +kernel)))) (wd_or1 (r_tcmp (s_ne hr.units) (pd_scB sc_len (by rfl) T.z_len (by decide +kernel) (r_one (hd_of (r_v 2)))) (hd_of (r_v 1)) (nomark _)))))
    (ss_one (r_ret pd_bl))
    ss_nil)
    (ss_one (sd_for [3] PassesOwn.never rfl (r_seq (r_v 2)) (r_gn 3 sc__law_in_range.nd)
    (ss_one (sd_if (td_W (wd_or (r_tnot (r_tval (pd_isi (T' := "int") k7_int (by rfl) T.z_isinstance (r_v 3) (by rfl) T.z_int (by decide +kernel)))) (wd_or (r_tval (pd_isi (T' := "bool") k7_bool (by rfl) T.z_isinstance (r_v 3) (by rfl) T.z_bool (by decide +kernel))) (wd_or1 (r_tnot (td_chain d_le d_lt pd_int (r_v 3) (r_v 1)))))))
    (ss_one (r_ret pd_bl))
    ss_nil))))))
    (ss_one (r_ret pd_bl))))
def b__law_group : Stm :=
    (Stm.seq (forS (seqI (rd 1)) (gN 3) [3, 4, 5]
    (Stm.seq (ifM (orM (tB (op2 neD (op2 ixD (op2 ixD (rd 0) (rd 2)) (rd 3)) (rd 3))) (tB (op2 neD (frzM (un1N srtD (frzM (lcM (seqI (rd 1)) (gN 4) [4] (M.ret true) (fzM (op2 ixD (op2 ixD (rd 0) (rd 3)) (rd 4))))))) (rd 1))))
    (retD (M.ret (.bl false)))
    skip)
    (forS (seqI (rd 1)) (gN 4) [4, 5]
    (Stm.seq (ifM (tB (op2 neD (op2 ixD (op2 ixD (rd 0) (rd 3)) (rd 4)) (op2 ixD (op2 ixD (rd 0) (rd 4)) (rd 3))))
    (retD (M.ret (.bl false)))
    skip)
    (forS (seqI (rd 1)) (gN 5) [5]
    (ifM (tB (op2 neD (op2 ixD (op2 ixD (rd 0) (op2 ixD (op2 ixD (rd 0) (rd 3)) (rd 4))) (rd 5)) (op2 ixD (op2 ixD (rd 0) (rd 3)) (op2 ixD (op2 ixD (rd 0) (rd 4)) (rd 5)))))
    (retD (M.ret (.bl false)))
    skip))))))
    (retD (M.ret (.bl true))))
def m__law_group : List D → Option OT := runP 6 b__law_group
theorem ok__law_group (T : Txt K mg) : FnOk P w K mg base CX0 1 T.a__law_group T.fd__law_group ["table", "numbers", "one"] (spP K 3 m__law_group) := by
  refine fn_pure2 (N := n__law_group) (ps := p__law_group) (k := 0) (b := b__law_group) (sc := ?sc) (body := ?bd) T.F__law_group ?hsc ?hbd sc__law_group ?h
  case hsc => conv => lhs; whnf
  case hbd => conv => lhs; whnf
  case h => exact fun cdv A outer s H E fo hr =>
    (ss_cons (sd_for [3, 4, 5] PassesOwn.never rfl (r_seq (r_v 1)) (r_gn 3 sc__law_group.nd)
    (ss_cons (sd_if (td_W (wd_or (r_tcmp (s_ne hr.units) (r_ix (r_ix (r_v 0) (r_v 2)) (r_v 3)) (hd_of (r_v 3)) (nomark _)) (wd_or1 (r_tcmp (s_ne hr.units) (r_D (r_sorted (by rfl) T.z_sorted (hd_of (r_D (pn_lc (own := [("b", 4)]) rfl sc__law_group.nd (r_seq (r_v 1)) (blkOk_by (by first | decide +kernel | rfl)) (by decide) (fun _ _ _ _ _ => (r_gn 4 sc__law_group.nd)) (fun _ _ _ _ _ => tds_nil) (fun _ _ _ _ _ => (r_N (r_ix (r_ix (r_v 0) (r_v 3)) (r_v 4))))))))) (hd_of (r_v 1)) (nomark _)))))
    (ss_one (r_ret pd_bl))
    ss_nil)
    (ss_one (sd_for [4, 5] PassesOwn.never rfl (r_seq (r_v 1)) (r_gn 4 sc__law_group.nd)
    (ss_cons (sd_if (r_tcmp (s_ne hr.units) (r_ix (r_ix (r_v 0) (r_v 3)) (r_v 4)) (hd_of (r_ix (r_ix (r_v 0) (r_v 4)) (r_v 3))) (nomark _))
    (ss_one (r_ret pd_bl))
    ss_nil)
    (ss_one (sd_for [5] PassesOwn.never rfl (r_seq (r_v 1)) (r_gn 5 sc__law_group.nd)
    (ss_one (sd_if (r_tcmp (s_ne hr.units) (r_ix (r_ix (r_v 0) (r_ix (r_ix (r_v 0) (r_v 3)) (r_v 4))) (r_v 5)) (hd_of (r_ix (r_ix (r_v 0) (r_v 3)) (r_ix (r_ix (r_v 0) (r_v 4)) (r_v 5)))) (nomark _))
    (ss_one (r_ret pd_bl))
    ss_nil)))))))))
    (ss_one (r_ret pd_bl)))
def b__law_through : Stm :=
    (Stm.seq (forS (itM rg1 (consM (rd 2) (M.ret []))) (gN 3) [3, 4, 5]
    (Stm.seq (ifM (orM (tB (op2 neD (op2 ixD (op2 ixD (rd 1) (rd 3)) (M.ret (.int 0))) (M.ret (.int 0)))) (tB (op2 neD (op2 ixD (op2 ixD (rd 1) (M.ret (.int 0))) (rd 3)) (M.ret (.int 0)))))
    (retD (M.ret (.bl false)))
    skip)
    (forS (itM rg1 (consM (rd 2) (M.ret []))) (gN 4) [4, 5]
    (forS (itM rg1 (consM (rd 2) (M.ret []))) (gN 5) [5]
    (ifM (tB (op2 neD (op2 ixD (op2 ixD (rd 1) (rd 3)) (op2 ixD (op2 ixD (rd 0) (rd 4)) (rd 5))) (op2 ixD (op2 ixD (rd 0) (op2 ixD (op2 ixD (rd 1) (rd 3)) (rd 4))) (op2 ixD (op2 ixD (rd 1) (rd 3)) (rd 5)))))
    (retD (M.ret (.bl false)))
    skip)))))
    (retD (M.ret (.bl true))))
def m__law_through : List D → Option OT := runP 6 b__law_through
theorem ok__law_through (T : Txt K mg) : FnOk P w K mg base CX0 1 T.a__law_through T.fd__law_through ["sums", "products", "q"] (spP K 3 m__law_through) := by
  refine fn_pure2 (N := n__law_through) (ps := p__law_through) (k := 0) (b := b__law_through) (sc := ?sc) (body := ?bd) T.F__law_through ?hsc ?hbd sc__law_through ?h
  case hsc => conv => lhs; whnf
  case hbd => conv => lhs; whnf
  case h => exact fun cdv A outer s H E fo hr =>
    (ss_cons (sd_for [3, 4, 5] PassesOwn.never rfl (id_rg1 (by rfl) T.z_range (ad_cons (r_v 2) ad_nil)) (r_gn 3 sc__law_through.nd)
    (ss_cons (sd_if (td_W (wd_or (r_tcmp (s_ne hr.units) (r_ix (r_ix (r_v 1) (r_v 3)) pd_int) (hd_of pd_int) (nomark _)) (wd_or1 (r_tcmp (s_ne hr.units) (r_ix (r_ix (r_v 1) pd_int) (r_v 3)) (hd_of pd_int) (nomark _)))))
    (ss_one (r_ret pd_bl))
    ss_nil)
    (ss_one (sd_for [4, 5] PassesOwn.never rfl (id_rg1 (by rfl) T.z_range (ad_cons (r_v 2) ad_nil)) (r_gn 4 sc__law_through.nd)
    (ss_one (sd_for [5] PassesOwn.never rfl (id_rg1 (by rfl) T.z_range (ad_cons (r_v 2) ad_nil)) (r_gn 5 sc__law_through.nd)
    (ss_one (sd_if (r_tcmp (s_ne hr.units) (r_ix (r_ix (r_v 1) (r_v 3)) (r_ix (r_ix (r_v 0) (r_v 4)) (r_v 5))) (hd_of (r_ix (r_ix (r_v 0) (r_ix (r_ix (r_v 1) (r_v 3)) (r_v 4))) (r_ix (r_ix (r_v 1) (r_v 3)) (r_v 5)))) (nomark _))
    (ss_one (r_ret pd_bl))
    ss_nil))))))))
    (ss_one (r_ret pd_bl)))
def b__law_power : Stm :=
    (Stm.seq (stD 3 (M.ret (.int 1)))
    (Stm.seq (forS (itM rg1 (consM (rd 2) (M.ret []))) (gN 4) [4]
    (stD 3 (op2 ixD (op2 ixD (rd 0) (rd 3)) (rd 1))))
    (retD (rd 3))))
def m__law_power : List D → Option OT := runP 5 b__law_power
theorem ok__law_power (T : Txt K mg) : FnOk P w K mg base CX0 1 T.a__law_power T.fd__law_power ["products", "a", "k"] (spP K 3 m__law_power) := by
  refine fn_pure2 (N := n__law_power) (ps := p__law_power) (k := 0) (b := b__law_power) (sc := ?sc) (body := ?bd) T.F__law_power ?hsc ?hbd sc__law_power ?h
  case hsc => conv => lhs; whnf
  case hbd => conv => lhs; whnf
  case h => exact fun cdv A outer s H E fo hr =>
    (ss_cons (r_set 3 pd_int sc__law_power.nd)
    (ss_cons (sd_for [4] PassesOwn.never rfl (id_rg1 (by rfl) T.z_range (ad_cons (r_v 2) ad_nil)) (r_gn 4 sc__law_power.nd)
    (ss_one (r_set 3 (r_ix (r_ix (r_v 0) (r_v 3)) (r_v 1)) sc__law_power.nd)))
    (ss_one (r_ret (r_v 3)))))
def b__law_right_0 : Stm :=
    (Stm.seq (stD 2 (frzM (callP 1 m_field_of (consM (rd 1) (M.ret [])))))
    (Stm.seq (ifM (orM (notT (tB (un1 (isiB "tuple") (rd 2)))) (orM (tB (op2 neD (scM (one1 (rd 2)) lenD) (M.ret (.int 2)))) (orM (notT (tB (frzM (callP 2 m__law_in_range (consM (op2 ixD (rd 2) (M.ret (.int 0))) (consM (rd 1) (M.ret []))))))) (notT (tB (frzM (callP 2 m__law_in_range (consM (op2 ixD (rd 2) (M.ret (.int 1))) (consM (rd 1) (M.ret []))))))))))
    (retD (M.ret (.bl false)))
    skip)
    (Stm.seq (stD 3 (op2 ixD (rd 2) (M.ret (.int 0))))
    (Stm.seq (stD 4 (op2 ixD (rd 2) (M.ret (.int 1))))
    (Stm.seq (stD 5 (frzM (callP 1 m__law_prime (consM (rd 1) (M.ret [])))))
    (Stm.seq (stD 6 (op2 subI (scM (one1 (frzM (callP 1 m__law_rule (consM (rd 1) (M.ret []))))) lenD) (M.ret (.int 1))))
    (Stm.seq (forS (itM rg1 (consM (rd 1) (M.ret []))) (gN 7) [7]
    (ifM (tB (op2 neD (op2 ixD (rd 3) (rd 7)) (frzM (lcM (itM rg1 (consM (rd 1) (M.ret []))) (gN 8) [8] (M.ret true) (callP 4 m__law_plus (consM (rd 5) (consM (rd 6) (consM (rd 7) (consM (rd 8) (M.ret []))))))))))
    (retD (M.ret (.bl false)))
    skip))
    (Stm.seq (ifM (orM (notT (tB (frzM (callP 3 m__law_group (consM (rd 3) (consM (frzM (lcM (itM rg1 (consM (rd 1) (M.ret []))) (gN 7) [7] (M.ret true) (fzM (rd 7)))) (consM (M.ret (.int 0)) (M.ret [])))))))) (notT (tB (frzM (callP 3 m__law_group (consM (rd 4) (consM (frzM (lcM (itM rg2 (consM (M.ret (.int 1)) (consM (rd 1) (M.ret [])))) (gN 7) [7] (M.ret true) (fzM (rd 7)))) (consM (M.ret (.int 1)) (M.ret [])))))))))
    (retD (M.ret (.bl false)))
    skip)
    (ifM (notT (tB (frzM (callP 3 m__law_through (consM (rd 3) (consM (rd 4) (consM (rd 1) (M.ret []))))))))
    (retD (M.ret (.bl false)))
    skip)))))))))
def b__law_right_1 : Stm :=
    (Stm.seq (stD 7 (frzM (callF 2 m__law_draw (consM (rd 0) (consM (rd 1) (M.ret []))))))
    (stD 8 (frzM (callF 2 m__law_draw (consM (rd 0) (consM (rd 1) (M.ret [])))))))
def b__law_right_2 : Stm :=
    (Stm.seq (stD 9 (M.ret (.int 0)))
    (Stm.seq (forS (itM rg1 (consM (rd 5) (M.ret []))) (gN 10) [10]
    (stD 9 (op2 ixD (op2 ixD (rd 3) (rd 9)) (rd 7))))
    (Stm.seq (ifM (orM (tB (op2 neD (rd 9) (M.ret (.int 0)))) (orM (notT (tB (frzM (callP 2 (m__law_same 4) (consM (frzM (callP 3 m_power_in (consM (rd 1) (consM (rd 7) (consM (rd 1) (M.ret [])))))) (consM (rd 7) (M.ret []))))))) (tB (op2 neD (frzM (callP 3 m__law_power (consM (rd 4) (consM (rd 7) (consM (rd 1) (M.ret [])))))) (rd 7)))))
    (retD (M.ret (.bl false)))
    skip)
    (Stm.seq (stD 11 (op2 ixD (op2 ixD (rd 3) (frzM (callP 3 m__law_power (consM (rd 4) (consM (rd 7) (consM (rd 5) (M.ret []))))))) (frzM (callP 3 m__law_power (consM (rd 4) (consM (rd 8) (consM (rd 5) (M.ret []))))))))
    (retD (andV (frzM (callP 2 (m__law_same 4) (consM (frzM (callP 3 m_power_in (consM (rd 1) (consM (op2 ixD (op2 ixD (rd 3) (rd 7)) (rd 8)) (consM (rd 5) (M.ret [])))))) (consM (rd 11) (M.ret []))))) (op2 eqD (frzM (callP 3 m__law_power (consM (rd 4) (consM (op2 ixD (op2 ixD (rd 3) (rd 7)) (rd 8)) (consM (rd 5) (M.ret [])))))) (rd 11))))))))
def b__law_right : Stm :=
    (Stm.seq (stD 2 (frzM (callP 1 m_field_of (consM (rd 1) (M.ret [])))))
    (Stm.seq (ifM (orM (notT (tB (un1 (isiB "tuple") (rd 2)))) (orM (tB (op2 neD (scM (one1 (rd 2)) lenD) (M.ret (.int 2)))) (orM (notT (tB (frzM (callP 2 m__law_in_range (consM (op2 ixD (rd 2) (M.ret (.int 0))) (consM (rd 1) (M.ret []))))))) (notT (tB (frzM (callP 2 m__law_in_range (consM (op2 ixD (rd 2) (M.ret (.int 1))) (consM (rd 1) (M.ret []))))))))))
    (retD (M.ret (.bl false)))
    skip)
    (Stm.seq (stD 3 (op2 ixD (rd 2) (M.ret (.int 0))))
    (Stm.seq (stD 4 (op2 ixD (rd 2) (M.ret (.int 1))))
    (Stm.seq (stD 5 (frzM (callP 1 m__law_prime (consM (rd 1) (M.ret [])))))
    (Stm.seq (stD 6 (op2 subI (scM (one1 (frzM (callP 1 m__law_rule (consM (rd 1) (M.ret []))))) lenD) (M.ret (.int 1))))
    (Stm.seq (forS (itM rg1 (consM (rd 1) (M.ret []))) (gN 7) [7]
    (ifM (tB (op2 neD (op2 ixD (rd 3) (rd 7)) (frzM (lcM (itM rg1 (consM (rd 1) (M.ret []))) (gN 8) [8] (M.ret true) (callP 4 m__law_plus (consM (rd 5) (consM (rd 6) (consM (rd 7) (consM (rd 8) (M.ret []))))))))))
    (retD (M.ret (.bl false)))
    skip))
    (Stm.seq (ifM (orM (notT (tB (frzM (callP 3 m__law_group (consM (rd 3) (consM (frzM (lcM (itM rg1 (consM (rd 1) (M.ret []))) (gN 7) [7] (M.ret true) (fzM (rd 7)))) (consM (M.ret (.int 0)) (M.ret [])))))))) (notT (tB (frzM (callP 3 m__law_group (consM (rd 4) (consM (frzM (lcM (itM rg2 (consM (M.ret (.int 1)) (consM (rd 1) (M.ret [])))) (gN 7) [7] (M.ret true) (fzM (rd 7)))) (consM (M.ret (.int 1)) (M.ret [])))))))))
    (retD (M.ret (.bl false)))
    skip)
    (Stm.seq (ifM (notT (tB (frzM (callP 3 m__law_through (consM (rd 3) (consM (rd 4) (consM (rd 1) (M.ret []))))))))
    (retD (M.ret (.bl false)))
    skip)
    (Stm.seq (stD 7 (frzM (callF 2 m__law_draw (consM (rd 0) (consM (rd 1) (M.ret []))))))
    (Stm.seq (stD 8 (frzM (callF 2 m__law_draw (consM (rd 0) (consM (rd 1) (M.ret []))))))
    (Stm.seq (stD 9 (M.ret (.int 0)))
    (Stm.seq (forS (itM rg1 (consM (rd 5) (M.ret []))) (gN 10) [10]
    (stD 9 (op2 ixD (op2 ixD (rd 3) (rd 9)) (rd 7))))
    (Stm.seq (ifM (orM (tB (op2 neD (rd 9) (M.ret (.int 0)))) (orM (notT (tB (frzM (callP 2 (m__law_same 4) (consM (frzM (callP 3 m_power_in (consM (rd 1) (consM (rd 7) (consM (rd 1) (M.ret [])))))) (consM (rd 7) (M.ret []))))))) (tB (op2 neD (frzM (callP 3 m__law_power (consM (rd 4) (consM (rd 7) (consM (rd 1) (M.ret [])))))) (rd 7)))))
    (retD (M.ret (.bl false)))
    skip)
    (Stm.seq (stD 11 (op2 ixD (op2 ixD (rd 3) (frzM (callP 3 m__law_power (consM (rd 4) (consM (rd 7) (consM (rd 5) (M.ret []))))))) (frzM (callP 3 m__law_power (consM (rd 4) (consM (rd 8) (consM (rd 5) (M.ret []))))))))
    (retD (andV (frzM (callP 2 (m__law_same 4) (consM (frzM (callP 3 m_power_in (consM (rd 1) (consM (op2 ixD (op2 ixD (rd 3) (rd 7)) (rd 8)) (consM (rd 5) (M.ret [])))))) (consM (rd 11) (M.ret []))))) (op2 eqD (frzM (callP 3 m__law_power (consM (rd 4) (consM (op2 ixD (op2 ixD (rd 3) (rd 7)) (rd 8)) (consM (rd 5) (M.ret [])))))) (rd 11)))))))))))))))))))
def m__law_right : List D → FS → Option (OT × FS) := runF 12 b__law_right
theorem ok__law_right (T : Txt K mg) : FnOk P w K mg base CX0 7 T.a__law_right T.fd__law_right ["feed", "q"] (spF K 2 m__law_right) := by
  refine fn_feed2 (N := n__law_right) (ps := p__law_right) (k := 6) (b := b__law_right) (sc := ?sc) (body := ?bd) T.F__law_right ?hsc ?hbd sc__law_right ?h
  case hsc => conv => lhs; whnf
  case hbd => conv => lhs; whnf
  case h => exact fun cdv A outer s H E pf hr =>
    (ss_cons (r_set 2 (r_D (pn_call (ok_field_of T) (hr.mono (by decide)) (by rfl) T.g_field_of T.F_field_of.kp T.b_field_of (ad_cons (r_v 1) ad_nil))) sc__law_right.nd)
    (ss_cons (sd_if (td_W (wd_or (r_tnot (r_tval (pd_isi (T' := "tuple") k7_tuple (by rfl) T.z_isinstance (r_v 2) (by rfl) T.z_tuple (by decide +kernel)))) (wd_or (r_tcmp (s_ne hr.units) (pd_scB sc_len (by rfl) T.z_len (by decide +kernel) (r_one (hd_of (r_v 2)))) (hd_of pd_int) (nomark _)) (wd_or (r_tnot (r_tval (r_D (pn_call (ok__law_in_range T) (hr.mono (by decide)) (by rfl) T.g__law_in_range T.F__law_in_range.kp T.b__law_in_range (ad_cons (r_ix (r_v 2) pd_int) (ad_cons (r_v 1) ad_nil)))))) (wd_or1 (r_tnot (r_tval (r_D (pn_call (ok__law_in_range T) (hr.mono (by decide)) (by rfl) T.g__law_in_range T.F__law_in_range.kp T.b__law_in_range (ad_cons (r_ix (r_v 2) pd_int) (ad_cons (r_v 1) ad_nil)))))))))))
    (ss_one (r_ret pd_bl))
    ss_nil)
    (ss_cons (r_set 3 (r_ix (r_v 2) pd_int) sc__law_right.nd)
    (ss_cons (r_set 4 (r_ix (r_v 2) pd_int) sc__law_right.nd)
    (ss_cons (r_set 5 (r_D (pn_call (ok__law_prime T) (hr.mono (by decide)) (by rfl) T.g__law_prime T.F__law_prime.kp T.b__law_prime (ad_cons (r_v 1) ad_nil))) sc__law_right.nd)
    (ss_cons (r_set 6 (r_op d_sub (pd_scB sc_len (by rfl) T.z_len (by decide +kernel) (r_one (hd_of (r_D (pn_call (ok__law_rule T) (hr.mono (by decide)) (by rfl) T.g__law_rule T.F__law_rule.kp T.b__law_rule (ad_cons (r_v 1) ad_nil)))))) pd_int) sc__law_right.nd)
    (ss_cons (sd_for [7] PassesOwn.never rfl (id_rg1 (by rfl) T.z_range (ad_cons (r_v 1) ad_nil)) (r_gn 7 sc__law_right.nd)
    (ss_one (sd_if (r_tcmp (s_ne hr.units) (r_ix (r_v 3) (r_v 7)) (hd_of (r_D (pn_lc (own := [("b", 8)]) rfl sc__law_right.nd (id_rg1 (by rfl) T.z_range (ad_cons (r_v 1) ad_nil)) (blkOk_by (by first | decide +kernel | rfl)) (by decide) (fun _ _ _ _ _ => (r_gn 8 sc__law_right.nd)) (fun _ _ _ _ _ => tds_nil) (fun _ _ _ _ _ => (pn_call (ok__law_plus T) (hr.mono (by decide)) (by rfl) T.g__law_plus T.F__law_plus.kp T.b__law_plus (ad_cons (r_v 5) (ad_cons (r_v 6) (ad_cons (r_v 7) (ad_cons (r_v 8) ad_nil))))))))) (nomark _))
    (ss_one (r_ret pd_bl))
    ss_nil)))
    (ss_cons (sd_if (td_W (wd_or (r_tnot (r_tval (r_D (pn_call (ok__law_group T) (hr.mono (by decide)) (by rfl) T.g__law_group T.F__law_group.kp T.b__law_group (ad_cons (r_v 3) (ad_cons (r_D (pn_lc (own := [("a", 7)]) rfl sc__law_right.nd (id_rg1 (by rfl) T.z_range (ad_cons (r_v 1) ad_nil)) (blkOk_by (by first | decide +kernel | rfl)) (by decide) (fun _ _ _ _ _ => (r_gn 7 sc__law_right.nd)) (fun _ _ _ _ _ => tds_nil) (fun _ _ _ _ _ => (r_N (r_v 7))))) (ad_cons pd_int ad_nil))))))) (wd_or1 (r_tnot (r_tval (r_D (pn_call (ok__law_group T) (hr.mono (by decide)) (by rfl) T.g__law_group T.F__law_group.kp T.b__law_group (ad_cons (r_v 4) (ad_cons (r_D (pn_lc (own := [("a", 7)]) rfl sc__law_right.nd (id_rg2 (by rfl) T.z_range (ad_cons pd_int (ad_cons (r_v 1) ad_nil))) (blkOk_by (by first | decide +kernel | rfl)) (by decide) (fun _ _ _ _ _ => (r_gn 7 sc__law_right.nd)) (fun _ _ _ _ _ => tds_nil) (fun _ _ _ _ _ => (r_N (r_v 7))))) (ad_cons pd_int ad_nil))))))))))
    (ss_one (r_ret pd_bl))
    ss_nil)
    (ss_cons (sd_if (r_tnot (r_tval (r_D (pn_call (ok__law_through T) (hr.mono (by decide)) (by rfl) T.g__law_through T.F__law_through.kp T.b__law_through (ad_cons (r_v 3) (ad_cons (r_v 4) (ad_cons (r_v 1) ad_nil)))))))
    (ss_one (r_ret pd_bl))
    ss_nil)
    (ss_cons (r_set 7 (r_D (pn_callF (ok__law_draw T) (hr.mono (by decide)) (by rfl) T.g__law_draw T.F__law_draw.kp T.b__law_draw (ad_cons (r_v 0) (ad_cons (r_v 1) ad_nil)))) sc__law_right.nd)
    (ss_cons (r_set 8 (r_D (pn_callF (ok__law_draw T) (hr.mono (by decide)) (by rfl) T.g__law_draw T.F__law_draw.kp T.b__law_draw (ad_cons (r_v 0) (ad_cons (r_v 1) ad_nil)))) sc__law_right.nd)
    (ss_cons (r_set 9 pd_int sc__law_right.nd)
    (ss_cons (sd_for [10] PassesOwn.never rfl (id_rg1 (by rfl) T.z_range (ad_cons (r_v 5) ad_nil)) (r_gn 10 sc__law_right.nd)
    (ss_one (r_set 9 (r_ix (r_ix (r_v 3) (r_v 9)) (r_v 7)) sc__law_right.nd)))
    (ss_cons (sd_if (td_W (wd_or (r_tcmp (s_ne hr.units) (r_v 9) (hd_of pd_int) (nomark _)) (wd_or (r_tnot (r_tval (r_D (pn_call (ok__law_same T 4) (hr.mono (by decide)) (by rfl) T.g__law_same T.F__law_same.kp T.b__law_same (ad_cons (r_D (pn_call (ok_power_in T) (hr.mono (by decide)) (by rfl) T.g_power_in T.F_power_in.kp T.b_power_in (ad_cons (r_v 1) (ad_cons (r_v 7) (ad_cons (r_v 1) ad_nil))))) (ad_cons (r_v 7) ad_nil)))))) (wd_or1 (r_tcmp (s_ne hr.units) (r_D (pn_call (ok__law_power T) (hr.mono (by decide)) (by rfl) T.g__law_power T.F__law_power.kp T.b__law_power (ad_cons (r_v 4) (ad_cons (r_v 7) (ad_cons (r_v 1) ad_nil))))) (hd_of (r_v 7)) (nomark _))))))
    (ss_one (r_ret pd_bl))
    ss_nil)
    (ss_cons (r_set 11 (r_ix (r_ix (r_v 3) (r_D (pn_call (ok__law_power T) (hr.mono (by decide)) (by rfl) T.g__law_power T.F__law_power.kp T.b__law_power (ad_cons (r_v 4) (ad_cons (r_v 7) (ad_cons (r_v 5) ad_nil)))))) (r_D (pn_call (ok__law_power T) (hr.mono (by decide)) (by rfl) T.g__law_power T.F__law_power.kp T.b__law_power (ad_cons (r_v 4) (ad_cons (r_v 8) (ad_cons (r_v 5) ad_nil)))))) sc__law_right.nd)
    (ss_one (r_ret (pd_and (r_D (pn_call (ok__law_same T 4) (hr.mono (by decide)) (by rfl) T.g__law_same T.F__law_same.kp T.b__law_same (ad_cons (r_D (pn_call (ok_power_in T) (hr.mono (by decide)) (by rfl) T.g_power_in T.F_power_in.kp T.b_power_in (ad_cons (r_v 1) (ad_cons (r_ix (r_ix (r_v 3) (r_v 7)) (r_v 8)) (ad_cons (r_v 5) ad_nil))))) (ad_cons (r_v 11) ad_nil)))) (pd_one (r_cmp (s_eq hr.units) (r_D (pn_call (ok__law_power T) (hr.mono (by decide)) (by rfl) T.g__law_power T.F__law_power.kp T.b__law_power (ad_cons (r_v 4) (ad_cons (r_ix (r_ix (r_v 3) (r_v 7)) (r_v 8)) (ad_cons (r_v 5) ad_nil))))) (hd_of (r_v 11)) (nomark _)))))))))))))))))))))
def b_law : Stm :=
    (Stm.seq (stD 2 (frzM (lN (consN (fzM (M.ret (.int 2))) (consN (fzM (M.ret (.int 3))) (consN (fzM (M.ret (.int 4))) (consN (fzM (M.ret (.int 5))) (consN (fzM (M.ret (.int 7))) (consN (fzM (M.ret (.int 8))) (consN (fzM (M.ret (.int 9))) (consN (fzM (M.ret (.int 11))) (consN (fzM (M.ret (.int 13))) (consN (fzM (M.ret (.int 16))) (M.ret []))))))))))))))
    (retD (andV (frzM (callF 2 m__law_right (consM (rd 1) (consM (op2 ixD (rd 2) (frzM (callF 2 m__law_draw (consM (rd 1) (consM (M.ret (.int 10)) (M.ret [])))))) (M.ret []))))) (frzM (callF 2 m__law_right (consM (rd 1) (consM (op2 ixD (rd 2) (frzM (callF 2 m__law_draw (consM (rd 1) (consM (M.ret (.int 10)) (M.ret [])))))) (M.ret []))))))))
end
end Sq

set_option Elab.async false
set_option linter.all false
set_option maxRecDepth 1000000
set_option maxHeartbeats 0
namespace Sq
open PySem PySem.Spec PyProof.Rows L2 DL
def env56 (q p many : Int) (S P : D) : DL.Env := [some (.fz .feed), some (.fz (.int q)), some (.fz (.tup [S, P])), some (.fz S), some (.fz P), some (.fz (.int p)), some (.fz (.int many)), none, none, none, none, none]
def env56ab (q p many : Int) (S P : D) (a b : Int) : DL.Env := [some (.fz .feed), some (.fz (.int q)), some (.fz (.tup [S, P])), some (.fz S), some (.fz P), some (.fz (.int p)), some (.fz (.int many)), some (.fz (.int a)), some (.fz (.int b)), none, none, none]
def rtS : Out → Option FS
  | .rt (.fz (.bl true)) s => some s
  | _ => none
theorem rtS_eq {o : Out} {s : FS} (h : rtS o = some s) : o = .rt (.fz (.bl true)) s := by
  unfold rtS at h
  split at h
  · cases h; rfl
  · cases h
theorem seq_assoc (f g h : Stm) : (f.seq g).seq h = f.seq (g.seq h) := by
  funext ρ s
  unfold Stm.seq
  cases f ρ s <;> rfl
theorem seq_nx {f g : Stm} {ρ ρ1 : DL.Env} {s s1 : FS} (h : f ρ s = .nx ρ1 s1) : (f.seq g) ρ s = g ρ1 s1 := by
  unfold Stm.seq; rw [h]
theorem st_ok {i : Nat} {m : M D} {ρ ρ1 : DL.Env} {s s1 : FS} {d : D} (h : m ρ s = .ok d ρ1 s1) : stD i m ρ s = .nx (ρ1.set i (some (.fz d))) s1 := by
  unfold stD thn1; rw [h]
theorem if_f {c : M Bool} {f g : Stm} {ρ ρ1 : DL.Env} {s s1 : FS} (h : c ρ s = .ok false ρ1 s1) : ifM c f g ρ s = g ρ1 s1 := by
  unfold ifM thn1; rw [h]; rfl
theorem bnd_ok {α β : Type} {f : M α} {g : α → M β} {a : α} {ρ ρ1 : DL.Env} {s s1 : FS} (h : f ρ s = .ok a ρ1 s1) : M.bnd f g ρ s = g a ρ1 s1 := by
  unfold M.bnd; rw [h]
theorem or_f {f g : M Bool} {ρ : DL.Env} {s : FS} (h : f ρ s = .ok false ρ s) (h2 : g ρ s = .ok false ρ s) : orM f g ρ s = .ok false ρ s := by
  unfold DL.orM M.bnd; rw [h]; exact h2
theorem not_t {f : M Bool} {ρ : DL.Env} {s : FS} (h : f ρ s = .ok true ρ s) : notT f ρ s = .ok false ρ s := by
  unfold notT M.bnd; rw [h]; rfl
theorem tB_ok {f : M D} {b : Bool} {ρ : DL.Env} {s : FS} (h : f ρ s = .ok (.bl b) ρ s) : tB f ρ s = .ok b ρ s := by
  unfold DL.tB M.bnd; rw [h]; rfl
theorem frz_ok {f : M OT} {t : OT} {ρ ρ1 : DL.Env} {s s1 : FS} (h : f ρ s = .ok t ρ1 s1) : frzM f ρ s = .ok t.fzD ρ1 s1 := by
  unfold frzM M.mp; rw [h]
theorem callP_ok {n : Nat} {m : List D → Option OT} {g : M (List D)} {t : OT} {ds : List D} {ρ : DL.Env} {s : FS} (h : g ρ s = .ok ds ρ s) (hn : ds.length = n) (hm : m ds = some t) : callP n m g ρ s = .ok t ρ s := by
  unfold callP M.bnd; rw [h]; simp only [hn, if_true, hm, M.lft]
theorem callD {n : Nat} {m : List D → Option OT} {g : M (List D)} {d : D} {ds : List D} {ρ : DL.Env} {s : FS} (h : g ρ s = .ok ds ρ s) (hn : ds.length = n) (hm : m ds = some (.fz d)) : frzM (callP n m g) ρ s = .ok d ρ s := frz_ok (callP_ok h hn hm)
theorem cons_ok {f : M D} {g : M (List D)} {d : D} {ds : List D} {ρ : DL.Env} {s : FS} (h : f ρ s = .ok d ρ s) (h2 : g ρ s = .ok ds ρ s) : consM f g ρ s = .ok (d :: ds) ρ s := by
  unfold consM M.bnd; rw [h]; simp only [h2]; rfl
theorem run_rt {n : Nat} {b : Stm} {ds : List D} {t : OT} {s1 : FS} (h : b (env0 n ds) s00 = .rt t s1) : runP n b ds = some t := by
  unfold runP; rw [h]
theorem cut56 : b__law_right = b__law_right_0.seq (b__law_right_1.seq b__law_right_2) := by
  unfold b__law_right b__law_right_0 b__law_right_1 b__law_right_2
  simp only [seq_assoc]
theorem stD_draw {i : Nat} {g : M (List D)} {ρ : DL.Env} {s : FS} {m : Int} (e : g ρ s = .ok [.feed, .int m] ρ s) (h : s.ok) (hm : 0 < m) (h2 : m < 1073741824) :
    ∃ r s', stD i (frzM (callF 2 m__law_draw g)) ρ s = .nx (ρ.set i (some (.fz (.int r)))) s' ∧ 0 ≤ r ∧ r < m ∧ s'.ok := by
  obtain ⟨r, s', e1, h3, h4, h5⟩ := callF_draw e h hm h2
  exact ⟨r, s', st_ok (frz_ok e1), h3, h4, h5⟩
theorem fo_of {q p n : Int} {S P : D} (hp : ∃ x, m_prime_and_degree [.int q] = some (.fz (.tup [x, .int n]))) (hs : m_sums_of [.int q] = some (.fz S)) (ht : m_products_of [.int q] = some (.fz P)) : m_field_of [.int q] = some (.fz (.tup [S, P])) := by
  obtain ⟨x, hp⟩ := hp
  refine run_rt (s1 := s00) ?_
  unfold b_field_of
  refine Eq.trans (seq_nx (ρ1 := env0 1 [.int q]) (s1 := s00) ?_) ?_
  · refine Eq.trans (if_f (tB_ok (b := false) ?_)) rfl
    exact Eq.trans (bnd_ok (callD (ds := [.int q]) rfl rfl hp)) rfl
  · show thn1 _ _ _ _ = _
    unfold thn1
    have e : tpM (consM (frzM (callP 1 m_sums_of (consM (rd 0) (M.ret [])))) (consM (frzM (callP 1 m_products_of (consM (rd 0) (M.ret [])))) (M.ret []))) (env0 1 [.int q]) s00 = .ok (.tup [S, P]) (env0 1 [.int q]) s00 :=
      Eq.trans (bnd_ok (cons_ok (callD (ds := [.int q]) rfl rfl hs) (cons_ok (callD (ds := [.int q]) rfl rfl ht) rfl))) rfl
    rw [e]
def lc1 : M D := (frzM (lcM (itM rg1 (consM (rd 1) (M.ret []))) (gN 7) [7] (M.ret true) (fzM (rd 7))))
def lc2 : M D := (frzM (lcM (itM rg2 (consM (M.ret (.int 1)) (consM (rd 1) (M.ret [])))) (gN 7) [7] (M.ret true) (fzM (rd 7))))
def digs : Stm :=
(forS (itM rg1 (consM (rd 1) (M.ret []))) (gN 7) [7]
    (ifM (tB (op2 neD (op2 ixD (rd 3) (rd 7)) (frzM (lcM (itM rg1 (consM (rd 1) (M.ret []))) (gN 8) [8] (M.ret true) (callP 4 m__law_plus (consM (rd 5) (consM (rd 6) (consM (rd 7) (consM (rd 8) (M.ret []))))))))))
    (retD (M.ret (.bl false)))
    skip))
theorem pre_of {q p many mk : Int} {S P N1 N2 R : D} (hf : m_field_of [.int q] = some (.fz (.tup [S, P]))) (i1 : m__law_in_range [S, .int q] = some (.fz (.bl true))) (i2 : m__law_in_range [P, .int q] = some (.fz (.bl true)))
    (hp : m__law_prime [.int q] = some (.fz (.int p))) (hr : m__law_rule [.int q] = some (.fz R)) (hl : lenD [R] = some (.int mk)) (hm : subI (.int mk) (.int 1) = some (.int many))
    (hd : ∀ s, digs (env56 q p many S P) s = .nx (env56 q p many S P) s) (n1 : ∀ s, lc1 (env56 q p many S P) s = .ok N1 (env56 q p many S P) s) (n2 : ∀ s, lc2 (env56 q p many S P) s = .ok N2 (env56 q p many S P) s)
    (g1 : m__law_group [S, N1, .int 0] = some (.fz (.bl true))) (g2 : m__law_group [P, N2, .int 1] = some (.fz (.bl true))) (th : m__law_through [S, P, .int q] = some (.fz (.bl true))) :
    ∀ s : FS, b__law_right_0 (env0 12 [.feed, .int q]) s = .nx (env56 q p many S P) s := fun s => by
  unfold b__law_right_0
  refine Eq.trans (seq_nx (st_ok (callD (ds := [.int q]) rfl rfl hf))) ?_
  refine Eq.trans (seq_nx (ρ1 := [some (.fz .feed), some (.fz (.int q)), some (.fz (.tup [S, P])), none, none, none, none, none, none, none, none, none]) (s1 := s) (Eq.trans (if_f (or_f (not_t (tB_ok rfl)) (or_f (tB_ok rfl) (or_f (not_t (tB_ok (callD (ds := [S, .int q]) rfl rfl i1))) (not_t (tB_ok (callD (ds := [P, .int q]) rfl rfl i2))))))) rfl)) ?_
  refine Eq.trans (seq_nx (st_ok (d := S) rfl)) ?_
  refine Eq.trans (seq_nx (st_ok (d := P) rfl)) ?_
  refine Eq.trans (seq_nx (st_ok (callD (ds := [.int q]) rfl rfl hp))) ?_
  refine Eq.trans (seq_nx (st_ok (d := .int many) (ρ1 := [some (.fz .feed), some (.fz (.int q)), some (.fz (.tup [S, P])), some (.fz S), some (.fz P), some (.fz (.int p)), none, none, none, none, none, none]) (s1 := s) ?_)) ?_
  · have e : scM (one1 (frzM (callP 1 m__law_rule (consM (rd 1) (M.ret []))))) lenD [some (.fz .feed), some (.fz (.int q)), some (.fz (.tup [S, P])), some (.fz S), some (.fz P), some (.fz (.int p)), none, none, none, none, none, none] s = .ok (.int mk) [some (.fz .feed), some (.fz (.int q)), some (.fz (.tup [S, P])), some (.fz S), some (.fz P), some (.fz (.int p)), none, none, none, none, none, none] s := by
      exact Eq.trans (bnd_ok (Eq.trans (bnd_ok (callD (ds := [.int q]) rfl rfl hr)) rfl)) (by show M.lft (lenD [R]) _ _ = _; rw [hl]; rfl)
    show M.bnd _ _ [some (.fz .feed), some (.fz (.int q)), some (.fz (.tup [S, P])), some (.fz S), some (.fz P), some (.fz (.int p)), none, none, none, none, none, none] s = _
    exact Eq.trans (bnd_ok e) (by show M.lft (subI (.int mk) (.int 1)) _ _ = _; rw [hm]; rfl)
  show (Stm.seq digs _) (env56 q p many S P) s = _
  refine Eq.trans (seq_nx (hd s)) ?_
  refine Eq.trans (seq_nx (ρ1 := env56 q p many S P) (s1 := s) (Eq.trans (if_f (or_f (not_t (tB_ok (callD (ds := [S, N1, .int 0]) (cons_ok rfl (cons_ok (n1 s) rfl)) rfl g1))) (not_t (tB_ok (callD (ds := [P, N2, .int 1]) (cons_ok rfl (cons_ok (n2 s) rfl)) rfl g2))))) rfl)) ?_
  exact Eq.trans (if_f (not_t (tB_ok (callD (ds := [S, P, .int q]) rfl rfl th)))) rfl
def b_tail (pw : List D → Option OT) : Stm :=
    (Stm.seq (stD 9 (M.ret (.int 0)))
    (Stm.seq (forS (itM rg1 (consM (rd 5) (M.ret []))) (gN 10) [10]
    (stD 9 (op2 ixD (op2 ixD (rd 3) (rd 9)) (rd 7))))
    (Stm.seq (ifM (orM (tB (op2 neD (rd 9) (M.ret (.int 0)))) (orM (notT (tB (frzM (callP 2 (m__law_same 4) (consM (frzM (callP 3 pw (consM (rd 1) (consM (rd 7) (consM (rd 1) (M.ret [])))))) (consM (rd 7) (M.ret []))))))) (tB (op2 neD (frzM (callP 3 m__law_power (consM (rd 4) (consM (rd 7) (consM (rd 1) (M.ret [])))))) (rd 7)))))
    (retD (M.ret (.bl false)))
    skip)
    (Stm.seq (stD 11 (op2 ixD (op2 ixD (rd 3) (frzM (callP 3 m__law_power (consM (rd 4) (consM (rd 7) (consM (rd 5) (M.ret []))))))) (frzM (callP 3 m__law_power (consM (rd 4) (consM (rd 8) (consM (rd 5) (M.ret []))))))))
    (retD (andV (frzM (callP 2 (m__law_same 4) (consM (frzM (callP 3 pw (consM (rd 1) (consM (op2 ixD (op2 ixD (rd 3) (rd 7)) (rd 8)) (consM (rd 5) (M.ret [])))))) (consM (rd 11) (M.ret []))))) (op2 eqD (frzM (callP 3 m__law_power (consM (rd 4) (consM (op2 ixD (op2 ixD (rd 3) (rd 7)) (rd 8)) (consM (rd 5) (M.ret [])))))) (rd 11))))))))
theorem tail_eq : b__law_right_2 = b_tail m_power_in := rfl
def b_pw1 : Stm :=
(Stm.seq (ifM (tB (op2 eqD (rd 1) (M.ret (.int 0))))
    (retD (scM (one1 (op2 eqD (rd 2) (M.ret (.int 0)))) intD))
    skip)
 (Stm.seq (stD 4 (M.ret (.int 1)))
 (Stm.seq (forS (itM rg1 (consM (op2 modI (rd 2) (op2 subI (rd 0) (M.ret (.int 1)))) (M.ret []))) (gN 5) [5]
    (stD 4 (op2 ixD (op2 ixD (rd 3) (rd 4)) (rd 1))))
 (retD (rd 4)))))
def pwR (q : Int) (a k P : D) : Option OT := match b_pw1 [some (.fz (.int q)), some (.fz a), some (.fz k), some (.fz P), none, none] s00 with
  | .nx _ _ => some (.fz .non)
  | .rt t _ => some t
  | _ => none
theorem pw_eq {q : Int} {P : D} (h : m_products_of [.int q] = some (.fz P)) (a k : D) : m_power_in [.int q, a, k] = pwR q a k P := by
  have e : b_power_in (env0 6 [.int q, a, k]) s00 = b_pw1 [some (.fz (.int q)), some (.fz a), some (.fz k), some (.fz P), none, none] s00 := by
    unfold b_power_in
    exact seq_nx (st_ok (callD (ds := [.int q]) rfl rfl h))
  show (match b_power_in (env0 6 [.int q, a, k]) s00 with | .nx _ _ => some (OT.fz .non) | .rt t _ => some t | _ => none) = _
  rw [e]; rfl
def pwQ (q : Int) (P : D) (l : List D) : Option OT := match l with
  | [.int r, a, k] => if r = q then pwR q a k P else m_power_in [.int r, a, k]
  | l => m_power_in l
theorem pwQ_eq {q : Int} {P : D} (h : m_products_of [.int q] = some (.fz P)) : m_power_in = pwQ q P := by
  funext l
  unfold pwQ
  split
  · split
    · rename_i e; subst e; exact pw_eq h _ _
    · rfl
  · rfl
/-- the check of one field -/
theorem right56 {q p many : Int} {S P : D} (h0 : 0 < q) (h1 : q < 100) (pre : ∀ s : FS, b__law_right_0 (env0 12 [.feed, .int q]) s = .nx (env56 q p many S P) s)
    (tl : ∀ (a b : Int) (s : FS), 0 ≤ a → a < q → 0 ≤ b → b < q → b__law_right_2 (env56ab q p many S P a b) s = .rt (.fz (.bl true)) s) {s : FS} (hs : s.ok) :
    ∃ s', m__law_right [.feed, .int q] s = some (.fz (.bl true), s') ∧ s'.ok := by
  obtain ⟨a, s1, e1, a0, a1, k1⟩ := stD_draw (i := 7) (g := consM (rd 0) (consM (rd 1) (M.ret []))) (ρ := env56 q p many S P) (s := s) (m := q) rfl hs h0 (by omega)
  obtain ⟨b, s2, e2, b0, b1, k2⟩ := stD_draw (i := 8) (g := consM (rd 0) (consM (rd 1) (M.ret []))) (ρ := (env56 q p many S P).set 7 (some (.fz (.int a)))) (s := s1) (m := q) rfl k1 h0 (by omega)
  refine ⟨s2, ?_, k2⟩
  have e3 : b__law_right (env0 12 [.feed, .int q]) s = .rt (.fz (.bl true)) s2 := by
    rw [cut56]
    refine Eq.trans (seq_nx (pre s)) ?_
    refine Eq.trans (seq_nx (f := b__law_right_1) (Eq.trans (seq_nx e1) e2)) ?_
    exact tl a b s2 a0 a1 b0 b1
  unfold m__law_right runF
  show (match b__law_right (env0 12 [.feed, .int q]) s with
    | .nx _ s' => if s'.lv = true then some (OT.fz .non, s') else none
    | .rt t s' => if s'.lv = true then some (t, s') else none
    | _ => none) = _
  rw [e3]
  simp only [k2.lv, if_true]
theorem all_at {q : Nat} {f : Nat → Nat → Option FS} {s : FS} (h : ((List.range q).map fun a => (List.range q).map fun b => f a b) = List.replicate q (List.replicate q (some s))) {a b : Nat} (ha : a < q) (hb : b < q) : f a b = some s := by
  have h1 := congrArg (fun l => l[a]?) h
  simp only [List.getElem?_map, List.getElem?_range ha, Option.map_some, List.getElem?_replicate, if_pos ha] at h1
  have h2 := congrArg (fun l => l[b]?) (Option.some.inj h1)
  simp only [List.getElem?_map, List.getElem?_range hb, Option.map_some, List.getElem?_replicate, if_pos hb] at h2
  exact Option.some.inj h2
theorem tl_of {q : Nat} {p many : Int} {S P : D} (hP : m_products_of [.int (q : Int)] = some (.fz P)) (h : ∀ s : FS, ((List.range q).map fun (a : Nat) => (List.range q).map fun (b : Nat) => rtS (b_tail (pwQ (q : Int) P) (env56ab (q : Int) p many S P (Int.ofNat a) (Int.ofNat b)) s)) = List.replicate q (List.replicate q (some s))) :
    ∀ (a b : Int) (s : FS), 0 ≤ a → a < (q : Int) → 0 ≤ b → b < (q : Int) → b__law_right_2 (env56ab (q : Int) p many S P a b) s = .rt (.fz (.bl true)) s := fun a b s a0 a1 b0 b1 => by
  have := rtS_eq (all_at (h s) (a := a.toNat) (b := b.toNat) (by omega) (by omega))
  have ea : Int.ofNat a.toNat = a := Int.toNat_of_nonneg a0
  have eb : Int.ofNat b.toNat = b := Int.toNat_of_nonneg b0
  rw [ea, eb] at this
  rw [tail_eq, pwQ_eq hP]
  exact this
theorem forS_ok {it : M (List D)} {t : Tgt} {ks : List Nat} {f : Stm} {ds : List D} {ρ ρ1 : DL.Env} {s s1 : FS} (h : it ρ s = .ok ds ρ1 s1) : forS it t ks f ρ s = loop t ks f ds ρ1 s1 := by
  unfold forS thn1; rw [h]
theorem loop_cons {t : Tgt} {ks : List Nat} {f : Stm} {d : D} {ds : List D} {ρ ρ1 ρ2 ρ3 : DL.Env} {s s2 : FS} (h : t d ρ = some ρ1) (h2 : f ρ1 s = .nx ρ2 s2) (h3 : kl ks ρ2 = ρ3) : loop t ks f (d :: ds) ρ s = loop t ks f ds ρ3 s2 := by
  subst h3
  show (match t d ρ with | none => _ | some ρ1 => _) = _
  rw [h]
  simp only [h2]
def stp (ks : List Nat) : Out → Option DL.Env
  | .nx ρ _ => some (kl ks ρ)
  | _ => none
def rowB : Stm :=
    (Stm.seq (stN 6 (lN (consN (callP 3 m_figures (consM (rd 5) (consM (rd 1) (consM (rd 2) (M.ret []))))) (M.ret []))))
    (Stm.seq (whl (tB (op2 ltI (scM (one1 (pk 6)) lenD) (rd 2))) []
    (exprM (apM 6 (consN (callP 3 m_times_unknown (consM (nameIx 6 (un1 negD (M.ret (.int 1)))) (consM (rd 3) (consM (rd 1) (M.ret []))))) (M.ret [])))) 10)
    (Stm.seq (stN 7 (lN (M.ret [])))
    (Stm.seq (forS (itM rg1 (consM (rd 0) (M.ret []))) (gN 8) [8, 9]
    (Stm.seq (stD 9 (frzM (callP 3 m_figures (consM (rd 8) (consM (rd 1) (consM (rd 2) (M.ret [])))))))
    (exprM (apM 7 (consN (callP 2 m_number_of (consM (frzM (lcM (itM rg1 (consM (rd 2) (M.ret []))) (gN 10) [10] (M.ret true) (fzM (op2 modI (scM (one1 (frzM (lcM (itM zpD (consM (rd 9) (consM (rd 6) (M.ret [])))) (gT 2 (gsC (gN 11) (gsC (gN 12) gsN))) [11, 12] (M.ret true) (fzM (op2 mulI (rd 11) (op2 ixD (rd 12) (rd 10))))))) sumD) (rd 1))))) (consM (rd 1) (M.ret [])))) (M.ret []))))))
    (exprM (apM 4 (consN (fzM (rd 7)) (M.ret []))))))))
def pdA : Stm :=
(Stm.seq (stG (gT 2 (gsC (gN 1) (gsC (gN 2) gsN))) (frzM (callP 1 m_prime_and_degree (consM (rd 0) (M.ret [])))))
 (Stm.seq (stD 3 (frzM (callP 1 m_rule_of (consM (rd 0) (M.ret [])))))
 (stN 4 (lN (M.ret [])))))
def S2 : D := (.lst [(.lst [(.int 0), (.int 1)]), (.lst [(.int 1), (.int 0)])])
def P2 : D := (.lst [(.lst [(.int 0), (.int 0)]), (.lst [(.int 0), (.int 1)])])
theorem sums2 : m_sums_of [.int 2] = some (.fz S2) := by kernel_rfl
theorem prods2 : m_products_of [.int 2] = some (.fz P2) := by kernel_rfl
theorem fo2 : m_field_of [.int 2] = some (.fz (.tup [S2, P2])) := fo_of (p := 0) (n := 1) ⟨.int 2, by kernel_rfl⟩ sums2 prods2
theorem gs2 : m__law_group [S2, (.lst [(.int 0), (.int 1)]), .int 0] = some (.fz (.bl true)) := by kernel_rfl
theorem gp2 : m__law_group [P2, (.lst [(.int 1)]), .int 1] = some (.fz (.bl true)) := by kernel_rfl
theorem th2 : m__law_through [S2, P2, .int 2] = some (.fz (.bl true)) := by kernel_rfl
theorem dig2 (s : FS) : digs (env56 2 2 1 S2 P2) s = .nx (env56 2 2 1 S2 P2) s := by kernel_rfl
theorem pre2 (s : FS) : b__law_right_0 (env0 12 [.feed, .int 2]) s = .nx (env56 2 2 1 S2 P2) s := pre_of (mk := 2) (R := .lst [(.int 0), (.int 1)]) fo2 (by kernel_rfl) (by kernel_rfl) (by kernel_rfl) (by kernel_rfl) (by kernel_rfl) (by kernel_rfl) dig2 (fun s => by kernel_rfl) (fun s => by kernel_rfl) gs2 gp2 th2 s
theorem tal2 (s : FS) : ((List.range 2).map fun (a : Nat) => (List.range 2).map fun (b : Nat) => rtS (b_tail (pwQ ((2 : Nat) : Int) P2) (env56ab ((2 : Nat) : Int) 2 1 S2 P2 (Int.ofNat a) (Int.ofNat b)) s)) = List.replicate 2 (List.replicate 2 (some s)) := by kernel_rfl
theorem rig2 {s : FS} (hs : s.ok) : ∃ s', m__law_right [.feed, .int 2] s = some (.fz (.bl true), s') ∧ s'.ok := right56 (by decide) (by decide) pre2 (tl_of (q := 2) prods2 tal2) hs
def S3 : D := (.lst [(.lst [(.int 0), (.int 1), (.int 2)]), (.lst [(.int 1), (.int 2), (.int 0)]), (.lst [(.int 2), (.int 0), (.int 1)])])
def P3 : D := (.lst [(.lst [(.int 0), (.int 0), (.int 0)]), (.lst [(.int 0), (.int 1), (.int 2)]), (.lst [(.int 0), (.int 2), (.int 1)])])
theorem sums3 : m_sums_of [.int 3] = some (.fz S3) := by kernel_rfl
theorem prods3 : m_products_of [.int 3] = some (.fz P3) := by kernel_rfl
theorem fo3 : m_field_of [.int 3] = some (.fz (.tup [S3, P3])) := fo_of (p := 0) (n := 1) ⟨.int 3, by kernel_rfl⟩ sums3 prods3
theorem gs3 : m__law_group [S3, (.lst [(.int 0), (.int 1), (.int 2)]), .int 0] = some (.fz (.bl true)) := by kernel_rfl
theorem gp3 : m__law_group [P3, (.lst [(.int 1), (.int 2)]), .int 1] = some (.fz (.bl true)) := by kernel_rfl
theorem th3 : m__law_through [S3, P3, .int 3] = some (.fz (.bl true)) := by kernel_rfl
theorem dig3 (s : FS) : digs (env56 3 3 1 S3 P3) s = .nx (env56 3 3 1 S3 P3) s := by kernel_rfl
theorem pre3 (s : FS) : b__law_right_0 (env0 12 [.feed, .int 3]) s = .nx (env56 3 3 1 S3 P3) s := pre_of (mk := 2) (R := .lst [(.int 0), (.int 1)]) fo3 (by kernel_rfl) (by kernel_rfl) (by kernel_rfl) (by kernel_rfl) (by kernel_rfl) (by kernel_rfl) dig3 (fun s => by kernel_rfl) (fun s => by kernel_rfl) gs3 gp3 th3 s
theorem tal3 (s : FS) : ((List.range 3).map fun (a : Nat) => (List.range 3).map fun (b : Nat) => rtS (b_tail (pwQ ((3 : Nat) : Int) P3) (env56ab ((3 : Nat) : Int) 3 1 S3 P3 (Int.ofNat a) (Int.ofNat b)) s)) = List.replicate 3 (List.replicate 3 (some s)) := by kernel_rfl
theorem rig3 {s : FS} (hs : s.ok) : ∃ s', m__law_right [.feed, .int 3] s = some (.fz (.bl true), s') ∧ s'.ok := right56 (by decide) (by decide) pre3 (tl_of (q := 3) prods3 tal3) hs
def S4 : D := (.lst [(.lst [(.int 0), (.int 1), (.int 2), (.int 3)]), (.lst [(.int 1), (.int 0), (.int 3), (.int 2)]), (.lst [(.int 2), (.int 3), (.int 0), (.int 1)]), (.lst [(.int 3), (.int 2), (.int 1), (.int 0)])])
def P4 : D := (.lst [(.lst [(.int 0), (.int 0), (.int 0), (.int 0)]), (.lst [(.int 0), (.int 1), (.int 2), (.int 3)]), (.lst [(.int 0), (.int 2), (.int 3), (.int 1)]), (.lst [(.int 0), (.int 3), (.int 1), (.int 2)])])
theorem sums4 : m_sums_of [.int 4] = some (.fz S4) := by kernel_rfl
theorem prods4 : m_products_of [.int 4] = some (.fz P4) := by kernel_rfl
theorem fo4 : m_field_of [.int 4] = some (.fz (.tup [S4, P4])) := fo_of (p := 0) (n := 2) ⟨.int 2, by kernel_rfl⟩ sums4 prods4
theorem gs4 : m__law_group [S4, (.lst [(.int 0), (.int 1), (.int 2), (.int 3)]), .int 0] = some (.fz (.bl true)) := by kernel_rfl
theorem gp4 : m__law_group [P4, (.lst [(.int 1), (.int 2), (.int 3)]), .int 1] = some (.fz (.bl true)) := by kernel_rfl
theorem th4 : m__law_through [S4, P4, .int 4] = some (.fz (.bl true)) := by kernel_rfl
theorem dig4 (s : FS) : digs (env56 4 2 2 S4 P4) s = .nx (env56 4 2 2 S4 P4) s := by kernel_rfl
theorem pre4 (s : FS) : b__law_right_0 (env0 12 [.feed, .int 4]) s = .nx (env56 4 2 2 S4 P4) s := pre_of (mk := 3) (R := .lst [(.int 1), (.int 1), (.int 1)]) fo4 (by kernel_rfl) (by kernel_rfl) (by kernel_rfl) (by kernel_rfl) (by kernel_rfl) (by kernel_rfl) dig4 (fun s => by kernel_rfl) (fun s => by kernel_rfl) gs4 gp4 th4 s
theorem tal4 (s : FS) : ((List.range 4).map fun (a : Nat) => (List.range 4).map fun (b : Nat) => rtS (b_tail (pwQ ((4 : Nat) : Int) P4) (env56ab ((4 : Nat) : Int) 2 2 S4 P4 (Int.ofNat a) (Int.ofNat b)) s)) = List.replicate 4 (List.replicate 4 (some s)) := by kernel_rfl
theorem rig4 {s : FS} (hs : s.ok) : ∃ s', m__law_right [.feed, .int 4] s = some (.fz (.bl true), s') ∧ s'.ok := right56 (by decide) (by decide) pre4 (tl_of (q := 4) prods4 tal4) hs
def S5 : D := (.lst [(.lst [(.int 0), (.int 1), (.int 2), (.int 3), (.int 4)]), (.lst [(.int 1), (.int 2), (.int 3), (.int 4), (.int 0)]), (.lst [(.int 2), (.int 3), (.int 4), (.int 0), (.int 1)]), (.lst [(.int 3), (.int 4), (.int 0), (.int 1), (.int 2)]), (.lst [(.int 4), (.int 0), (.int 1), (.int 2), (.int 3)])])
def P5 : D := (.lst [(.lst [(.int 0), (.int 0), (.int 0), (.int 0), (.int 0)]), (.lst [(.int 0), (.int 1), (.int 2), (.int 3), (.int 4)]), (.lst [(.int 0), (.int 2), (.int 4), (.int 1), (.int 3)]), (.lst [(.int 0), (.int 3), (.int 1), (.int 4), (.int 2)]), (.lst [(.int 0), (.int 4), (.int 3), (.int 2), (.int 1)])])
theorem sums5 : m_sums_of [.int 5] = some (.fz S5) := by kernel_rfl
theorem prods5 : m_products_of [.int 5] = some (.fz P5) := by kernel_rfl
theorem fo5 : m_field_of [.int 5] = some (.fz (.tup [S5, P5])) := fo_of (p := 0) (n := 1) ⟨.int 5, by kernel_rfl⟩ sums5 prods5
theorem gs5 : m__law_group [S5, (.lst [(.int 0), (.int 1), (.int 2), (.int 3), (.int 4)]), .int 0] = some (.fz (.bl true)) := by kernel_rfl
theorem gp5 : m__law_group [P5, (.lst [(.int 1), (.int 2), (.int 3), (.int 4)]), .int 1] = some (.fz (.bl true)) := by kernel_rfl
theorem th5 : m__law_through [S5, P5, .int 5] = some (.fz (.bl true)) := by kernel_rfl
theorem dig5 (s : FS) : digs (env56 5 5 1 S5 P5) s = .nx (env56 5 5 1 S5 P5) s := by kernel_rfl
theorem pre5 (s : FS) : b__law_right_0 (env0 12 [.feed, .int 5]) s = .nx (env56 5 5 1 S5 P5) s := pre_of (mk := 2) (R := .lst [(.int 0), (.int 1)]) fo5 (by kernel_rfl) (by kernel_rfl) (by kernel_rfl) (by kernel_rfl) (by kernel_rfl) (by kernel_rfl) dig5 (fun s => by kernel_rfl) (fun s => by kernel_rfl) gs5 gp5 th5 s
theorem tal5 (s : FS) : ((List.range 5).map fun (a : Nat) => (List.range 5).map fun (b : Nat) => rtS (b_tail (pwQ ((5 : Nat) : Int) P5) (env56ab ((5 : Nat) : Int) 5 1 S5 P5 (Int.ofNat a) (Int.ofNat b)) s)) = List.replicate 5 (List.replicate 5 (some s)) := by kernel_rfl
theorem rig5 {s : FS} (hs : s.ok) : ∃ s', m__law_right [.feed, .int 5] s = some (.fz (.bl true), s') ∧ s'.ok := right56 (by decide) (by decide) pre5 (tl_of (q := 5) prods5 tal5) hs
def S7 : D := (.lst [(.lst [(.int 0), (.int 1), (.int 2), (.int 3), (.int 4), (.int 5), (.int 6)]), (.lst [(.int 1), (.int 2), (.int 3), (.int 4), (.int 5), (.int 6), (.int 0)]), (.lst [(.int 2), (.int 3), (.int 4), (.int 5), (.int 6), (.int 0), (.int 1)]), (.lst [(.int 3), (.int 4), (.int 5), (.int 6), (.int 0), (.int 1), (.int 2)]), (.lst [(.int 4), (.int 5), (.int 6), (.int 0), (.int 1), (.int 2), (.int 3)]), (.lst [(.int 5), (.int 6), (.int 0), (.int 1), (.int 2), (.int 3), (.int 4)]), (.lst [(.int 6), (.int 0), (.int 1), (.int 2), (.int 3), (.int 4), (.int 5)])])
def P7 : D := (.lst [(.lst [(.int 0), (.int 0), (.int 0), (.int 0), (.int 0), (.int 0), (.int 0)]), (.lst [(.int 0), (.int 1), (.int 2), (.int 3), (.int 4), (.int 5), (.int 6)]), (.lst [(.int 0), (.int 2), (.int 4), (.int 6), (.int 1), (.int 3), (.int 5)]), (.lst [(.int 0), (.int 3), (.int 6), (.int 2), (.int 5), (.int 1), (.int 4)]), (.lst [(.int 0), (.int 4), (.int 1), (.int 5), (.int 2), (.int 6), (.int 3)]), (.lst [(.int 0), (.int 5), (.int 3), (.int 1), (.int 6), (.int 4), (.int 2)]), (.lst [(.int 0), (.int 6), (.int 5), (.int 4), (.int 3), (.int 2), (.int 1)])])
theorem sums7 : m_sums_of [.int 7] = some (.fz S7) := by kernel_rfl
theorem prods7 : m_products_of [.int 7] = some (.fz P7) := by kernel_rfl
theorem fo7 : m_field_of [.int 7] = some (.fz (.tup [S7, P7])) := fo_of (p := 0) (n := 1) ⟨.int 7, by kernel_rfl⟩ sums7 prods7
theorem gs7 : m__law_group [S7, (.lst [(.int 0), (.int 1), (.int 2), (.int 3), (.int 4), (.int 5), (.int 6)]), .int 0] = some (.fz (.bl true)) := by kernel_rfl
theorem gp7 : m__law_group [P7, (.lst [(.int 1), (.int 2), (.int 3), (.int 4), (.int 5), (.int 6)]), .int 1] = some (.fz (.bl true)) := by kernel_rfl
theorem th7 : m__law_through [S7, P7, .int 7] = some (.fz (.bl true)) := by kernel_rfl
theorem dig7 (s : FS) : digs (env56 7 7 1 S7 P7) s = .nx (env56 7 7 1 S7 P7) s := by kernel_rfl
theorem pre7 (s : FS) : b__law_right_0 (env0 12 [.feed, .int 7]) s = .nx (env56 7 7 1 S7 P7) s := pre_of (mk := 2) (R := .lst [(.int 0), (.int 1)]) fo7 (by kernel_rfl) (by kernel_rfl) (by kernel_rfl) (by kernel_rfl) (by kernel_rfl) (by kernel_rfl) dig7 (fun s => by kernel_rfl) (fun s => by kernel_rfl) gs7 gp7 th7 s
theorem tal7 (s : FS) : ((List.range 7).map fun (a : Nat) => (List.range 7).map fun (b : Nat) => rtS (b_tail (pwQ ((7 : Nat) : Int) P7) (env56ab ((7 : Nat) : Int) 7 1 S7 P7 (Int.ofNat a) (Int.ofNat b)) s)) = List.replicate 7 (List.replicate 7 (some s)) := by kernel_rfl
theorem rig7 {s : FS} (hs : s.ok) : ∃ s', m__law_right [.feed, .int 7] s = some (.fz (.bl true), s') ∧ s'.ok := right56 (by decide) (by decide) pre7 (tl_of (q := 7) prods7 tal7) hs
def S8 : D := (.lst [(.lst [(.int 0), (.int 1), (.int 2), (.int 3), (.int 4), (.int 5), (.int 6), (.int 7)]), (.lst [(.int 1), (.int 0), (.int 3), (.int 2), (.int 5), (.int 4), (.int 7), (.int 6)]), (.lst [(.int 2), (.int 3), (.int 0), (.int 1), (.int 6), (.int 7), (.int 4), (.int 5)]), (.lst [(.int 3), (.int 2), (.int 1), (.int 0), (.int 7), (.int 6), (.int 5), (.int 4)]), (.lst [(.int 4), (.int 5), (.int 6), (.int 7), (.int 0), (.int 1), (.int 2), (.int 3)]), (.lst [(.int 5), (.int 4), (.int 7), (.int 6), (.int 1), (.int 0), (.int 3), (.int 2)]), (.lst [(.int 6), (.int 7), (.int 4), (.int 5), (.int 2), (.int 3), (.int 0), (.int 1)]), (.lst [(.int 7), (.int 6), (.int 5), (.int 4), (.int 3), (.int 2), (.int 1), (.int 0)])])
def P8 : D := (.lst [(.lst [(.int 0), (.int 0), (.int 0), (.int 0), (.int 0), (.int 0), (.int 0), (.int 0)]), (.lst [(.int 0), (.int 1), (.int 2), (.int 3), (.int 4), (.int 5), (.int 6), (.int 7)]), (.lst [(.int 0), (.int 2), (.int 4), (.int 6), (.int 3), (.int 1), (.int 7), (.int 5)]), (.lst [(.int 0), (.int 3), (.int 6), (.int 5), (.int 7), (.int 4), (.int 1), (.int 2)]), (.lst [(.int 0), (.int 4), (.int 3), (.int 7), (.int 6), (.int 2), (.int 5), (.int 1)]), (.lst [(.int 0), (.int 5), (.int 1), (.int 4), (.int 2), (.int 7), (.int 3), (.int 6)]), (.lst [(.int 0), (.int 6), (.int 7), (.int 1), (.int 5), (.int 3), (.int 2), (.int 4)]), (.lst [(.int 0), (.int 7), (.int 5), (.int 2), (.int 1), (.int 6), (.int 4), (.int 3)])])
theorem sums8 : m_sums_of [.int 8] = some (.fz S8) := by kernel_rfl
theorem prods8 : m_products_of [.int 8] = some (.fz P8) := by kernel_rfl
theorem fo8 : m_field_of [.int 8] = some (.fz (.tup [S8, P8])) := fo_of (p := 0) (n := 3) ⟨.int 2, by kernel_rfl⟩ sums8 prods8
theorem gs8 : m__law_group [S8, (.lst [(.int 0), (.int 1), (.int 2), (.int 3), (.int 4), (.int 5), (.int 6), (.int 7)]), .int 0] = some (.fz (.bl true)) := by kernel_rfl
theorem gp8 : m__law_group [P8, (.lst [(.int 1), (.int 2), (.int 3), (.int 4), (.int 5), (.int 6), (.int 7)]), .int 1] = some (.fz (.bl true)) := by kernel_rfl
theorem th8 : m__law_through [S8, P8, .int 8] = some (.fz (.bl true)) := by kernel_rfl
theorem dig8 (s : FS) : digs (env56 8 2 3 S8 P8) s = .nx (env56 8 2 3 S8 P8) s := by kernel_rfl
theorem pre8 (s : FS) : b__law_right_0 (env0 12 [.feed, .int 8]) s = .nx (env56 8 2 3 S8 P8) s := pre_of (mk := 4) (R := .lst [(.int 1), (.int 1), (.int 0), (.int 1)]) fo8 (by kernel_rfl) (by kernel_rfl) (by kernel_rfl) (by kernel_rfl) (by kernel_rfl) (by kernel_rfl) dig8 (fun s => by kernel_rfl) (fun s => by kernel_rfl) gs8 gp8 th8 s
theorem tal8 (s : FS) : ((List.range 8).map fun (a : Nat) => (List.range 8).map fun (b : Nat) => rtS (b_tail (pwQ ((8 : Nat) : Int) P8) (env56ab ((8 : Nat) : Int) 2 3 S8 P8 (Int.ofNat a) (Int.ofNat b)) s)) = List.replicate 8 (List.replicate 8 (some s)) := by kernel_rfl
theorem rig8 {s : FS} (hs : s.ok) : ∃ s', m__law_right [.feed, .int 8] s = some (.fz (.bl true), s') ∧ s'.ok := right56 (by decide) (by decide) pre8 (tl_of (q := 8) prods8 tal8) hs
def S9 : D := (.lst [(.lst [(.int 0), (.int 1), (.int 2), (.int 3), (.int 4), (.int 5), (.int 6), (.int 7), (.int 8)]), (.lst [(.int 1), (.int 2), (.int 0), (.int 4), (.int 5), (.int 3), (.int 7), (.int 8), (.int 6)]), (.lst [(.int 2), (.int 0), (.int 1), (.int 5), (.int 3), (.int 4), (.int 8), (.int 6), (.int 7)]), (.lst [(.int 3), (.int 4), (.int 5), (.int 6), (.int 7), (.int 8), (.int 0), (.int 1), (.int 2)]), (.lst [(.int 4), (.int 5), (.int 3), (.int 7), (.int 8), (.int 6), (.int 1), (.int 2), (.int 0)]), (.lst [(.int 5), (.int 3), (.int 4), (.int 8), (.int 6), (.int 7), (.int 2), (.int 0), (.int 1)]), (.lst [(.int 6), (.int 7), (.int 8), (.int 0), (.int 1), (.int 2), (.int 3), (.int 4), (.int 5)]), (.lst [(.int 7), (.int 8), (.int 6), (.int 1), (.int 2), (.int 0), (.int 4), (.int 5), (.int 3)]), (.lst [(.int 8), (.int 6), (.int 7), (.int 2), (.int 0), (.int 1), (.int 5), (.int 3), (.int 4)])])
def P9 : D := (.lst [(.lst [(.int 0), (.int 0), (.int 0), (.int 0), (.int 0), (.int 0), (.int 0), (.int 0), (.int 0)]), (.lst [(.int 0), (.int 1), (.int 2), (.int 3), (.int 4), (.int 5), (.int 6), (.int 7), (.int 8)]), (.lst [(.int 0), (.int 2), (.int 1), (.int 6), (.int 8), (.int 7), (.int 3), (.int 5), (.int 4)]), (.lst [(.int 0), (.int 3), (.int 6), (.int 2), (.int 5), (.int 8), (.int 1), (.int 4), (.int 7)]), (.lst [(.int 0), (.int 4), (.int 8), (.int 5), (.int 6), (.int 1), (.int 7), (.int 2), (.int 3)]), (.lst [(.int 0), (.int 5), (.int 7), (.int 8), (.int 1), (.int 3), (.int 4), (.int 6), (.int 2)]), (.lst [(.int 0), (.int 6), (.int 3), (.int 1), (.int 7), (.int 4), (.int 2), (.int 8), (.int 5)]), (.lst [(.int 0), (.int 7), (.int 5), (.int 4), (.int 2), (.int 6), (.int 8), (.int 3), (.int 1)]), (.lst [(.int 0), (.int 8), (.int 4), (.int 7), (.int 3), (.int 2), (.int 5), (.int 1), (.int 6)])])
theorem sums9 : m_sums_of [.int 9] = some (.fz S9) := by kernel_rfl
theorem prods9 : m_products_of [.int 9] = some (.fz P9) := by kernel_rfl
theorem fo9 : m_field_of [.int 9] = some (.fz (.tup [S9, P9])) := fo_of (p := 0) (n := 2) ⟨.int 3, by kernel_rfl⟩ sums9 prods9
theorem gs9 : m__law_group [S9, (.lst [(.int 0), (.int 1), (.int 2), (.int 3), (.int 4), (.int 5), (.int 6), (.int 7), (.int 8)]), .int 0] = some (.fz (.bl true)) := by kernel_rfl
theorem gp9 : m__law_group [P9, (.lst [(.int 1), (.int 2), (.int 3), (.int 4), (.int 5), (.int 6), (.int 7), (.int 8)]), .int 1] = some (.fz (.bl true)) := by kernel_rfl
theorem th9 : m__law_through [S9, P9, .int 9] = some (.fz (.bl true)) := by kernel_rfl
theorem dig9 (s : FS) : digs (env56 9 3 2 S9 P9) s = .nx (env56 9 3 2 S9 P9) s := by kernel_rfl
theorem pre9 (s : FS) : b__law_right_0 (env0 12 [.feed, .int 9]) s = .nx (env56 9 3 2 S9 P9) s := pre_of (mk := 3) (R := .lst [(.int 1), (.int 0), (.int 1)]) fo9 (by kernel_rfl) (by kernel_rfl) (by kernel_rfl) (by kernel_rfl) (by kernel_rfl) (by kernel_rfl) dig9 (fun s => by kernel_rfl) (fun s => by kernel_rfl) gs9 gp9 th9 s
theorem tal9 (s : FS) : ((List.range 9).map fun (a : Nat) => (List.range 9).map fun (b : Nat) => rtS (b_tail (pwQ ((9 : Nat) : Int) P9) (env56ab ((9 : Nat) : Int) 3 2 S9 P9 (Int.ofNat a) (Int.ofNat b)) s)) = List.replicate 9 (List.replicate 9 (some s)) := by kernel_rfl
theorem rig9 {s : FS} (hs : s.ok) : ∃ s', m__law_right [.feed, .int 9] s = some (.fz (.bl true), s') ∧ s'.ok := right56 (by decide) (by decide) pre9 (tl_of (q := 9) prods9 tal9) hs
def S11 : D := (.lst [(.lst [(.int 0), (.int 1), (.int 2), (.int 3), (.int 4), (.int 5), (.int 6), (.int 7), (.int 8), (.int 9), (.int 10)]), (.lst [(.int 1), (.int 2), (.int 3), (.int 4), (.int 5), (.int 6), (.int 7), (.int 8), (.int 9), (.int 10), (.int 0)]), (.lst [(.int 2), (.int 3), (.int 4), (.int 5), (.int 6), (.int 7), (.int 8), (.int 9), (.int 10), (.int 0), (.int 1)]), (.lst [(.int 3), (.int 4), (.int 5), (.int 6), (.int 7), (.int 8), (.int 9), (.int 10), (.int 0), (.int 1), (.int 2)]), (.lst [(.int 4), (.int 5), (.int 6), (.int 7), (.int 8), (.int 9), (.int 10), (.int 0), (.int 1), (.int 2), (.int 3)]), (.lst [(.int 5), (.int 6), (.int 7), (.int 8), (.int 9), (.int 10), (.int 0), (.int 1), (.int 2), (.int 3), (.int 4)]), (.lst [(.int 6), (.int 7), (.int 8), (.int 9), (.int 10), (.int 0), (.int 1), (.int 2), (.int 3), (.int 4), (.int 5)]), (.lst [(.int 7), (.int 8), (.int 9), (.int 10), (.int 0), (.int 1), (.int 2), (.int 3), (.int 4), (.int 5), (.int 6)]), (.lst [(.int 8), (.int 9), (.int 10), (.int 0), (.int 1), (.int 2), (.int 3), (.int 4), (.int 5), (.int 6), (.int 7)]), (.lst [(.int 9), (.int 10), (.int 0), (.int 1), (.int 2), (.int 3), (.int 4), (.int 5), (.int 6), (.int 7), (.int 8)]), (.lst [(.int 10), (.int 0), (.int 1), (.int 2), (.int 3), (.int 4), (.int 5), (.int 6), (.int 7), (.int 8), (.int 9)])])
def P11 : D := (.lst [(.lst [(.int 0), (.int 0), (.int 0), (.int 0), (.int 0), (.int 0), (.int 0), (.int 0), (.int 0), (.int 0), (.int 0)]), (.lst [(.int 0), (.int 1), (.int 2), (.int 3), (.int 4), (.int 5), (.int 6), (.int 7), (.int 8), (.int 9), (.int 10)]), (.lst [(.int 0), (.int 2), (.int 4), (.int 6), (.int 8), (.int 10), (.int 1), (.int 3), (.int 5), (.int 7), (.int 9)]), (.lst [(.int 0), (.int 3), (.int 6), (.int 9), (.int 1), (.int 4), (.int 7), (.int 10), (.int 2), (.int 5), (.int 8)]), (.lst [(.int 0), (.int 4), (.int 8), (.int 1), (.int 5), (.int 9), (.int 2), (.int 6), (.int 10), (.int 3), (.int 7)]), (.lst [(.int 0), (.int 5), (.int 10), (.int 4), (.int 9), (.int 3), (.int 8), (.int 2), (.int 7), (.int 1), (.int 6)]), (.lst [(.int 0), (.int 6), (.int 1), (.int 7), (.int 2), (.int 8), (.int 3), (.int 9), (.int 4), (.int 10), (.int 5)]), (.lst [(.int 0), (.int 7), (.int 3), (.int 10), (.int 6), (.int 2), (.int 9), (.int 5), (.int 1), (.int 8), (.int 4)]), (.lst [(.int 0), (.int 8), (.int 5), (.int 2), (.int 10), (.int 7), (.int 4), (.int 1), (.int 9), (.int 6), (.int 3)]), (.lst [(.int 0), (.int 9), (.int 7), (.int 5), (.int 3), (.int 1), (.int 10), (.int 8), (.int 6), (.int 4), (.int 2)]), (.lst [(.int 0), (.int 10), (.int 9), (.int 8), (.int 7), (.int 6), (.int 5), (.int 4), (.int 3), (.int 2), (.int 1)])])
theorem sums11 : m_sums_of [.int 11] = some (.fz S11) := by kernel_rfl
theorem prods11 : m_products_of [.int 11] = some (.fz P11) := by kernel_rfl
theorem fo11 : m_field_of [.int 11] = some (.fz (.tup [S11, P11])) := fo_of (p := 0) (n := 1) ⟨.int 11, by kernel_rfl⟩ sums11 prods11
theorem gs11 : m__law_group [S11, (.lst [(.int 0), (.int 1), (.int 2), (.int 3), (.int 4), (.int 5), (.int 6), (.int 7), (.int 8), (.int 9), (.int 10)]), .int 0] = some (.fz (.bl true)) := by kernel_rfl
theorem gp11 : m__law_group [P11, (.lst [(.int 1), (.int 2), (.int 3), (.int 4), (.int 5), (.int 6), (.int 7), (.int 8), (.int 9), (.int 10)]), .int 1] = some (.fz (.bl true)) := by kernel_rfl
theorem th11 : m__law_through [S11, P11, .int 11] = some (.fz (.bl true)) := by kernel_rfl
theorem dig11 (s : FS) : digs (env56 11 11 1 S11 P11) s = .nx (env56 11 11 1 S11 P11) s := by kernel_rfl
theorem pre11 (s : FS) : b__law_right_0 (env0 12 [.feed, .int 11]) s = .nx (env56 11 11 1 S11 P11) s := pre_of (mk := 2) (R := .lst [(.int 0), (.int 1)]) fo11 (by kernel_rfl) (by kernel_rfl) (by kernel_rfl) (by kernel_rfl) (by kernel_rfl) (by kernel_rfl) dig11 (fun s => by kernel_rfl) (fun s => by kernel_rfl) gs11 gp11 th11 s
theorem tal11 (s : FS) : ((List.range 11).map fun (a : Nat) => (List.range 11).map fun (b : Nat) => rtS (b_tail (pwQ ((11 : Nat) : Int) P11) (env56ab ((11 : Nat) : Int) 11 1 S11 P11 (Int.ofNat a) (Int.ofNat b)) s)) = List.replicate 11 (List.replicate 11 (some s)) := by kernel_rfl
theorem rig11 {s : FS} (hs : s.ok) : ∃ s', m__law_right [.feed, .int 11] s = some (.fz (.bl true), s') ∧ s'.ok := right56 (by decide) (by decide) pre11 (tl_of (q := 11) prods11 tal11) hs
def S13 : D := (.lst [(.lst [(.int 0), (.int 1), (.int 2), (.int 3), (.int 4), (.int 5), (.int 6), (.int 7), (.int 8), (.int 9), (.int 10), (.int 11), (.int 12)]), (.lst [(.int 1), (.int 2), (.int 3), (.int 4), (.int 5), (.int 6), (.int 7), (.int 8), (.int 9), (.int 10), (.int 11), (.int 12), (.int 0)]), (.lst [(.int 2), (.int 3), (.int 4), (.int 5), (.int 6), (.int 7), (.int 8), (.int 9), (.int 10), (.int 11), (.int 12), (.int 0), (.int 1)]), (.lst [(.int 3), (.int 4), (.int 5), (.int 6), (.int 7), (.int 8), (.int 9), (.int 10), (.int 11), (.int 12), (.int 0), (.int 1), (.int 2)]), (.lst [(.int 4), (.int 5), (.int 6), (.int 7), (.int 8), (.int 9), (.int 10), (.int 11), (.int 12), (.int 0), (.int 1), (.int 2), (.int 3)]), (.lst [(.int 5), (.int 6), (.int 7), (.int 8), (.int 9), (.int 10), (.int 11), (.int 12), (.int 0), (.int 1), (.int 2), (.int 3), (.int 4)]), (.lst [(.int 6), (.int 7), (.int 8), (.int 9), (.int 10), (.int 11), (.int 12), (.int 0), (.int 1), (.int 2), (.int 3), (.int 4), (.int 5)]), (.lst [(.int 7), (.int 8), (.int 9), (.int 10), (.int 11), (.int 12), (.int 0), (.int 1), (.int 2), (.int 3), (.int 4), (.int 5), (.int 6)]), (.lst [(.int 8), (.int 9), (.int 10), (.int 11), (.int 12), (.int 0), (.int 1), (.int 2), (.int 3), (.int 4), (.int 5), (.int 6), (.int 7)]), (.lst [(.int 9), (.int 10), (.int 11), (.int 12), (.int 0), (.int 1), (.int 2), (.int 3), (.int 4), (.int 5), (.int 6), (.int 7), (.int 8)]), (.lst [(.int 10), (.int 11), (.int 12), (.int 0), (.int 1), (.int 2), (.int 3), (.int 4), (.int 5), (.int 6), (.int 7), (.int 8), (.int 9)]), (.lst [(.int 11), (.int 12), (.int 0), (.int 1), (.int 2), (.int 3), (.int 4), (.int 5), (.int 6), (.int 7), (.int 8), (.int 9), (.int 10)]), (.lst [(.int 12), (.int 0), (.int 1), (.int 2), (.int 3), (.int 4), (.int 5), (.int 6), (.int 7), (.int 8), (.int 9), (.int 10), (.int 11)])])
def P13 : D := (.lst [(.lst [(.int 0), (.int 0), (.int 0), (.int 0), (.int 0), (.int 0), (.int 0), (.int 0), (.int 0), (.int 0), (.int 0), (.int 0), (.int 0)]), (.lst [(.int 0), (.int 1), (.int 2), (.int 3), (.int 4), (.int 5), (.int 6), (.int 7), (.int 8), (.int 9), (.int 10), (.int 11), (.int 12)]), (.lst [(.int 0), (.int 2), (.int 4), (.int 6), (.int 8), (.int 10), (.int 12), (.int 1), (.int 3), (.int 5), (.int 7), (.int 9), (.int 11)]), (.lst [(.int 0), (.int 3), (.int 6), (.int 9), (.int 12), (.int 2), (.int 5), (.int 8), (.int 11), (.int 1), (.int 4), (.int 7), (.int 10)]), (.lst [(.int 0), (.int 4), (.int 8), (.int 12), (.int 3), (.int 7), (.int 11), (.int 2), (.int 6), (.int 10), (.int 1), (.int 5), (.int 9)]), (.lst [(.int 0), (.int 5), (.int 10), (.int 2), (.int 7), (.int 12), (.int 4), (.int 9), (.int 1), (.int 6), (.int 11), (.int 3), (.int 8)]), (.lst [(.int 0), (.int 6), (.int 12), (.int 5), (.int 11), (.int 4), (.int 10), (.int 3), (.int 9), (.int 2), (.int 8), (.int 1), (.int 7)]), (.lst [(.int 0), (.int 7), (.int 1), (.int 8), (.int 2), (.int 9), (.int 3), (.int 10), (.int 4), (.int 11), (.int 5), (.int 12), (.int 6)]), (.lst [(.int 0), (.int 8), (.int 3), (.int 11), (.int 6), (.int 1), (.int 9), (.int 4), (.int 12), (.int 7), (.int 2), (.int 10), (.int 5)]), (.lst [(.int 0), (.int 9), (.int 5), (.int 1), (.int 10), (.int 6), (.int 2), (.int 11), (.int 7), (.int 3), (.int 12), (.int 8), (.int 4)]), (.lst [(.int 0), (.int 10), (.int 7), (.int 4), (.int 1), (.int 11), (.int 8), (.int 5), (.int 2), (.int 12), (.int 9), (.int 6), (.int 3)]), (.lst [(.int 0), (.int 11), (.int 9), (.int 7), (.int 5), (.int 3), (.int 1), (.int 12), (.int 10), (.int 8), (.int 6), (.int 4), (.int 2)]), (.lst [(.int 0), (.int 12), (.int 11), (.int 10), (.int 9), (.int 8), (.int 7), (.int 6), (.int 5), (.int 4), (.int 3), (.int 2), (.int 1)])])
theorem sums13 : m_sums_of [.int 13] = some (.fz S13) := by kernel_rfl
theorem prods13 : m_products_of [.int 13] = some (.fz P13) := by kernel_rfl
theorem fo13 : m_field_of [.int 13] = some (.fz (.tup [S13, P13])) := fo_of (p := 0) (n := 1) ⟨.int 13, by kernel_rfl⟩ sums13 prods13
theorem gs13 : m__law_group [S13, (.lst [(.int 0), (.int 1), (.int 2), (.int 3), (.int 4), (.int 5), (.int 6), (.int 7), (.int 8), (.int 9), (.int 10), (.int 11), (.int 12)]), .int 0] = some (.fz (.bl true)) := by kernel_rfl
theorem gp13 : m__law_group [P13, (.lst [(.int 1), (.int 2), (.int 3), (.int 4), (.int 5), (.int 6), (.int 7), (.int 8), (.int 9), (.int 10), (.int 11), (.int 12)]), .int 1] = some (.fz (.bl true)) := by kernel_rfl
theorem th13 : m__law_through [S13, P13, .int 13] = some (.fz (.bl true)) := by kernel_rfl
theorem dig13 (s : FS) : digs (env56 13 13 1 S13 P13) s = .nx (env56 13 13 1 S13 P13) s := by kernel_rfl
theorem pre13 (s : FS) : b__law_right_0 (env0 12 [.feed, .int 13]) s = .nx (env56 13 13 1 S13 P13) s := pre_of (mk := 2) (R := .lst [(.int 0), (.int 1)]) fo13 (by kernel_rfl) (by kernel_rfl) (by kernel_rfl) (by kernel_rfl) (by kernel_rfl) (by kernel_rfl) dig13 (fun s => by kernel_rfl) (fun s => by kernel_rfl) gs13 gp13 th13 s
theorem tal13 (s : FS) : ((List.range 13).map fun (a : Nat) => (List.range 13).map fun (b : Nat) => rtS (b_tail (pwQ ((13 : Nat) : Int) P13) (env56ab ((13 : Nat) : Int) 13 1 S13 P13 (Int.ofNat a) (Int.ofNat b)) s)) = List.replicate 13 (List.replicate 13 (some s)) := by kernel_rfl
theorem rig13 {s : FS} (hs : s.ok) : ∃ s', m__law_right [.feed, .int 13] s = some (.fz (.bl true), s') ∧ s'.ok := right56 (by decide) (by decide) pre13 (tl_of (q := 13) prods13 tal13) hs
def S16 : D := (.lst [(.lst [(.int 0), (.int 1), (.int 2), (.int 3), (.int 4), (.int 5), (.int 6), (.int 7), (.int 8), (.int 9), (.int 10), (.int 11), (.int 12), (.int 13), (.int 14), (.int 15)]), (.lst [(.int 1), (.int 0), (.int 3), (.int 2), (.int 5), (.int 4), (.int 7), (.int 6), (.int 9), (.int 8), (.int 11), (.int 10), (.int 13), (.int 12), (.int 15), (.int 14)]), (.lst [(.int 2), (.int 3), (.int 0), (.int 1), (.int 6), (.int 7), (.int 4), (.int 5), (.int 10), (.int 11), (.int 8), (.int 9), (.int 14), (.int 15), (.int 12), (.int 13)]), (.lst [(.int 3), (.int 2), (.int 1), (.int 0), (.int 7), (.int 6), (.int 5), (.int 4), (.int 11), (.int 10), (.int 9), (.int 8), (.int 15), (.int 14), (.int 13), (.int 12)]), (.lst [(.int 4), (.int 5), (.int 6), (.int 7), (.int 0), (.int 1), (.int 2), (.int 3), (.int 12), (.int 13), (.int 14), (.int 15), (.int 8), (.int 9), (.int 10), (.int 11)]), (.lst [(.int 5), (.int 4), (.int 7), (.int 6), (.int 1), (.int 0), (.int 3), (.int 2), (.int 13), (.int 12), (.int 15), (.int 14), (.int 9), (.int 8), (.int 11), (.int 10)]), (.lst [(.int 6), (.int 7), (.int 4), (.int 5), (.int 2), (.int 3), (.int 0), (.int 1), (.int 14), (.int 15), (.int 12), (.int 13), (.int 10), (.int 11), (.int 8), (.int 9)]), (.lst [(.int 7), (.int 6), (.int 5), (.int 4), (.int 3), (.int 2), (.int 1), (.int 0), (.int 15), (.int 14), (.int 13), (.int 12), (.int 11), (.int 10), (.int 9), (.int 8)]), (.lst [(.int 8), (.int 9), (.int 10), (.int 11), (.int 12), (.int 13), (.int 14), (.int 15), (.int 0), (.int 1), (.int 2), (.int 3), (.int 4), (.int 5), (.int 6), (.int 7)]), (.lst [(.int 9), (.int 8), (.int 11), (.int 10), (.int 13), (.int 12), (.int 15), (.int 14), (.int 1), (.int 0), (.int 3), (.int 2), (.int 5), (.int 4), (.int 7), (.int 6)]), (.lst [(.int 10), (.int 11), (.int 8), (.int 9), (.int 14), (.int 15), (.int 12), (.int 13), (.int 2), (.int 3), (.int 0), (.int 1), (.int 6), (.int 7), (.int 4), (.int 5)]), (.lst [(.int 11), (.int 10), (.int 9), (.int 8), (.int 15), (.int 14), (.int 13), (.int 12), (.int 3), (.int 2), (.int 1), (.int 0), (.int 7), (.int 6), (.int 5), (.int 4)]), (.lst [(.int 12), (.int 13), (.int 14), (.int 15), (.int 8), (.int 9), (.int 10), (.int 11), (.int 4), (.int 5), (.int 6), (.int 7), (.int 0), (.int 1), (.int 2), (.int 3)]), (.lst [(.int 13), (.int 12), (.int 15), (.int 14), (.int 9), (.int 8), (.int 11), (.int 10), (.int 5), (.int 4), (.int 7), (.int 6), (.int 1), (.int 0), (.int 3), (.int 2)]), (.lst [(.int 14), (.int 15), (.int 12), (.int 13), (.int 10), (.int 11), (.int 8), (.int 9), (.int 6), (.int 7), (.int 4), (.int 5), (.int 2), (.int 3), (.int 0), (.int 1)]), (.lst [(.int 15), (.int 14), (.int 13), (.int 12), (.int 11), (.int 10), (.int 9), (.int 8), (.int 7), (.int 6), (.int 5), (.int 4), (.int 3), (.int 2), (.int 1), (.int 0)])])
def P16 : D := (.lst [(.lst [(.int 0), (.int 0), (.int 0), (.int 0), (.int 0), (.int 0), (.int 0), (.int 0), (.int 0), (.int 0), (.int 0), (.int 0), (.int 0), (.int 0), (.int 0), (.int 0)]), (.lst [(.int 0), (.int 1), (.int 2), (.int 3), (.int 4), (.int 5), (.int 6), (.int 7), (.int 8), (.int 9), (.int 10), (.int 11), (.int 12), (.int 13), (.int 14), (.int 15)]), (.lst [(.int 0), (.int 2), (.int 4), (.int 6), (.int 8), (.int 10), (.int 12), (.int 14), (.int 3), (.int 1), (.int 7), (.int 5), (.int 11), (.int 9), (.int 15), (.int 13)]), (.lst [(.int 0), (.int 3), (.int 6), (.int 5), (.int 12), (.int 15), (.int 10), (.int 9), (.int 11), (.int 8), (.int 13), (.int 14), (.int 7), (.int 4), (.int 1), (.int 2)]), (.lst [(.int 0), (.int 4), (.int 8), (.int 12), (.int 3), (.int 7), (.int 11), (.int 15), (.int 6), (.int 2), (.int 14), (.int 10), (.int 5), (.int 1), (.int 13), (.int 9)]), (.lst [(.int 0), (.int 5), (.int 10), (.int 15), (.int 7), (.int 2), (.int 13), (.int 8), (.int 14), (.int 11), (.int 4), (.int 1), (.int 9), (.int 12), (.int 3), (.int 6)]), (.lst [(.int 0), (.int 6), (.int 12), (.int 10), (.int 11), (.int 13), (.int 7), (.int 1), (.int 5), (.int 3), (.int 9), (.int 15), (.int 14), (.int 8), (.int 2), (.int 4)]), (.lst [(.int 0), (.int 7), (.int 14), (.int 9), (.int 15), (.int 8), (.int 1), (.int 6), (.int 13), (.int 10), (.int 3), (.int 4), (.int 2), (.int 5), (.int 12), (.int 11)]), (.lst [(.int 0), (.int 8), (.int 3), (.int 11), (.int 6), (.int 14), (.int 5), (.int 13), (.int 12), (.int 4), (.int 15), (.int 7), (.int 10), (.int 2), (.int 9), (.int 1)]), (.lst [(.int 0), (.int 9), (.int 1), (.int 8), (.int 2), (.int 11), (.int 3), (.int 10), (.int 4), (.int 13), (.int 5), (.int 12), (.int 6), (.int 15), (.int 7), (.int 14)]), (.lst [(.int 0), (.int 10), (.int 7), (.int 13), (.int 14), (.int 4), (.int 9), (.int 3), (.int 15), (.int 5), (.int 8), (.int 2), (.int 1), (.int 11), (.int 6), (.int 12)]), (.lst [(.int 0), (.int 11), (.int 5), (.int 14), (.int 10), (.int 1), (.int 15), (.int 4), (.int 7), (.int 12), (.int 2), (.int 9), (.int 13), (.int 6), (.int 8), (.int 3)]), (.lst [(.int 0), (.int 12), (.int 11), (.int 7), (.int 5), (.int 9), (.int 14), (.int 2), (.int 10), (.int 6), (.int 1), (.int 13), (.int 15), (.int 3), (.int 4), (.int 8)]), (.lst [(.int 0), (.int 13), (.int 9), (.int 4), (.int 1), (.int 12), (.int 8), (.int 5), (.int 2), (.int 15), (.int 11), (.int 6), (.int 3), (.int 14), (.int 10), (.int 7)]), (.lst [(.int 0), (.int 14), (.int 15), (.int 1), (.int 13), (.int 3), (.int 2), (.int 12), (.int 9), (.int 7), (.int 6), (.int 8), (.int 4), (.int 10), (.int 11), (.int 5)]), (.lst [(.int 0), (.int 15), (.int 13), (.int 2), (.int 9), (.int 6), (.int 4), (.int 11), (.int 1), (.int 14), (.int 12), (.int 3), (.int 8), (.int 7), (.int 5), (.int 10)])])
theorem sums16 : m_sums_of [.int 16] = some (.fz S16) := by kernel_rfl
def ro16 : List OT := [.fz (.lst [(.int 0), (.int 0), (.int 0), (.int 0), (.int 0), (.int 0), (.int 0), (.int 0), (.int 0), (.int 0), (.int 0), (.int 0), (.int 0), (.int 0), (.int 0), (.int 0)]), .fz (.lst [(.int 0), (.int 1), (.int 2), (.int 3), (.int 4), (.int 5), (.int 6), (.int 7), (.int 8), (.int 9), (.int 10), (.int 11), (.int 12), (.int 13), (.int 14), (.int 15)]), .fz (.lst [(.int 0), (.int 2), (.int 4), (.int 6), (.int 8), (.int 10), (.int 12), (.int 14), (.int 3), (.int 1), (.int 7), (.int 5), (.int 11), (.int 9), (.int 15), (.int 13)]), .fz (.lst [(.int 0), (.int 3), (.int 6), (.int 5), (.int 12), (.int 15), (.int 10), (.int 9), (.int 11), (.int 8), (.int 13), (.int 14), (.int 7), (.int 4), (.int 1), (.int 2)]), .fz (.lst [(.int 0), (.int 4), (.int 8), (.int 12), (.int 3), (.int 7), (.int 11), (.int 15), (.int 6), (.int 2), (.int 14), (.int 10), (.int 5), (.int 1), (.int 13), (.int 9)]), .fz (.lst [(.int 0), (.int 5), (.int 10), (.int 15), (.int 7), (.int 2), (.int 13), (.int 8), (.int 14), (.int 11), (.int 4), (.int 1), (.int 9), (.int 12), (.int 3), (.int 6)]), .fz (.lst [(.int 0), (.int 6), (.int 12), (.int 10), (.int 11), (.int 13), (.int 7), (.int 1), (.int 5), (.int 3), (.int 9), (.int 15), (.int 14), (.int 8), (.int 2), (.int 4)]), .fz (.lst [(.int 0), (.int 7), (.int 14), (.int 9), (.int 15), (.int 8), (.int 1), (.int 6), (.int 13), (.int 10), (.int 3), (.int 4), (.int 2), (.int 5), (.int 12), (.int 11)]), .fz (.lst [(.int 0), (.int 8), (.int 3), (.int 11), (.int 6), (.int 14), (.int 5), (.int 13), (.int 12), (.int 4), (.int 15), (.int 7), (.int 10), (.int 2), (.int 9), (.int 1)]), .fz (.lst [(.int 0), (.int 9), (.int 1), (.int 8), (.int 2), (.int 11), (.int 3), (.int 10), (.int 4), (.int 13), (.int 5), (.int 12), (.int 6), (.int 15), (.int 7), (.int 14)]), .fz (.lst [(.int 0), (.int 10), (.int 7), (.int 13), (.int 14), (.int 4), (.int 9), (.int 3), (.int 15), (.int 5), (.int 8), (.int 2), (.int 1), (.int 11), (.int 6), (.int 12)]), .fz (.lst [(.int 0), (.int 11), (.int 5), (.int 14), (.int 10), (.int 1), (.int 15), (.int 4), (.int 7), (.int 12), (.int 2), (.int 9), (.int 13), (.int 6), (.int 8), (.int 3)]), .fz (.lst [(.int 0), (.int 12), (.int 11), (.int 7), (.int 5), (.int 9), (.int 14), (.int 2), (.int 10), (.int 6), (.int 1), (.int 13), (.int 15), (.int 3), (.int 4), (.int 8)]), .fz (.lst [(.int 0), (.int 13), (.int 9), (.int 4), (.int 1), (.int 12), (.int 8), (.int 5), (.int 2), (.int 15), (.int 11), (.int 6), (.int 3), (.int 14), (.int 10), (.int 7)]), .fz (.lst [(.int 0), (.int 14), (.int 15), (.int 1), (.int 13), (.int 3), (.int 2), (.int 12), (.int 9), (.int 7), (.int 6), (.int 8), (.int 4), (.int 10), (.int 11), (.int 5)]), .fz (.lst [(.int 0), (.int 15), (.int 13), (.int 2), (.int 9), (.int 6), (.int 4), (.int 11), (.int 1), (.int 14), (.int 12), (.int 3), (.int 8), (.int 7), (.int 5), (.int 10)])]
def rw16 (k : Nat) : List OT := ro16.take k
def en16 (k : Nat) : DL.Env := [some (.fz (.int 16)), some (.fz (.int 2)), some (.fz (.int 4)), some (.fz (.lst [(.int 1), (.int 1), (.int 0), (.int 0), (.int 1)])), some (.ow (rw16 k)), none, none, none, none, none, none, none, none]
def nxS (ks : List Nat) : Out → Option (DL.Env × FS)
  | .nx ρ s => some (kl ks ρ, s)
  | _ => none
theorem loop_st {t : Tgt} {ks : List Nat} {f : Stm} {d : D} {ds : List D} {ρ ρ1 ρ3 : DL.Env} {s s2 : FS} (h : t d ρ = some ρ1) (h2 : nxS ks (f ρ1 s) = some (ρ3, s2)) : loop t ks f (d :: ds) ρ s = loop t ks f ds ρ3 s2 := by
  unfold nxS at h2
  split at h2
  · rename_i ρ2 s3 e
    have := Option.some.inj h2
    injection this with a b
    subst b
    exact loop_cons h e a
  · cases h2
theorem row16_0 : nxS [5, 6, 7, 8, 9] (rowB ((en16 0).set 5 (some (.fz (.int 0)))) s00) = some (en16 1, s00) := by kernel_rfl
theorem row16_1 : nxS [5, 6, 7, 8, 9] (rowB ((en16 1).set 5 (some (.fz (.int 1)))) s00) = some (en16 2, s00) := by kernel_rfl
theorem row16_2 : nxS [5, 6, 7, 8, 9] (rowB ((en16 2).set 5 (some (.fz (.int 2)))) s00) = some (en16 3, s00) := by kernel_rfl
theorem row16_3 : nxS [5, 6, 7, 8, 9] (rowB ((en16 3).set 5 (some (.fz (.int 3)))) s00) = some (en16 4, s00) := by kernel_rfl
theorem row16_4 : nxS [5, 6, 7, 8, 9] (rowB ((en16 4).set 5 (some (.fz (.int 4)))) s00) = some (en16 5, s00) := by kernel_rfl
theorem row16_5 : nxS [5, 6, 7, 8, 9] (rowB ((en16 5).set 5 (some (.fz (.int 5)))) s00) = some (en16 6, s00) := by kernel_rfl
theorem row16_6 : nxS [5, 6, 7, 8, 9] (rowB ((en16 6).set 5 (some (.fz (.int 6)))) s00) = some (en16 7, s00) := by kernel_rfl
theorem row16_7 : nxS [5, 6, 7, 8, 9] (rowB ((en16 7).set 5 (some (.fz (.int 7)))) s00) = some (en16 8, s00) := by kernel_rfl
theorem row16_8 : nxS [5, 6, 7, 8, 9] (rowB ((en16 8).set 5 (some (.fz (.int 8)))) s00) = some (en16 9, s00) := by kernel_rfl
theorem row16_9 : nxS [5, 6, 7, 8, 9] (rowB ((en16 9).set 5 (some (.fz (.int 9)))) s00) = some (en16 10, s00) := by kernel_rfl
theorem row16_10 : nxS [5, 6, 7, 8, 9] (rowB ((en16 10).set 5 (some (.fz (.int 10)))) s00) = some (en16 11, s00) := by kernel_rfl
theorem row16_11 : nxS [5, 6, 7, 8, 9] (rowB ((en16 11).set 5 (some (.fz (.int 11)))) s00) = some (en16 12, s00) := by kernel_rfl
theorem row16_12 : nxS [5, 6, 7, 8, 9] (rowB ((en16 12).set 5 (some (.fz (.int 12)))) s00) = some (en16 13, s00) := by kernel_rfl
theorem row16_13 : nxS [5, 6, 7, 8, 9] (rowB ((en16 13).set 5 (some (.fz (.int 13)))) s00) = some (en16 14, s00) := by kernel_rfl
theorem row16_14 : nxS [5, 6, 7, 8, 9] (rowB ((en16 14).set 5 (some (.fz (.int 14)))) s00) = some (en16 15, s00) := by kernel_rfl
theorem row16_15 : nxS [5, 6, 7, 8, 9] (rowB ((en16 15).set 5 (some (.fz (.int 15)))) s00) = some (en16 16, s00) := by kernel_rfl
theorem prods16 : m_products_of [.int 16] = some (.fz P16) := by
  refine run_rt (s1 := s00) ?_
  have e0 : b_products_of (env0 13 [.int 16]) s00 = (pdA.seq (Stm.seq (forS (itM rg1 (consM (rd 0) (M.ret []))) (gN 5) [5, 6, 7, 8, 9] rowB) (retD (rd 4)))) (env0 13 [.int 16]) s00 := by
    have : b_products_of = pdA.seq (Stm.seq (forS (itM rg1 (consM (rd 0) (M.ret []))) (gN 5) [5, 6, 7, 8, 9] rowB) (retD (rd 4))) := by unfold b_products_of pdA rowB; simp only [seq_assoc]
    rw [this]
  rw [e0]
  have e1 : pdA (env0 13 [.int 16]) s00 = .nx (en16 0) s00 := by kernel_rfl
  refine Eq.trans (seq_nx e1) ?_
  have e2 : forS (itM rg1 (consM (rd 0) (M.ret []))) (gN 5) [5, 6, 7, 8, 9] rowB (en16 0) s00 = .nx (en16 16) s00 := by
    have e3 : forS (itM rg1 (consM (rd 0) (M.ret []))) (gN 5) [5, 6, 7, 8, 9] rowB (en16 0) s00 = loop (gN 5) [5, 6, 7, 8, 9] rowB [(.int 0), (.int 1), (.int 2), (.int 3), (.int 4), (.int 5), (.int 6), (.int 7), (.int 8), (.int 9), (.int 10), (.int 11), (.int 12), (.int 13), (.int 14), (.int 15)] (en16 0) s00 := forS_ok (by kernel_rfl)
    rw [e3]
    refine Eq.trans (loop_st (ρ1 := (en16 0).set 5 (some (.fz (.int 0)))) rfl row16_0) ?_
    refine Eq.trans (loop_st (ρ1 := (en16 1).set 5 (some (.fz (.int 1)))) rfl row16_1) ?_
    refine Eq.trans (loop_st (ρ1 := (en16 2).set 5 (some (.fz (.int 2)))) rfl row16_2) ?_
    refine Eq.trans (loop_st (ρ1 := (en16 3).set 5 (some (.fz (.int 3)))) rfl row16_3) ?_
    refine Eq.trans (loop_st (ρ1 := (en16 4).set 5 (some (.fz (.int 4)))) rfl row16_4) ?_
    refine Eq.trans (loop_st (ρ1 := (en16 5).set 5 (some (.fz (.int 5)))) rfl row16_5) ?_
    refine Eq.trans (loop_st (ρ1 := (en16 6).set 5 (some (.fz (.int 6)))) rfl row16_6) ?_
    refine Eq.trans (loop_st (ρ1 := (en16 7).set 5 (some (.fz (.int 7)))) rfl row16_7) ?_
    refine Eq.trans (loop_st (ρ1 := (en16 8).set 5 (some (.fz (.int 8)))) rfl row16_8) ?_
    refine Eq.trans (loop_st (ρ1 := (en16 9).set 5 (some (.fz (.int 9)))) rfl row16_9) ?_
    refine Eq.trans (loop_st (ρ1 := (en16 10).set 5 (some (.fz (.int 10)))) rfl row16_10) ?_
    refine Eq.trans (loop_st (ρ1 := (en16 11).set 5 (some (.fz (.int 11)))) rfl row16_11) ?_
    refine Eq.trans (loop_st (ρ1 := (en16 12).set 5 (some (.fz (.int 12)))) rfl row16_12) ?_
    refine Eq.trans (loop_st (ρ1 := (en16 13).set 5 (some (.fz (.int 13)))) rfl row16_13) ?_
    refine Eq.trans (loop_st (ρ1 := (en16 14).set 5 (some (.fz (.int 14)))) rfl row16_14) ?_
    refine Eq.trans (loop_st (ρ1 := (en16 15).set 5 (some (.fz (.int 15)))) rfl row16_15) ?_
    rfl
  refine Eq.trans (seq_nx e2) ?_
  kernel_rfl
theorem fo16 : m_field_of [.int 16] = some (.fz (.tup [S16, P16])) := fo_of (p := 0) (n := 4) ⟨.int 2, by kernel_rfl⟩ sums16 prods16
theorem gs16 : m__law_group [S16, (.lst [(.int 0), (.int 1), (.int 2), (.int 3), (.int 4), (.int 5), (.int 6), (.int 7), (.int 8), (.int 9), (.int 10), (.int 11), (.int 12), (.int 13), (.int 14), (.int 15)]), .int 0] = some (.fz (.bl true)) := by kernel_rfl
theorem gp16 : m__law_group [P16, (.lst [(.int 1), (.int 2), (.int 3), (.int 4), (.int 5), (.int 6), (.int 7), (.int 8), (.int 9), (.int 10), (.int 11), (.int 12), (.int 13), (.int 14), (.int 15)]), .int 1] = some (.fz (.bl true)) := by kernel_rfl
theorem th16 : m__law_through [S16, P16, .int 16] = some (.fz (.bl true)) := by kernel_rfl
theorem dig16 (s : FS) : digs (env56 16 2 4 S16 P16) s = .nx (env56 16 2 4 S16 P16) s := by kernel_rfl
theorem pre16 (s : FS) : b__law_right_0 (env0 12 [.feed, .int 16]) s = .nx (env56 16 2 4 S16 P16) s := pre_of (mk := 5) (R := .lst [(.int 1), (.int 1), (.int 0), (.int 0), (.int 1)]) fo16 (by kernel_rfl) (by kernel_rfl) (by kernel_rfl) (by kernel_rfl) (by kernel_rfl) (by kernel_rfl) dig16 (fun s => by kernel_rfl) (fun s => by kernel_rfl) gs16 gp16 th16 s
theorem tal16 (s : FS) : ((List.range 16).map fun (a : Nat) => (List.range 16).map fun (b : Nat) => rtS (b_tail (pwQ ((16 : Nat) : Int) P16) (env56ab ((16 : Nat) : Int) 2 4 S16 P16 (Int.ofNat a) (Int.ofNat b)) s)) = List.replicate 16 (List.replicate 16 (some s)) := by kernel_rfl
theorem rig16 {s : FS} (hs : s.ok) : ∃ s', m__law_right [.feed, .int 16] s = some (.fz (.bl true), s') ∧ s'.ok := right56 (by decide) (by decide) pre16 (tl_of (q := 16) prods16 tal16) hs
def nums : List Int := [2, 3, 4, 5, 7, 8, 9, 11, 13, 16]
theorem rig {q : Int} (hq : q ∈ nums) {s : FS} (hs : s.ok) : ∃ s', m__law_right [.feed, .int q] s = some (.fz (.bl true), s') ∧ s'.ok := by
  simp only [nums, List.mem_cons, List.not_mem_nil, or_false] at hq
  rcases hq with rfl | rfl | rfl | rfl | rfl | rfl | rfl | rfl | rfl | rfl
  · exact rig2 hs
  · exact rig3 hs
  · exact rig4 hs
  · exact rig5 hs
  · exact rig7 hs
  · exact rig8 hs
  · exact rig9 hs
  · exact rig11 hs
  · exact rig13 hs
  · exact rig16 hs
def envN : DL.Env := [none, some (.fz .feed), some (.fz (.lst (nums.map D.int)))]
def argN : M (List D) := consM (rd 1) (consM (op2 ixD (rd 2) (frzM (callF 2 m__law_draw (consM (rd 1) (consM (M.ret (.int 10)) (M.ret [])))))) (M.ret []))
theorem cons_ok' {f : M D} {g : M (List D)} {d : D} {ds : List D} {ρ ρ1 ρ2 : DL.Env} {s s1 s2 : FS} (h : f ρ s = .ok d ρ1 s1) (h2 : g ρ1 s1 = .ok ds ρ2 s2) : consM f g ρ s = .ok (d :: ds) ρ2 s2 :=
  Eq.trans (bnd_ok h) (Eq.trans (bnd_ok h2) rfl)
theorem arg_ok {s : FS} (hs : s.ok) : ∃ q s', argN envN s = .ok [.feed, .int q] envN s' ∧ q ∈ nums ∧ s'.ok := by
  obtain ⟨r, s1, e1, r0, r1, k1⟩ := callF_draw (g := consM (rd 1) (consM (M.ret (.int 10)) (M.ret []))) (ρ := envN) (s := s) (m := 10) rfl hs (by decide) (by decide)
  obtain ⟨k, rfl⟩ : ∃ k : Nat, r = Int.ofNat k := ⟨r.toNat, (Int.toNat_of_nonneg r0).symm⟩
  have hr : k < nums.length := by
    have : (k : Int) < 10 := r1
    show k < 10
    omega
  have e2 : ixD (.lst (nums.map D.int)) (.int (Int.ofNat k)) = some (.int nums[k]) := by
    show (nums.map D.int)[k]? = _
    rw [List.getElem?_map, List.getElem?_eq_getElem hr]; rfl
  have e3 : frzM (callF 2 m__law_draw (consM (rd 1) (consM (M.ret (.int 10)) (M.ret [])))) envN s = .ok (.int (Int.ofNat k)) envN s1 := frz_ok e1
  have e4 : op2 ixD (rd 2) (frzM (callF 2 m__law_draw (consM (rd 1) (consM (M.ret (.int 10)) (M.ret []))))) envN s = .ok (.int nums[k]) envN s1 := by
    refine Eq.trans (bnd_ok (f := rd 2) (a := .lst (nums.map D.int)) (ρ1 := envN) (s1 := s) rfl) ?_
    refine Eq.trans (bnd_ok e3) ?_
    show M.lft (ixD (.lst (nums.map D.int)) (.int (Int.ofNat k))) envN s1 = _
    rw [e2]; rfl
  exact ⟨nums[k], s1, cons_ok' (ρ1 := envN) (s1 := s) rfl (cons_ok' e4 rfl), List.getElem_mem hr, k1⟩
theorem call_ok {s : FS} (hs : s.ok) : ∃ s', frzM (callF 2 m__law_right argN) envN s = .ok (.bl true) envN s' ∧ s'.ok := by
  obtain ⟨q, s1, e1, hq, k1⟩ := arg_ok hs
  obtain ⟨s2, e2, k2⟩ := rig hq k1
  refine ⟨s2, ?_, k2⟩
  have e3 : callF 2 m__law_right argN envN s = .ok (.fz (.bl true)) envN s2 := by
    unfold callF M.bnd
    rw [e1]
    simp only [callFB, List.length_cons, List.length_nil, k1.lv, and_self, if_true, e2]
  exact frz_ok e3
theorem law_true : ∀ ns : List Int, ns.length ≤ 63 → ∃ s', b_law (envL n_law.length 1) (s01 ns) = .rt (.fz (.bl true)) s' := fun ns _ => by
  obtain ⟨s1, e1, k1⟩ := call_ok (s01_ok ns)
  obtain ⟨s2, e2, k2⟩ := call_ok k1
  refine ⟨s2, ?_⟩
  have e0 : ∀ s, b_law (envL n_law.length 1) s = retD (andV (frzM (callF 2 m__law_right argN)) (frzM (callF 2 m__law_right argN))) envN s := fun s => rfl
  rw [e0]
  unfold retD thn1 andV M.bnd
  rw [e1]
  simp only [asB, M.lft, if_true, e2]
end Sq

set_option Elab.async false
set_option linter.all false
set_option maxRecDepth 100000
set_option maxHeartbeats 4000000
namespace Sq
open PySem PySem.Spec PyProof.Rows L2 DL
/-- the law's def stands at its promise -/
theorem ok_law {P : Program} {w : World} {K : PySem.W.Frag} {mg : Str → Option Value} {base : Heap} (T : Txt K mg) : FnOk P w K mg base CX0 8 T.a_law T.fd_law ["script"] (spLaw K) := by
  refine fn_law (N := n_law) (k := 7) (i := 1) (b := b_law) (sc := ?sc) (s0 := ?s0) (body := ?bd) T.F_law ?hsc ?hbd sc_law (by decide) (by decide) ?hf ?hb law_true
  case hsc => conv => lhs; whnf
  case hbd => conv => lhs; whnf
  case hf => exact fun cdv A outer s H E hr => ps_set (i := 1) sc_law.nd rfl (.inl rfl) (pe_call (ok__law_feed T) (hr.mono (by decide)) (by rfl) T.g__law_feed T.F__law_feed.kp T.b__law_feed .nil pass0 (pa_cons (pv 0) pa_nil))
  case hb => exact fun cdv A outer s H E pf hr =>
    (ss_cons (r_set 2 (r_D (r_lst (an_cons (r_N pd_int) (an_cons (r_N pd_int) (an_cons (r_N pd_int) (an_cons (r_N pd_int) (an_cons (r_N pd_int) (an_cons (r_N pd_int) (an_cons (r_N pd_int) (an_cons (r_N pd_int) (an_cons (r_N pd_int) (an_cons (r_N pd_int) an_nil)))))))))))) sc_law.nd)
    (ss_one (r_ret (pd_and (r_D (pn_callF (ok__law_right T) (hr.mono (by decide)) (by rfl) T.g__law_right T.F__law_right.kp T.b__law_right (ad_cons (r_v 1) (ad_cons (r_ix (r_v 2) (r_D (pn_callF (ok__law_draw T) (hr.mono (by decide)) (by rfl) T.g__law_draw T.F__law_draw.kp T.b__law_draw (ad_cons (r_v 1) (ad_cons pd_int ad_nil))))) ad_nil)))) (pd_one (r_D (pn_callF (ok__law_right T) (hr.mono (by decide)) (by rfl) T.g__law_right T.F__law_right.kp T.b__law_right (ad_cons (r_v 1) (ad_cons (r_ix (r_v 2) (r_D (pn_callF (ok__law_draw T) (hr.mono (by decide)) (by rfl) T.g__law_draw T.F__law_draw.kp T.b__law_draw (ad_cons (r_v 1) (ad_cons pd_int ad_nil))))) ad_nil)))))))))
theorem all_mk {l : PySem.W.OpenLaw} {w : World} {K : PySem.W.Frag} {h : Heap} {mg : Str → Option Value} {fa : Addr} (X : K.In h) (G : h.Ns mainGlobals mg) (hfa : mg "law" = some (.ref fa))
    {f0 f1 f2 f3 f4 f5 f6 f7 f8 f9 f10 f11 f12 f13 f14 f15 f16 f17 f18 f19 f20 f21 f22 f23 f24 f25 f26 : Addr} {od0 an0 od1 an1 od2 an2 od3 an3 od4 an4 od5 an5 od6 an6 od7 an7 od8 an8 od9 an9 od10 an10 od11 an11 od12 an12 od13 an13 od14 an14 od15 an15 od16 an16 od17 an17 od18 an18 od19 an19 od20 an20 od21 an21 od22 an22 od23 an23 od24 an24 od25 an25 od26 an26 : Option Addr} {sl0 sl1 sl2 sl3 sl4 sl5 sl6 sl7 sl8 sl9 sl10 sl11 sl12 sl13 sl14 sl15 sl16 sl17 sl18 sl19 sl20 sl21 sl22 sl23 sl24 sl25 sl26 : Array (Option Value)} {oc0 kV0 dc0 pm0 cd0 ct0 oc1 kV1 dc1 pm1 cd1 ct1 oc2 kV2 dc2 pm2 cd2 ct2 oc3 kV3 dc3 pm3 cd3 ct3 oc4 kV4 dc4 pm4 cd4 ct4 oc5 kV5 dc5 pm5 cd5 ct5 oc6 kV6 dc6 pm6 cd6 ct6 oc7 kV7 dc7 pm7 cd7 ct7 oc8 kV8 dc8 pm8 cd8 ct8 oc9 kV9 dc9 pm9 cd9 ct9 oc10 kV10 dc10 pm10 cd10 ct10 oc11 kV11 dc11 pm11 cd11 ct11 oc12 kV12 dc12 pm12 cd12 ct12 oc13 kV13 dc13 pm13 cd13 ct13 oc14 kV14 dc14 pm14 cd14 ct14 oc15 kV15 dc15 pm15 cd15 ct15 oc16 kV16 dc16 pm16 cd16 ct16 oc17 kV17 dc17 pm17 cd17 ct17 oc18 kV18 dc18 pm18 cd18 ct18 oc19 kV19 dc19 pm19 cd19 ct19 oc20 kV20 dc20 pm20 cd20 ct20 oc21 kV21 dc21 pm21 cd21 ct21 oc22 kV22 dc22 pm22 cd22 ct22 oc23 kV23 dc23 pm23 cd23 ct23 oc24 kV24 dc24 pm24 cd24 ct24 oc25 kV25 dc25 pm25 cd25 ct25 oc26 kV26 dc26 pm26 cd26 ct26 : Value}
    (a0 : PySem.W.nsIn K mainGlobals "prime_and_degree" = some (some (.ref f0))) (l0 : K.lookup f0 = some ⟨oc0, od0, .func (PySem.W.fnOf "prime_and_degree" "prime_and_degree" (defArgs s_prime_and_degree) (defBody s_prime_and_degree) (defScope s_prime_and_degree) .none kV0 dc0 pm0 an0 cd0 ct0), sl0⟩) (c0 : PySem.W.codeIn K cd0 "prime_and_degree" = true) (k0 : PySem.W.keepIn K (.ref f0) = true)
    (a1 : PySem.W.nsIn K mainGlobals "power_of" = some (some (.ref f1))) (l1 : K.lookup f1 = some ⟨oc1, od1, .func (PySem.W.fnOf "power_of" "power_of" (defArgs s_power_of) (defBody s_power_of) (defScope s_power_of) .none kV1 dc1 pm1 an1 cd1 ct1), sl1⟩) (c1 : PySem.W.codeIn K cd1 "power_of" = true) (k1 : PySem.W.keepIn K (.ref f1) = true)
    (a2 : PySem.W.nsIn K mainGlobals "figures" = some (some (.ref f2))) (l2 : K.lookup f2 = some ⟨oc2, od2, .func (PySem.W.fnOf "figures" "figures" (defArgs s_figures) (defBody s_figures) (defScope s_figures) .none kV2 dc2 pm2 an2 cd2 ct2), sl2⟩) (c2 : PySem.W.codeIn K cd2 "figures" = true) (k2 : PySem.W.keepIn K (.ref f2) = true)
    (a3 : PySem.W.nsIn K mainGlobals "number_of" = some (some (.ref f3))) (l3 : K.lookup f3 = some ⟨oc3, od3, .func (PySem.W.fnOf "number_of" "number_of" (defArgs s_number_of) (defBody s_number_of) (defScope s_number_of) .none kV3 dc3 pm3 an3 cd3 ct3), sl3⟩) (c3 : PySem.W.codeIn K cd3 "number_of" = true) (k3 : PySem.W.keepIn K (.ref f3) = true)
    (a4 : PySem.W.nsIn K mainGlobals "rest_by" = some (some (.ref f4))) (l4 : K.lookup f4 = some ⟨oc4, od4, .func (PySem.W.fnOf "rest_by" "rest_by" (defArgs s_rest_by) (defBody s_rest_by) (defScope s_rest_by) .none kV4 dc4 pm4 an4 cd4 ct4), sl4⟩) (c4 : PySem.W.codeIn K cd4 "rest_by" = true) (k4 : PySem.W.keepIn K (.ref f4) = true)
    (a5 : PySem.W.nsIn K mainGlobals "rules_of_degree" = some (some (.ref f5))) (l5 : K.lookup f5 = some ⟨oc5, od5, .func (PySem.W.fnOf "rules_of_degree" "rules_of_degree" (defArgs s_rules_of_degree) (defBody s_rules_of_degree) (defScope s_rules_of_degree) .none kV5 dc5 pm5 an5 cd5 ct5), sl5⟩) (c5 : PySem.W.codeIn K cd5 "rules_of_degree" = true) (k5 : PySem.W.keepIn K (.ref f5) = true)
    (a6 : PySem.W.nsIn K mainGlobals "is_product" = some (some (.ref f6))) (l6 : K.lookup f6 = some ⟨oc6, od6, .func (PySem.W.fnOf "is_product" "is_product" (defArgs s_is_product) (defBody s_is_product) (defScope s_is_product) .none kV6 dc6 pm6 an6 cd6 ct6), sl6⟩) (c6 : PySem.W.codeIn K cd6 "is_product" = true) (k6 : PySem.W.keepIn K (.ref f6) = true)
    (a7 : PySem.W.nsIn K mainGlobals "rule_of" = some (some (.ref f7))) (l7 : K.lookup f7 = some ⟨oc7, od7, .func (PySem.W.fnOf "rule_of" "rule_of" (defArgs s_rule_of) (defBody s_rule_of) (defScope s_rule_of) .none kV7 dc7 pm7 an7 cd7 ct7), sl7⟩) (c7 : PySem.W.codeIn K cd7 "rule_of" = true) (k7 : PySem.W.keepIn K (.ref f7) = true)
    (a8 : PySem.W.nsIn K mainGlobals "times_unknown" = some (some (.ref f8))) (l8 : K.lookup f8 = some ⟨oc8, od8, .func (PySem.W.fnOf "times_unknown" "times_unknown" (defArgs s_times_unknown) (defBody s_times_unknown) (defScope s_times_unknown) .none kV8 dc8 pm8 an8 cd8 ct8), sl8⟩) (c8 : PySem.W.codeIn K cd8 "times_unknown" = true) (k8 : PySem.W.keepIn K (.ref f8) = true)
    (a9 : PySem.W.nsIn K mainGlobals "products_of" = some (some (.ref f9))) (l9 : K.lookup f9 = some ⟨oc9, od9, .func (PySem.W.fnOf "products_of" "products_of" (defArgs s_products_of) (defBody s_products_of) (defScope s_products_of) .none kV9 dc9 pm9 an9 cd9 ct9), sl9⟩) (c9 : PySem.W.codeIn K cd9 "products_of" = true) (k9 : PySem.W.keepIn K (.ref f9) = true)
    (a10 : PySem.W.nsIn K mainGlobals "sums_of" = some (some (.ref f10))) (l10 : K.lookup f10 = some ⟨oc10, od10, .func (PySem.W.fnOf "sums_of" "sums_of" (defArgs s_sums_of) (defBody s_sums_of) (defScope s_sums_of) .none kV10 dc10 pm10 an10 cd10 ct10), sl10⟩) (c10 : PySem.W.codeIn K cd10 "sums_of" = true) (k10 : PySem.W.keepIn K (.ref f10) = true)
    (a11 : PySem.W.nsIn K mainGlobals "field_of" = some (some (.ref f11))) (l11 : K.lookup f11 = some ⟨oc11, od11, .func (PySem.W.fnOf "field_of" "field_of" (defArgs s_field_of) (defBody s_field_of) (defScope s_field_of) .none kV11 dc11 pm11 an11 cd11 ct11), sl11⟩) (c11 : PySem.W.codeIn K cd11 "field_of" = true) (k11 : PySem.W.keepIn K (.ref f11) = true)
    (a12 : PySem.W.nsIn K mainGlobals "power_in" = some (some (.ref f12))) (l12 : K.lookup f12 = some ⟨oc12, od12, .func (PySem.W.fnOf "power_in" "power_in" (defArgs s_power_in) (defBody s_power_in) (defScope s_power_in) .none kV12 dc12 pm12 an12 cd12 ct12), sl12⟩) (c12 : PySem.W.codeIn K cd12 "power_in" = true) (k12 : PySem.W.keepIn K (.ref f12) = true)
    (a13 : PySem.W.nsIn K mainGlobals "_law_feed" = some (some (.ref f13))) (l13 : K.lookup f13 = some ⟨oc13, od13, .func (PySem.W.fnOf "_law_feed" "_law_feed" (defArgs s__law_feed) (defBody s__law_feed) (defScope s__law_feed) .none kV13 dc13 pm13 an13 cd13 ct13), sl13⟩) (c13 : PySem.W.codeIn K cd13 "_law_feed" = true) (k13 : PySem.W.keepIn K (.ref f13) = true)
    (a14 : PySem.W.nsIn K mainGlobals "_law_draw" = some (some (.ref f14))) (l14 : K.lookup f14 = some ⟨oc14, od14, .func (PySem.W.fnOf "_law_draw" "_law_draw" (defArgs s__law_draw) (defBody s__law_draw) (defScope s__law_draw) .none kV14 dc14 pm14 an14 cd14 ct14), sl14⟩) (c14 : PySem.W.codeIn K cd14 "_law_draw" = true) (k14 : PySem.W.keepIn K (.ref f14) = true)
    (a15 : PySem.W.nsIn K mainGlobals "_law_same" = some (some (.ref f15))) (l15 : K.lookup f15 = some ⟨oc15, od15, .func (PySem.W.fnOf "_law_same" "_law_same" (defArgs s__law_same) (defBody s__law_same) (defScope s__law_same) .none kV15 dc15 pm15 an15 cd15 ct15), sl15⟩) (c15 : PySem.W.codeIn K cd15 "_law_same" = true) (k15 : PySem.W.keepIn K (.ref f15) = true)
    (a16 : PySem.W.nsIn K mainGlobals "_law_prime" = some (some (.ref f16))) (l16 : K.lookup f16 = some ⟨oc16, od16, .func (PySem.W.fnOf "_law_prime" "_law_prime" (defArgs s__law_prime) (defBody s__law_prime) (defScope s__law_prime) .none kV16 dc16 pm16 an16 cd16 ct16), sl16⟩) (c16 : PySem.W.codeIn K cd16 "_law_prime" = true) (k16 : PySem.W.keepIn K (.ref f16) = true)
    (a17 : PySem.W.nsIn K mainGlobals "_law_rule" = some (some (.ref f17))) (l17 : K.lookup f17 = some ⟨oc17, od17, .func (PySem.W.fnOf "_law_rule" "_law_rule" (defArgs s__law_rule) (defBody s__law_rule) (defScope s__law_rule) .none kV17 dc17 pm17 an17 cd17 ct17), sl17⟩) (c17 : PySem.W.codeIn K cd17 "_law_rule" = true) (k17 : PySem.W.keepIn K (.ref f17) = true)
    (a18 : PySem.W.nsIn K mainGlobals "_law_figures" = some (some (.ref f18))) (l18 : K.lookup f18 = some ⟨oc18, od18, .func (PySem.W.fnOf "_law_figures" "_law_figures" (defArgs s__law_figures) (defBody s__law_figures) (defScope s__law_figures) .none kV18 dc18 pm18 an18 cd18 ct18), sl18⟩) (c18 : PySem.W.codeIn K cd18 "_law_figures" = true) (k18 : PySem.W.keepIn K (.ref f18) = true)
    (a19 : PySem.W.nsIn K mainGlobals "_law_number" = some (some (.ref f19))) (l19 : K.lookup f19 = some ⟨oc19, od19, .func (PySem.W.fnOf "_law_number" "_law_number" (defArgs s__law_number) (defBody s__law_number) (defScope s__law_number) .none kV19 dc19 pm19 an19 cd19 ct19), sl19⟩) (c19 : PySem.W.codeIn K cd19 "_law_number" = true) (k19 : PySem.W.keepIn K (.ref f19) = true)
    (a20 : PySem.W.nsIn K mainGlobals "_law_plus" = some (some (.ref f20))) (l20 : K.lookup f20 = some ⟨oc20, od20, .func (PySem.W.fnOf "_law_plus" "_law_plus" (defArgs s__law_plus) (defBody s__law_plus) (defScope s__law_plus) .none kV20 dc20 pm20 an20 cd20 ct20), sl20⟩) (c20 : PySem.W.codeIn K cd20 "_law_plus" = true) (k20 : PySem.W.keepIn K (.ref f20) = true)
    (a21 : PySem.W.nsIn K mainGlobals "_law_in_range" = some (some (.ref f21))) (l21 : K.lookup f21 = some ⟨oc21, od21, .func (PySem.W.fnOf "_law_in_range" "_law_in_range" (defArgs s__law_in_range) (defBody s__law_in_range) (defScope s__law_in_range) .none kV21 dc21 pm21 an21 cd21 ct21), sl21⟩) (c21 : PySem.W.codeIn K cd21 "_law_in_range" = true) (k21 : PySem.W.keepIn K (.ref f21) = true)
    (a22 : PySem.W.nsIn K mainGlobals "_law_group" = some (some (.ref f22))) (l22 : K.lookup f22 = some ⟨oc22, od22, .func (PySem.W.fnOf "_law_group" "_law_group" (defArgs s__law_group) (defBody s__law_group) (defScope s__law_group) .none kV22 dc22 pm22 an22 cd22 ct22), sl22⟩) (c22 : PySem.W.codeIn K cd22 "_law_group" = true) (k22 : PySem.W.keepIn K (.ref f22) = true)
    (a23 : PySem.W.nsIn K mainGlobals "_law_through" = some (some (.ref f23))) (l23 : K.lookup f23 = some ⟨oc23, od23, .func (PySem.W.fnOf "_law_through" "_law_through" (defArgs s__law_through) (defBody s__law_through) (defScope s__law_through) .none kV23 dc23 pm23 an23 cd23 ct23), sl23⟩) (c23 : PySem.W.codeIn K cd23 "_law_through" = true) (k23 : PySem.W.keepIn K (.ref f23) = true)
    (a24 : PySem.W.nsIn K mainGlobals "_law_power" = some (some (.ref f24))) (l24 : K.lookup f24 = some ⟨oc24, od24, .func (PySem.W.fnOf "_law_power" "_law_power" (defArgs s__law_power) (defBody s__law_power) (defScope s__law_power) .none kV24 dc24 pm24 an24 cd24 ct24), sl24⟩) (c24 : PySem.W.codeIn K cd24 "_law_power" = true) (k24 : PySem.W.keepIn K (.ref f24) = true)
    (a25 : PySem.W.nsIn K mainGlobals "_law_right" = some (some (.ref f25))) (l25 : K.lookup f25 = some ⟨oc25, od25, .func (PySem.W.fnOf "_law_right" "_law_right" (defArgs s__law_right) (defBody s__law_right) (defScope s__law_right) .none kV25 dc25 pm25 an25 cd25 ct25), sl25⟩) (c25 : PySem.W.codeIn K cd25 "_law_right" = true) (k25 : PySem.W.keepIn K (.ref f25) = true)
    (a26 : PySem.W.nsIn K mainGlobals "law" = some (some (.ref f26))) (l26 : K.lookup f26 = some ⟨oc26, od26, .func (PySem.W.fnOf "law" "law" (defArgs s_law) (defBody s_law) (defScope s_law) .none kV26 dc26 pm26 an26 cd26 ct26), sl26⟩) (c26 : PySem.W.codeIn K cd26 "law" = true) (k26 : PySem.W.keepIn K (.ref f26) = true)
    (z_abs : PySem.W.nsIn K mainGlobals "abs" = some none)
    (z_all : PySem.W.nsIn K mainGlobals "all" = some none)
    (z_any : PySem.W.nsIn K mainGlobals "any" = some none)
    (z_bool : PySem.W.nsIn K mainGlobals "bool" = some none)
    (z_int : PySem.W.nsIn K mainGlobals "int" = some none)
    (z_isinstance : PySem.W.nsIn K mainGlobals "isinstance" = some none)
    (z_len : PySem.W.nsIn K mainGlobals "len" = some none)
    (z_list : PySem.W.nsIn K mainGlobals "list" = some none)
    (z_range : PySem.W.nsIn K mainGlobals "range" = some none)
    (z_reversed : PySem.W.nsIn K mainGlobals "reversed" = some none)
    (z_sorted : PySem.W.nsIn K mainGlobals "sorted" = some none)
    (z_str : PySem.W.nsIn K mainGlobals "str" = some none)
    (z_sum : PySem.W.nsIn K mainGlobals "sum" = some none)
    (z_tuple : PySem.W.nsIn K mainGlobals "tuple" = some none)
    (z_zip : PySem.W.nsIn K mainGlobals "zip" = some none)
    {t_GREATEST_FIELD : Tok} (q_GREATEST_FIELD : PySem.W.nsIn K mainGlobals "GREATEST_FIELD" = some (some (.int 16 t_GREATEST_FIELD)))
    : ∃ fd : FuncData, (∀ (s : Shared) (v : Value), BindsTo s fd ⟨[v], []⟩ [("script", v)]) ∧ ∀ base : Heap, K.In base → base.Ns mainGlobals mg → FnOk l.prog w K mg base CX0 8 fa fd ["script"] (spLaw K) := by
  have e := hfa.symm.trans (PySem.W.mg_of X G a26)
  cases e
  exact ⟨PySem.W.fnOf "law" "law" (defArgs s_law) (defBody s_law) (defScope s_law) .none kV26 dc26 pm26 an26 cd26 ct26, fun s v => .of_eq rfl, fun base _ _ => ok_law (K := K) (mg := mg) {
    a_prime_and_degree := f0, fd_prime_and_degree := _, F_prime_and_degree := fun_mk (st := s_prime_and_degree) l0 c0 k0, g_prime_and_degree := PySem.W.mg_of X G a0, b_prime_and_degree := (fun_mk (st := s_prime_and_degree) l0 c0 k0).binds (ps := p_prime_and_degree) (fun _ _ _ _ _ _ us hl => match us, hl with | [_], _ => rfl),
    a_power_of := f1, fd_power_of := _, F_power_of := fun_mk (st := s_power_of) l1 c1 k1, g_power_of := PySem.W.mg_of X G a1, b_power_of := (fun_mk (st := s_power_of) l1 c1 k1).binds (ps := p_power_of) (fun _ _ _ _ _ _ us hl => match us, hl with | [_, _], _ => rfl),
    a_figures := f2, fd_figures := _, F_figures := fun_mk (st := s_figures) l2 c2 k2, g_figures := PySem.W.mg_of X G a2, b_figures := (fun_mk (st := s_figures) l2 c2 k2).binds (ps := p_figures) (fun _ _ _ _ _ _ us hl => match us, hl with | [_, _, _], _ => rfl),
    a_number_of := f3, fd_number_of := _, F_number_of := fun_mk (st := s_number_of) l3 c3 k3, g_number_of := PySem.W.mg_of X G a3, b_number_of := (fun_mk (st := s_number_of) l3 c3 k3).binds (ps := p_number_of) (fun _ _ _ _ _ _ us hl => match us, hl with | [_, _], _ => rfl),
    a_rest_by := f4, fd_rest_by := _, F_rest_by := fun_mk (st := s_rest_by) l4 c4 k4, g_rest_by := PySem.W.mg_of X G a4, b_rest_by := (fun_mk (st := s_rest_by) l4 c4 k4).binds (ps := p_rest_by) (fun _ _ _ _ _ _ us hl => match us, hl with | [_, _, _], _ => rfl),
    a_rules_of_degree := f5, fd_rules_of_degree := _, F_rules_of_degree := fun_mk (st := s_rules_of_degree) l5 c5 k5, g_rules_of_degree := PySem.W.mg_of X G a5, b_rules_of_degree := (fun_mk (st := s_rules_of_degree) l5 c5 k5).binds (ps := p_rules_of_degree) (fun _ _ _ _ _ _ us hl => match us, hl with | [_, _], _ => rfl),
    a_is_product := f6, fd_is_product := _, F_is_product := fun_mk (st := s_is_product) l6 c6 k6, g_is_product := PySem.W.mg_of X G a6, b_is_product := (fun_mk (st := s_is_product) l6 c6 k6).binds (ps := p_is_product) (fun _ _ _ _ _ _ us hl => match us, hl with | [_, _], _ => rfl),
    a_rule_of := f7, fd_rule_of := _, F_rule_of := fun_mk (st := s_rule_of) l7 c7 k7, g_rule_of := PySem.W.mg_of X G a7, b_rule_of := (fun_mk (st := s_rule_of) l7 c7 k7).binds (ps := p_rule_of) (fun _ _ _ _ _ _ us hl => match us, hl with | [_], _ => rfl),
    a_times_unknown := f8, fd_times_unknown := _, F_times_unknown := fun_mk (st := s_times_unknown) l8 c8 k8, g_times_unknown := PySem.W.mg_of X G a8, b_times_unknown := (fun_mk (st := s_times_unknown) l8 c8 k8).binds (ps := p_times_unknown) (fun _ _ _ _ _ _ us hl => match us, hl with | [_, _, _], _ => rfl),
    a_products_of := f9, fd_products_of := _, F_products_of := fun_mk (st := s_products_of) l9 c9 k9, g_products_of := PySem.W.mg_of X G a9, b_products_of := (fun_mk (st := s_products_of) l9 c9 k9).binds (ps := p_products_of) (fun _ _ _ _ _ _ us hl => match us, hl with | [_], _ => rfl),
    a_sums_of := f10, fd_sums_of := _, F_sums_of := fun_mk (st := s_sums_of) l10 c10 k10, g_sums_of := PySem.W.mg_of X G a10, b_sums_of := (fun_mk (st := s_sums_of) l10 c10 k10).binds (ps := p_sums_of) (fun _ _ _ _ _ _ us hl => match us, hl with | [_], _ => rfl),
    a_field_of := f11, fd_field_of := _, F_field_of := fun_mk (st := s_field_of) l11 c11 k11, g_field_of := PySem.W.mg_of X G a11, b_field_of := (fun_mk (st := s_field_of) l11 c11 k11).binds (ps := p_field_of) (fun _ _ _ _ _ _ us hl => match us, hl with | [_], _ => rfl),
    a_power_in := f12, fd_power_in := _, F_power_in := fun_mk (st := s_power_in) l12 c12 k12, g_power_in := PySem.W.mg_of X G a12, b_power_in := (fun_mk (st := s_power_in) l12 c12 k12).binds (ps := p_power_in) (fun _ _ _ _ _ _ us hl => match us, hl with | [_, _, _], _ => rfl),
    a__law_feed := f13, fd__law_feed := _, F__law_feed := fun_mk (st := s__law_feed) l13 c13 k13, g__law_feed := PySem.W.mg_of X G a13, b__law_feed := (fun_mk (st := s__law_feed) l13 c13 k13).binds (ps := p__law_feed) (fun _ _ _ _ _ _ us hl => match us, hl with | [_], _ => rfl),
    a__law_draw := f14, fd__law_draw := _, F__law_draw := fun_mk (st := s__law_draw) l14 c14 k14, g__law_draw := PySem.W.mg_of X G a14, b__law_draw := (fun_mk (st := s__law_draw) l14 c14 k14).binds (ps := p__law_draw) (fun _ _ _ _ _ _ us hl => match us, hl with | [_, _], _ => rfl),
    a__law_same := f15, fd__law_same := _, F__law_same := fun_mk (st := s__law_same) l15 c15 k15, g__law_same := PySem.W.mg_of X G a15, b__law_same := (fun_mk (st := s__law_same) l15 c15 k15).binds (ps := p__law_same) (fun _ _ _ _ _ _ us hl => match us, hl with | [_, _], _ => rfl),
    a__law_prime := f16, fd__law_prime := _, F__law_prime := fun_mk (st := s__law_prime) l16 c16 k16, g__law_prime := PySem.W.mg_of X G a16, b__law_prime := (fun_mk (st := s__law_prime) l16 c16 k16).binds (ps := p__law_prime) (fun _ _ _ _ _ _ us hl => match us, hl with | [_], _ => rfl),
    a__law_rule := f17, fd__law_rule := _, F__law_rule := fun_mk (st := s__law_rule) l17 c17 k17, g__law_rule := PySem.W.mg_of X G a17, b__law_rule := (fun_mk (st := s__law_rule) l17 c17 k17).binds (ps := p__law_rule) (fun _ _ _ _ _ _ us hl => match us, hl with | [_], _ => rfl),
    a__law_figures := f18, fd__law_figures := _, F__law_figures := fun_mk (st := s__law_figures) l18 c18 k18, g__law_figures := PySem.W.mg_of X G a18, b__law_figures := (fun_mk (st := s__law_figures) l18 c18 k18).binds (ps := p__law_figures) (fun _ _ _ _ _ _ us hl => match us, hl with | [_, _, _], _ => rfl),
    a__law_number := f19, fd__law_number := _, F__law_number := fun_mk (st := s__law_number) l19 c19 k19, g__law_number := PySem.W.mg_of X G a19, b__law_number := (fun_mk (st := s__law_number) l19 c19 k19).binds (ps := p__law_number) (fun _ _ _ _ _ _ us hl => match us, hl with | [_, _], _ => rfl),
    a__law_plus := f20, fd__law_plus := _, F__law_plus := fun_mk (st := s__law_plus) l20 c20 k20, g__law_plus := PySem.W.mg_of X G a20, b__law_plus := (fun_mk (st := s__law_plus) l20 c20 k20).binds (ps := p__law_plus) (fun _ _ _ _ _ _ us hl => match us, hl with | [_, _, _, _], _ => rfl),
    a__law_in_range := f21, fd__law_in_range := _, F__law_in_range := fun_mk (st := s__law_in_range) l21 c21 k21, g__law_in_range := PySem.W.mg_of X G a21, b__law_in_range := (fun_mk (st := s__law_in_range) l21 c21 k21).binds (ps := p__law_in_range) (fun _ _ _ _ _ _ us hl => match us, hl with | [_, _], _ => rfl),
    a__law_group := f22, fd__law_group := _, F__law_group := fun_mk (st := s__law_group) l22 c22 k22, g__law_group := PySem.W.mg_of X G a22, b__law_group := (fun_mk (st := s__law_group) l22 c22 k22).binds (ps := p__law_group) (fun _ _ _ _ _ _ us hl => match us, hl with | [_, _, _], _ => rfl),
    a__law_through := f23, fd__law_through := _, F__law_through := fun_mk (st := s__law_through) l23 c23 k23, g__law_through := PySem.W.mg_of X G a23, b__law_through := (fun_mk (st := s__law_through) l23 c23 k23).binds (ps := p__law_through) (fun _ _ _ _ _ _ us hl => match us, hl with | [_, _, _], _ => rfl),
    a__law_power := f24, fd__law_power := _, F__law_power := fun_mk (st := s__law_power) l24 c24 k24, g__law_power := PySem.W.mg_of X G a24, b__law_power := (fun_mk (st := s__law_power) l24 c24 k24).binds (ps := p__law_power) (fun _ _ _ _ _ _ us hl => match us, hl with | [_, _, _], _ => rfl),
    a__law_right := f25, fd__law_right := _, F__law_right := fun_mk (st := s__law_right) l25 c25 k25, g__law_right := PySem.W.mg_of X G a25, b__law_right := (fun_mk (st := s__law_right) l25 c25 k25).binds (ps := p__law_right) (fun _ _ _ _ _ _ us hl => match us, hl with | [_, _], _ => rfl),
    a_law := fa, fd_law := _, F_law := fun_mk (st := s_law) l26 c26 k26, g_law := PySem.W.mg_of X G a26, b_law := (fun_mk (st := s_law) l26 c26 k26).binds (ps := p_law) (fun _ _ _ _ _ _ us hl => match us, hl with | [_], _ => rfl),
    z_abs := PySem.W.mg_none_of X G z_abs,
    z_all := PySem.W.mg_none_of X G z_all,
    z_any := PySem.W.mg_none_of X G z_any,
    z_bool := PySem.W.mg_none_of X G z_bool,
    z_int := PySem.W.mg_none_of X G z_int,
    z_isinstance := PySem.W.mg_none_of X G z_isinstance,
    z_len := PySem.W.mg_none_of X G z_len,
    z_list := PySem.W.mg_none_of X G z_list,
    z_range := PySem.W.mg_none_of X G z_range,
    z_reversed := PySem.W.mg_none_of X G z_reversed,
    z_sorted := PySem.W.mg_none_of X G z_sorted,
    z_str := PySem.W.mg_none_of X G z_str,
    z_sum := PySem.W.mg_none_of X G z_sum,
    z_tuple := PySem.W.mg_none_of X G z_tuple,
    z_zip := PySem.W.mg_none_of X G z_zip,
    t_GREATEST_FIELD := t_GREATEST_FIELD, c_GREATEST_FIELD := PySem.W.mg_of X G q_GREATEST_FIELD }⟩
end Sq
open PySem PySem.W PyProof.Rows
set_option maxHeartbeats 0 in
theorem PySem.Challenge.cw_squarewords_k56_whole_field_laws_holds : PySem.Challenge.rw_squarewords_k56_whole_field_laws.Holds := by
  w_on; o_law; k_head; (case hw => w_witness2)
  k_fill
  refine L2.walk_of (l := PySem.Challenge.rw_squarewords_k56_whole_field_laws) (n := 63) (k := 8) (x := "script") (CX := fun _ => L2.CX0) (sp := fun w => DL.spLaw _) rfl (by decide) rfl ⟨rfl, by decide, by decide⟩ (fun w h Y => PySem.W.kIn_of Y) ?F (fun _ _ a ns hl _ hS => ⟨a, ns, rfl, hS, hl, fun _ => rfl⟩) (fun _ _ _ _ _ h => h)
  case F =>
    intro w mg fa h KX G hmg
    refine' Sq.all_mk KX G hmg ?a0 ?l0 ?c0 ?k0 ?a1 ?l1 ?c1 ?k1 ?a2 ?l2 ?c2 ?k2 ?a3 ?l3 ?c3 ?k3 ?a4 ?l4 ?c4 ?k4 ?a5 ?l5 ?c5 ?k5 ?a6 ?l6 ?c6 ?k6 ?a7 ?l7 ?c7 ?k7 ?a8 ?l8 ?c8 ?k8 ?a9 ?l9 ?c9 ?k9 ?a10 ?l10 ?c10 ?k10 ?a11 ?l11 ?c11 ?k11 ?a12 ?l12 ?c12 ?k12 ?a13 ?l13 ?c13 ?k13 ?a14 ?l14 ?c14 ?k14 ?a15 ?l15 ?c15 ?k15 ?a16 ?l16 ?c16 ?k16 ?a17 ?l17 ?c17 ?k17 ?a18 ?l18 ?c18 ?k18 ?a19 ?l19 ?c19 ?k19 ?a20 ?l20 ?c20 ?k20 ?a21 ?l21 ?c21 ?k21 ?a22 ?l22 ?c22 ?k22 ?a23 ?l23 ?c23 ?k23 ?a24 ?l24 ?c24 ?k24 ?a25 ?l25 ?c25 ?k25 ?a26 ?l26 ?c26 ?k26 ?z_abs ?z_all ?z_any ?z_bool ?z_int ?z_isinstance ?z_len ?z_list ?z_range ?z_reversed ?z_sorted ?z_str ?z_sum ?z_tuple ?z_zip ?q_GREATEST_FIELD
    (case a0 => k_is); (case l0 => k_is); (case c0 => k_is); (case k0 => k_is); (case a1 => k_is); (case l1 => k_is); (case c1 => k_is); (case k1 => k_is); (case a2 => k_is); (case l2 => k_is); (case c2 => k_is); (case k2 => k_is); (case a3 => k_is); (case l3 => k_is); (case c3 => k_is); (case k3 => k_is); (case a4 => k_is); (case l4 => k_is); (case c4 => k_is); (case k4 => k_is); (case a5 => k_is); (case l5 => k_is); (case c5 => k_is); (case k5 => k_is); (case a6 => k_is); (case l6 => k_is); (case c6 => k_is); (case k6 => k_is); (case a7 => k_is); (case l7 => k_is); (case c7 => k_is); (case k7 => k_is); (case a8 => k_is); (case l8 => k_is); (case c8 => k_is); (case k8 => k_is); (case a9 => k_is); (case l9 => k_is); (case c9 => k_is); (case k9 => k_is); (case a10 => k_is); (case l10 => k_is); (case c10 => k_is); (case k10 => k_is); (case a11 => k_is); (case l11 => k_is); (case c11 => k_is); (case k11 => k_is); (case a12 => k_is); (case l12 => k_is); (case c12 => k_is); (case k12 => k_is); (case a13 => k_is); (case l13 => k_is); (case c13 => k_is); (case k13 => k_is); (case a14 => k_is); (case l14 => k_is); (case c14 => k_is); (case k14 => k_is); (case a15 => k_is); (case l15 => k_is); (case c15 => k_is); (case k15 => k_is); (case a16 => k_is); (case l16 => k_is); (case c16 => k_is); (case k16 => k_is); (case a17 => k_is); (case l17 => k_is); (case c17 => k_is); (case k17 => k_is); (case a18 => k_is); (case l18 => k_is); (case c18 => k_is); (case k18 => k_is); (case a19 => k_is); (case l19 => k_is); (case c19 => k_is); (case k19 => k_is); (case a20 => k_is); (case l20 => k_is); (case c20 => k_is); (case k20 => k_is); (case a21 => k_is); (case l21 => k_is); (case c21 => k_is); (case k21 => k_is); (case a22 => k_is); (case l22 => k_is); (case c22 => k_is); (case k22 => k_is); (case a23 => k_is); (case l23 => k_is); (case c23 => k_is); (case k23 => k_is); (case a24 => k_is); (case l24 => k_is); (case c24 => k_is); (case k24 => k_is); (case a25 => k_is); (case l25 => k_is); (case c25 => k_is); (case k25 => k_is); (case a26 => k_is); (case l26 => k_is); (case c26 => k_is); (case k26 => k_is); (case z_abs => k_is); (case z_all => k_is); (case z_any => k_is); (case z_bool => k_is); (case z_int => k_is); (case z_isinstance => k_is); (case z_len => k_is); (case z_list => k_is); (case z_range => k_is); (case z_reversed => k_is); (case z_sorted => k_is); (case z_str => k_is); (case z_sum => k_is); (case z_tuple => k_is); (case z_zip => k_is); (case q_GREATEST_FIELD => k_is)
