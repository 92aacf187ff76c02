import PyProof.Rows.All
import Wide.All
import OpenK.AllK
import Wide.FinOn
import HandS.ForMost
import HandS.ForExc
import HandS.ExcCtx
import HandS.Hot
import HandS.HotCalls
import HandS.IsInst
import HandS.Wide
import HandS.Flow
import HandS.Deep
import HandS.WideBits
import HandS.TupAny
import HandS.Style
import HandS.Zip
import HandS.ExcIs
import HandS.EndBits
import HandS.Star
import KE.KTupSum
import HandS.Conv
import PyProof.P3Eq
import PySem.Challenge.RW_likeshares_k36_whole_numbers_and_rests
set_option Elab.async false
set_option linter.all false
set_option maxRecDepth 100000
set_option maxHeartbeats 4000000
namespace Mi
open PySem PySem.Spec PyProof.Rows L2

/-! ### data: tuples and lists by value; own: a list that this def alone holds -/
inductive D where
  | non | bl (b : Bool) | int (i : Int) | str (x : Str) | raw (v : V)
  | tup (ds : List D) | lst (ds : List D) | cst (ds : List D) | own (ds : List D)

mutual
def D.plain : D → Bool
  | .non => true | .bl _ => true | .int _ => true | .str _ => true | .raw _ => true
  | .tup ds => plains ds | .lst ds => plains ds | .cst ds => plains ds | .own _ => false
def plains : List D → Bool
  | [] => true
  | d :: ds => d.plain && plains ds
end
mutual
/-- no list within -/
def D.flat : D → Bool
  | .non => true | .bl _ => true | .int _ => true | .str _ => true | .raw _ => true
  | .tup ds => flats ds | .lst _ => false | .cst _ => false | .own _ => false
def flats : List D → Bool
  | [] => true
  | d :: ds => d.flat && flats ds
end
mutual
def D.frz : D → D
  | .non => .non | .bl b => .bl b | .int i => .int i | .str x => .str x | .raw v => .raw v
  | .tup ds => .tup (frzs ds) | .lst ds => .lst (frzs ds) | .cst ds => .cst (frzs ds) | .own ds => .lst (frzs ds)
def frzs : List D → List D
  | [] => []
  | d :: ds => d.frz :: frzs ds
end

/-- what is read at a: tracked and not owned, known, or the module's -/
def Trk (P : Addr → Prop) (H : Hp) (a : Addr) (u : HO) : Prop := (H a = some u ∧ ¬ P a) ∨ ∃ o, H a = some (.frz o u)
theorem Trk.rd {P : Addr → Prop} {H : Hp} {a : Addr} {u : HO} (h : Trk P H a u) : Rd H a u := h.elim (fun z => .inl z.1) .inr
/-- a list that no one changes: locked, or the module's -/
def CqL (K : PySem.W.Frag) (H : Hp) (a : Addr) (xs : List V) : Prop :=
  (∃ o, H a = some (.frz o (.lst xs))) ∨
    ∃ (o : Obj) (its : Array Value) (n : Nat), K.lookup a = some o ∧ o.cls = .type "list" ∧ o.dict = none ∧ o.data = .seq its n ∧ its.size ≤ sizeLine ∧ Vals xs its.toList
theorem CqL.sq {K : PySem.W.Frag} {H : Hp} {a : Addr} {xs : List V} (h : CqL K H a xs) : SqL K H a xs := h.elim (fun z => .inl (.inr z)) .inr
def TqT (K : PySem.W.Frag) (P : Addr → Prop) (H : Hp) (a : Addr) (xs : List V) : Prop :=
  Trk P H a (.tup xs) ∨
    ∃ (o : Obj) (its : Array Value) (n : Nat), K.lookup a = some o ∧ o.cls = .type "tuple" ∧ o.data = .seq its n ∧ its.size ≤ sizeLine ∧ Vals xs its.toList
theorem TqT.sq {K : PySem.W.Frag} {P : Addr → Prop} {H : Hp} {a : Addr} {xs : List V} (h : TqT K P H a xs) : SqT K H a xs := h.elim (fun z => .inl z.rd) .inr

/-- what is tracked and not owned stays so -/
def Mono (P : Addr → Prop) (H : Hp) (P' : Addr → Prop) (H' : Hp) : Prop := (∀ a o, H a = some o → ¬ P a → H' a = some o ∧ ¬ P' a) ∧ ∀ a o u, H a = some (.frz o u) → H' a = some (.frz o u)

mutual
def Rep (K : PySem.W.Frag) (P : Addr → Prop) (H : Hp) : D → V → Prop
  | .non, v => v = .non
  | .bl b, v => v = .bl b
  | .int i, v => v = .int i
  | .str x, v => v = .str x
  | .raw u, v => v = u
  | .tup ds, v => ∃ a vs, v = .ref a ∧ TqT K P H a vs ∧ Reps K P H ds vs
  | .lst ds, v => ∃ a vs, v = .ref a ∧ (H a = some (.lst vs) ∧ ¬ P a) ∧ Reps K P H ds vs
  | .cst ds, v => ∃ a vs, v = .ref a ∧ CqL K H a vs ∧ Reps K P H ds vs
  | .own _, _ => False
def Reps (K : PySem.W.Frag) (P : Addr → Prop) (H : Hp) : List D → List V → Prop
  | [], vs => vs = []
  | d :: ds, vs => ∃ v r, vs = v :: r ∧ Rep K P H d v ∧ Reps K P H ds r
end
section
variable {K : PySem.W.Frag} {P P' : Addr → Prop} {H H' : Hp}
theorem Mono.trk {a : Addr} {u : HO} (m : Mono P H P' H') (h : Trk P H a u) : Trk P' H' a u := by
  rcases h with ⟨h, n⟩ | ⟨o, h⟩
  · exact .inl (m.1 a u h n)
  · exact .inr ⟨o, m.2 a o u h⟩
theorem Mono.cql {a : Addr} {xs : List V} (m : Mono P H P' H') (h : CqL K H a xs) : CqL K H' a xs := h.imp (fun ⟨o, z⟩ => ⟨o, m.2 a o _ z⟩) id
theorem Mono.tqt {a : Addr} {xs : List V} (m : Mono P H P' H') (h : TqT K P H a xs) : TqT K P' H' a xs := h.elim (fun z => .inl (m.trk z)) .inr
mutual
theorem Rep.mono (m : Mono P H P' H') : ∀ (d : D) {v : V}, Rep K P H d v → Rep K P' H' d v
  | .non, _, h => by unfold Rep at h ⊢; exact h
  | .bl _, _, h => by unfold Rep at h ⊢; exact h
  | .int _, _, h => by unfold Rep at h ⊢; exact h
  | .str _, _, h => by unfold Rep at h ⊢; exact h
  | .raw _, _, h => by unfold Rep at h ⊢; exact h
  | .tup ds, _, h => by
    unfold Rep at h ⊢
    obtain ⟨a, vs, e, q, r⟩ := h
    exact ⟨a, vs, e, m.tqt q, Reps.mono m ds r⟩
  | .lst ds, _, h => by
    unfold Rep at h ⊢
    obtain ⟨a, vs, e, q, r⟩ := h
    exact ⟨a, vs, e, m.1 _ _ q.1 q.2, Reps.mono m ds r⟩
  | .cst ds, _, h => by
    unfold Rep at h ⊢
    obtain ⟨a, vs, e, q, r⟩ := h
    exact ⟨a, vs, e, m.cql q, Reps.mono m ds r⟩
  | .own _, _, h => by unfold Rep at h; exact h.elim
theorem Reps.mono (m : Mono P H P' H') : ∀ (ds : List D) {vs : List V}, Reps K P H ds vs → Reps K P' H' ds vs
  | [], _, h => by unfold Reps at h ⊢; exact h
  | d :: ds, _, h => by
    unfold Reps at h ⊢
    obtain ⟨v, r, e, h1, h2⟩ := h
    exact ⟨v, r, e, Rep.mono m d h1, Reps.mono m ds h2⟩
end
end

mutual
/-- .. with what is owned: the addresses of the owned lists, in order -/
def Own (K : PySem.W.Frag) (P : Addr → Prop) (H : Hp) : D → V → List Addr → Prop
  | .own ds, v, as => ∃ a vs bs, v = .ref a ∧ H a = some (.lst vs) ∧ Owns K P H ds vs bs ∧ as = a :: bs
  | d, v, as => Rep K P H d v ∧ as = []
def Owns (K : PySem.W.Frag) (P : Addr → Prop) (H : Hp) : List D → List V → List Addr → Prop
  | [], vs, as => vs = [] ∧ as = []
  | d :: ds, vs, as => ∃ v r bs cs, vs = v :: r ∧ Own K P H d v bs ∧ Owns K P H ds r cs ∧ as = bs ++ cs
end
/-- what is owned stays where it stands -/
def MonoO (as : List Addr) (P : Addr → Prop) (H : Hp) (P' : Addr → Prop) (H' : Hp) : Prop := Mono P H P' H' ∧ ∀ a ∈ as, H' a = H a
section
variable {K : PySem.W.Frag} {P P' : Addr → Prop} {H H' : Hp}
theorem Own.rep {d : D} {v : V} {as : List Addr} (h : Own K P H d v as) (p : ∀ ds, d ≠ .own ds) : Rep K P H d v ∧ as = [] := by
  cases d <;> first | (unfold Own at h; exact h) | exact absurd rfl (p _)
theorem Own.of {d : D} {v : V} (h : Rep K P H d v) : Own K P H d v [] := by
  cases d <;> first | (unfold Own; exact ⟨h, rfl⟩) | (unfold Rep at h; exact h.elim)
mutual
theorem Own.mono : ∀ (d : D) {v : V} {as : List Addr}, MonoO as P H P' H' → Own K P H d v as → Own K P' H' d v as
  | .own ds, v, as, m, h => by
    unfold Own at h ⊢
    obtain ⟨a, vs, bs, e, q, r, ea⟩ := h
    subst ea
    exact ⟨a, vs, bs, e, by rw [m.2 a (List.mem_cons_self ..)]; exact q, Owns.mono ds ⟨m.1, fun b hb => m.2 b (List.mem_cons_of_mem _ hb)⟩ r, rfl⟩
  | .non, v, as, m, h => by unfold Own at h ⊢; exact ⟨Rep.mono m.1 _ h.1, h.2⟩
  | .bl _, v, as, m, h => by unfold Own at h ⊢; exact ⟨Rep.mono m.1 _ h.1, h.2⟩
  | .int _, v, as, m, h => by unfold Own at h ⊢; exact ⟨Rep.mono m.1 _ h.1, h.2⟩
  | .str _, v, as, m, h => by unfold Own at h ⊢; exact ⟨Rep.mono m.1 _ h.1, h.2⟩
  | .raw _, v, as, m, h => by unfold Own at h ⊢; exact ⟨Rep.mono m.1 _ h.1, h.2⟩
  | .tup _, v, as, m, h => by unfold Own at h ⊢; exact ⟨Rep.mono m.1 _ h.1, h.2⟩
  | .lst _, v, as, m, h => by unfold Own at h ⊢; exact ⟨Rep.mono m.1 _ h.1, h.2⟩
  | .cst _, v, as, m, h => by unfold Own at h ⊢; exact ⟨Rep.mono m.1 _ h.1, h.2⟩
theorem Owns.mono : ∀ (ds : List D) {vs : List V} {as : List Addr}, MonoO as P H P' H' → Owns K P H ds vs as → Owns K P' H' ds vs as
  | [], _, _, m, h => by unfold Owns at h ⊢; exact h
  | d :: ds, _, _, m, h => by
    unfold Owns at h ⊢
    obtain ⟨v, r, bs, cs, e, h1, h2, ea⟩ := h
    subst ea
    exact ⟨v, r, bs, cs, e, Own.mono d ⟨m.1, fun b hb => m.2 b (List.mem_append_left _ hb)⟩ h1, Owns.mono ds ⟨m.1, fun b hb => m.2 b (List.mem_append_right _ hb)⟩ h2, rfl⟩
end
mutual
/-- frozen: nothing of it is owned any more -/
theorem Own.frz : ∀ (d : D) {v : V} {as : List Addr}, Mono P H P' H → (∀ a ∈ as, ¬ P' a) → Own K P H d v as → Rep K P' H d.frz v
  | .own ds, v, as, m, n, h => by
    unfold Own at h; unfold D.frz Rep
    obtain ⟨a, vs, bs, e, q, r, ea⟩ := h
    subst ea
    exact ⟨a, vs, e, ⟨q, n a (List.mem_cons_self ..)⟩, Owns.frz ds m (fun b hb => n b (List.mem_cons_of_mem _ hb)) r⟩
  | .non, v, as, m, n, h => by unfold Own at h; unfold D.frz; exact Rep.mono m _ h.1
  | .bl _, v, as, m, n, h => by unfold Own at h; unfold D.frz; exact Rep.mono m _ h.1
  | .int _, v, as, m, n, h => by unfold Own at h; unfold D.frz; exact Rep.mono m _ h.1
  | .str _, v, as, m, n, h => by unfold Own at h; unfold D.frz; exact Rep.mono m _ h.1
  | .raw _, v, as, m, n, h => by unfold Own at h; unfold D.frz; exact Rep.mono m _ h.1
  | .tup ds, v, as, m, n, h => by unfold Own at h; exact Rep.frz (.tup ds) (Rep.mono m _ h.1)
  | .lst ds, v, as, m, n, h => by unfold Own at h; exact Rep.frz (.lst ds) (Rep.mono m _ h.1)
  | .cst ds, v, as, m, n, h => by unfold Own at h; exact Rep.frz (.cst ds) (Rep.mono m _ h.1)
theorem Owns.frz : ∀ (ds : List D) {vs : List V} {as : List Addr}, Mono P H P' H → (∀ a ∈ as, ¬ P' a) → Owns K P H ds vs as → Reps K P' H (frzs ds) vs
  | [], _, _, m, n, h => by unfold Owns at h; unfold frzs Reps; exact h.1
  | d :: ds, _, _, m, n, h => by
    unfold Owns at h; unfold frzs Reps
    obtain ⟨v, r, bs, cs, e, h1, h2, ea⟩ := h
    subst ea
    exact ⟨v, r, e, Own.frz d m (fun b hb => n b (List.mem_append_left _ hb)) h1, Owns.frz ds m (fun b hb => n b (List.mem_append_right _ hb)) h2⟩
theorem Rep.frz : ∀ (d : D) {v : V}, Rep K P' H d v → Rep K P' H d.frz v
  | .own _, _, h => by unfold Rep at h; exact h.elim
  | .non, _, h => by unfold D.frz; exact h
  | .bl _, _, h => by unfold D.frz; exact h
  | .int _, _, h => by unfold D.frz; exact h
  | .str _, _, h => by unfold D.frz; exact h
  | .raw _, _, h => by unfold D.frz; exact h
  | .tup ds, _, h => by
    unfold Rep at h; unfold D.frz Rep
    obtain ⟨a, vs, e, q, r⟩ := h
    exact ⟨a, vs, e, q, Reps.frz ds r⟩
  | .lst ds, _, h => by
    unfold Rep at h; unfold D.frz Rep
    obtain ⟨a, vs, e, q, r⟩ := h
    exact ⟨a, vs, e, q, Reps.frz ds r⟩
  | .cst ds, _, h => by
    unfold Rep at h; unfold D.frz Rep
    obtain ⟨a, vs, e, q, r⟩ := h
    exact ⟨a, vs, e, q, Reps.frz ds r⟩
theorem Reps.frz : ∀ (ds : List D) {vs : List V}, Reps K P' H ds vs → Reps K P' H (frzs ds) vs
  | [], _, h => by unfold frzs; exact h
  | d :: ds, _, h => by
    unfold Reps at h; unfold frzs Reps
    obtain ⟨v, r, e, h1, h2⟩ := h
    exact ⟨v, r, e, Rep.frz d h1, Reps.frz ds h2⟩
end
end
end Mi
namespace Mi
open PySem PySem.Spec PyProof.Rows L2

abbrev Env := List (Option D)
abbrev St := L2.St
/-- owned here, or by others (X) -/
abbrev inX (X : Addr → Prop) (l : List Addr) : Addr → Prop := fun a => a ∈ l ∨ X a
def Cells (K : PySem.W.Frag) (P : Addr → Prop) (H : Hp) : Env → St → List Addr → Prop
  | [], s, as => s = [] ∧ as = []
  | none :: e, s, as => ∃ x r, s = x :: r ∧ Cells K P H e r as
  | some d :: e, s, as => ∃ v r bs cs, s = some v :: r ∧ Own K P H d v bs ∧ Cells K P H e r cs ∧ as = bs ++ cs

section
variable {K : PySem.W.Frag} {P P' : Addr → Prop} {H H' : Hp}
mutual
theorem Own.there : ∀ (d : D) {v : V} {as : List Addr}, Own K P H d v as → ∀ a ∈ as, ∃ vs, H a = some (.lst vs)
  | .own ds, v, as, h, a, ha => by
    unfold Own at h
    obtain ⟨b, vs, bs, e, q, r, ea⟩ := h
    subst ea
    rcases List.mem_cons.mp ha with z | z
    · subst z; exact ⟨vs, q⟩
    · exact Owns.there ds r a z
  | .non, v, as, h, a, ha => by unfold Own at h; rw [h.2] at ha; cases ha
  | .bl _, v, as, h, a, ha => by unfold Own at h; rw [h.2] at ha; cases ha
  | .int _, v, as, h, a, ha => by unfold Own at h; rw [h.2] at ha; cases ha
  | .str _, v, as, h, a, ha => by unfold Own at h; rw [h.2] at ha; cases ha
  | .raw _, v, as, h, a, ha => by unfold Own at h; rw [h.2] at ha; cases ha
  | .tup _, v, as, h, a, ha => by unfold Own at h; rw [h.2] at ha; cases ha
  | .lst _, v, as, h, a, ha => by unfold Own at h; rw [h.2] at ha; cases ha
  | .cst _, v, as, h, a, ha => by unfold Own at h; rw [h.2] at ha; cases ha
theorem Owns.there : ∀ (ds : List D) {vs : List V} {as : List Addr}, Owns K P H ds vs as → ∀ a ∈ as, ∃ vs, H a = some (.lst vs)
  | [], _, _, h, a, ha => by unfold Owns at h; rw [h.2] at ha; cases ha
  | d :: ds, _, _, h, a, ha => by
    unfold Owns at h
    obtain ⟨v, r, bs, cs, e, h1, h2, ea⟩ := h
    subst ea
    rcases List.mem_append.mp ha with z | z
    · exact Own.there d h1 a z
    · exact Owns.there ds h2 a z
end
theorem Cells.there : ∀ (e : Env) {s : St} {as : List Addr}, Cells K P H e s as → ∀ a ∈ as, ∃ vs, H a = some (.lst vs)
  | [], _, _, h, a, ha => by unfold Cells at h; rw [h.2] at ha; cases ha
  | none :: e, _, _, h, a, ha => by
    unfold Cells at h
    obtain ⟨x, r, e1, h⟩ := h
    exact Cells.there e h a ha
  | some d :: e, _, _, h, a, ha => by
    unfold Cells at h
    obtain ⟨v, r, bs, cs, e1, h1, h2, ea⟩ := h
    subst ea
    rcases List.mem_append.mp ha with z | z
    · exact Own.there d h1 a z
    · exact Cells.there e h2 a z
theorem Cells.mono : ∀ (e : Env) {s : St} {as : List Addr}, MonoO as P H P' H' → Cells K P H e s as → Cells K P' H' e s as
  | [], _, _, m, h => by unfold Cells at h ⊢; exact h
  | none :: e, _, _, m, h => by
    unfold Cells at h ⊢
    obtain ⟨x, r, e1, h⟩ := h
    exact ⟨x, r, e1, Cells.mono e m h⟩
  | some d :: e, _, _, m, h => by
    unfold Cells at h ⊢
    obtain ⟨v, r, bs, cs, e1, h1, h2, ea⟩ := h
    subst ea
    exact ⟨v, r, bs, cs, e1, Own.mono d ⟨m.1, fun b hb => m.2 b (List.mem_append_left _ hb)⟩ h1, Cells.mono e ⟨m.1, fun b hb => m.2 b (List.mem_append_right _ hb)⟩ h2, rfl⟩
theorem Cells.length : ∀ (e : Env) {s : St} {as : List Addr}, Cells K P H e s as → s.length = e.length
  | [], _, _, h => by unfold Cells at h; rw [h.1]; rfl
  | none :: e, _, _, h => by
    unfold Cells at h
    obtain ⟨x, r, e1, h⟩ := h
    rw [e1, List.length_cons, List.length_cons, Cells.length e h]
  | some d :: e, _, _, h => by
    unfold Cells at h
    obtain ⟨v, r, bs, cs, e1, h1, h2, ea⟩ := h
    rw [e1, List.length_cons, List.length_cons, Cells.length e h2]
/-- the i-th cell taken out: what it holds, and what may be put in its place -/
theorem Cells.focus : ∀ (e : Env) (i : Nat) {d : D} {s : St} {as : List Addr}, Cells K P H e s as → e[i]? = some (some d) →
    ∃ v pre bs post, s[i]? = some (some v) ∧ Own K P H d v bs ∧ as = pre ++ bs ++ post ∧
      (∀ (P' : Addr → Prop) (H' : Hp), Mono P H P' H' → (∀ a ∈ pre ++ post, H' a = H a) →
        Cells K P' H' (e.set i none) s (pre ++ post) ∧ (∀ d' v' bs', Own K P' H' d' v' bs' → Cells K P' H' (e.set i (some d')) (s.set i (some v')) (pre ++ bs' ++ post)))
  | [], i, d, s, as, h, hi => by simp at hi
  | none :: e, 0, d, s, as, h, hi => by simp at hi
  | none :: e, i + 1, d, s, as, h, hi => by
    unfold Cells at h
    obtain ⟨x, r, e1, h⟩ := h
    subst e1
    obtain ⟨v, pre, bs, post, h1, h2, h3, h4⟩ := Cells.focus e i h (by simpa using hi)
    refine ⟨v, pre, bs, post, by simpa using h1, h2, h3, fun P' H' m k => ?_⟩
    obtain ⟨q1, q2⟩ := h4 P' H' m k
    refine ⟨?_, fun d' v' bs' o => ?_⟩
    · rw [List.set_cons_succ]; unfold Cells; exact ⟨x, r, rfl, q1⟩
    · rw [List.set_cons_succ, List.set_cons_succ]; unfold Cells; exact ⟨x, _, rfl, q2 d' v' bs' o⟩
  | some d0 :: e, 0, d, s, as, h, hi => by
    unfold Cells at h
    obtain ⟨v, r, bs, cs, e1, h1, h2, ea⟩ := h
    subst e1 ea
    have e2 : d0 = d := by simpa using hi
    subst e2
    refine ⟨v, [], bs, cs, by simp, h1, by simp, fun P' H' m k => ⟨?_, fun d' v' bs' o => ?_⟩⟩
    · rw [List.set_cons_zero]; unfold Cells; exact ⟨some v, r, rfl, Cells.mono e ⟨m, fun a ha => k a (by simpa using ha)⟩ h2⟩
    · rw [List.set_cons_zero, List.set_cons_zero]; unfold Cells; exact ⟨v', r, bs', cs, rfl, o, Cells.mono e ⟨m, fun a ha => k a (by simpa using ha)⟩ h2, by simp⟩
  | some d0 :: e, i + 1, d, s, as, h, hi => by
    unfold Cells at h
    obtain ⟨v0, r, b0, cs, e1, h0, h, ea⟩ := h
    subst e1 ea
    obtain ⟨v, pre, bs, post, h1, h2, h3, h4⟩ := Cells.focus e i h (by simpa using hi)
    subst h3
    refine ⟨v, b0 ++ pre, bs, post, by simpa using h1, h2, by simp [List.append_assoc], fun P' H' m k => ?_⟩
    have k0 : ∀ a ∈ b0, H' a = H a := fun a ha => k a (by simp [ha])
    obtain ⟨q1, q2⟩ := h4 P' H' m fun a ha => k a (by rw [List.append_assoc]; exact List.mem_append_right _ ha)
    have o0 := Own.mono d0 ⟨m, k0⟩ h0
    refine ⟨?_, fun d' v' bs' o => ?_⟩
    · rw [List.set_cons_succ]; unfold Cells; exact ⟨v0, r, b0, pre ++ post, rfl, o0, q1, by simp [List.append_assoc]⟩
    · rw [List.set_cons_succ, List.set_cons_succ]; unfold Cells; exact ⟨v0, _, b0, pre ++ bs' ++ post, rfl, o0, q2 d' v' bs' o, by simp [List.append_assoc]⟩
/-- an empty place filled, any place filled: what it held is forgotten -/
theorem Cells.put : ∀ (e : Env) (i : Nat) {s : St} {as : List Addr}, Cells K P H e s as → i < e.length →
    ∃ bs, (∀ a ∈ bs, a ∈ as) ∧ (as.Nodup → bs.Nodup) ∧ Cells K P H (e.set i none) s bs ∧ ∀ (P' : Addr → Prop) (H' : Hp), Mono P H P' H' → (∀ a ∈ bs, H' a = H a) →
      ∀ d' v' bs', Own K P' H' d' v' bs' → ∃ cs, (∀ a, a ∈ cs ↔ a ∈ bs ∨ a ∈ bs') ∧ ((bs ++ bs').Nodup → cs.Nodup) ∧ Cells K P' H' (e.set i (some d')) (s.set i (some v')) cs
  | [], i, s, as, h, hi => by simp at hi
  | none :: e, 0, s, as, h, hi => by
    unfold Cells at h
    obtain ⟨x, r, e1, h⟩ := h
    subst e1
    refine ⟨as, fun _ z => z, fun z => z, ?_, fun P' H' m k d' v' bs' o => ⟨bs' ++ as, fun a => by simp [or_comm], fun z => (List.perm_append_comm.nodup_iff).mp z, ?_⟩⟩
    · rw [List.set_cons_zero]; unfold Cells; exact ⟨x, r, rfl, h⟩
    · rw [List.set_cons_zero, List.set_cons_zero]; unfold Cells; exact ⟨v', r, bs', as, rfl, o, Cells.mono e ⟨m, k⟩ h, rfl⟩
  | some d0 :: e, 0, s, as, h, hi => by
    unfold Cells at h
    obtain ⟨v, r, b0, cs, e1, h1, h2, ea⟩ := h
    subst e1 ea
    refine ⟨cs, fun a z => List.mem_append_right _ z, fun z => (List.nodup_append.mp z).2.1, ?_, fun P' H' m k d' v' bs' o => ⟨bs' ++ cs, fun a => by simp [or_comm], fun z => (List.perm_append_comm.nodup_iff).mp z, ?_⟩⟩
    · rw [List.set_cons_zero]; unfold Cells; exact ⟨some v, r, rfl, h2⟩
    · rw [List.set_cons_zero, List.set_cons_zero]; unfold Cells; exact ⟨v', r, bs', cs, rfl, o, Cells.mono e ⟨m, k⟩ h2, rfl⟩
  | none :: e, i + 1, s, as, h, hi => by
    unfold Cells at h
    obtain ⟨x, r, e1, h⟩ := h
    subst e1
    obtain ⟨bs, s1, s2, q, g⟩ := Cells.put e i h (by simpa using hi)
    refine ⟨bs, s1, s2, ?_, fun P' H' m k d' v' bs' o => ?_⟩
    · rw [List.set_cons_succ]; unfold Cells; exact ⟨x, r, rfl, q⟩
    · obtain ⟨cs, c1, c2, c3⟩ := g P' H' m k d' v' bs' o
      refine ⟨cs, c1, c2, ?_⟩
      rw [List.set_cons_succ, List.set_cons_succ]; unfold Cells; exact ⟨x, _, rfl, c3⟩
  | some d0 :: e, i + 1, s, as, h, hi => by
    unfold Cells at h
    obtain ⟨v0, r, b0, cs0, e1, h0, h, ea⟩ := h
    subst e1 ea
    obtain ⟨bs, s1, s2, q, g⟩ := Cells.put e i h (by simpa using hi)
    refine ⟨b0 ++ bs, fun a z => ?_, fun z => ?_, ?_, fun P' H' m k d' v' bs' o => ?_⟩
    · rcases List.mem_append.mp z with z | z
      · exact List.mem_append_left _ z
      · exact List.mem_append_right _ (s1 a z)
    · obtain ⟨n1, n2, n3⟩ := List.nodup_append.mp z
      exact List.nodup_append.mpr ⟨n1, s2 n2, fun a ha b hb => n3 a ha b (s1 b hb)⟩
    · rw [List.set_cons_succ]; unfold Cells; exact ⟨v0, r, b0, bs, rfl, h0, q, rfl⟩
    · obtain ⟨cs, c1, c2, c3⟩ := g P' H' m (fun a ha => k a (List.mem_append_right _ ha)) d' v' bs' o
      refine ⟨b0 ++ cs, fun a => by simp [c1, or_assoc], fun z => ?_, ?_⟩
      · rw [List.append_assoc] at z
        obtain ⟨n1, n2, n3⟩ := List.nodup_append.mp z
        exact List.nodup_append.mpr ⟨n1, c2 n2, fun a ha b hb => n3 a ha b (by rw [c1] at hb; simpa using hb)⟩
      · rw [List.set_cons_succ, List.set_cons_succ]; unfold Cells
        exact ⟨v0, _, b0, cs, rfl, Own.mono d0 ⟨m, fun a ha => k a (List.mem_append_left _ ha)⟩ h0, c3, rfl⟩
end

/-- THE RELATION: temps T (their values t), the slots; H0 the heap at the def's entry, io: slots whose list is the caller's own, to be changed here -/
def Rel (K : PySem.W.Frag) (X : Addr → Prop) (H0 : Hp) (io : List (Nat × Addr)) (T : List D) (t : List V) (e : Env) (s : St) (H : Hp) : Prop :=
  ∃ as bs, Owns K (inX X (as ++ bs)) H T t as ∧ Cells K (inX X (as ++ bs)) H e s bs ∧ (as ++ bs).Nodup ∧ (∀ a ∈ as ++ bs, H0 a = none ∨ a ∈ io.map (·.2)) ∧
    (∀ b o, H0 b = some o → (b ∉ io.map (·.2) → H b = some o) ∧ ∃ o', H b = some o') ∧ (∀ p ∈ io, p.1 = 0 ∧ s[p.1]? = some (some (V.ref p.2))) ∧ ∀ a, X a → (∃ o, H0 a = some o ∧ ∀ xs, o ≠ .tup xs) ∧ a ∉ io.map (·.2)

section
variable {K : PySem.W.Frag} {X : Addr → Prop} {H0 H H' : Hp} {io : List (Nat × Addr)} {T : List D} {t : List V} {e : Env} {s : St} {d : D} {v : V}
theorem mono_sub {as bs : List Addr} (h : ∀ a ∈ bs, a ∈ as) : Mono (inX X as) H (inX X bs) H := ⟨fun a o e n => ⟨e, fun z => n (z.imp (h a) id)⟩, fun a o u e => e⟩
theorem mono_iff {as bs : List Addr} (h : ∀ a, a ∈ bs ↔ a ∈ as) : Mono (inX X as) H (inX X bs) H := mono_sub fun a => (h a).mp
theorem mono_same {P : Addr → Prop} (h : Same H H') : Mono P H P H' := ⟨fun a o e n => ⟨h a o e, n⟩, fun a o u e => h a _ e⟩
theorem mono_new {as bs : List Addr} {p : Addr} {u : HO} (hp : H p = none) (h : ∀ a ∈ bs, a = p ∨ a ∈ as) : Mono (inX X as) H (inX X bs) (upd H p u) :=
  ⟨fun a o e n => ⟨by rw [upd_ne (ne_of_none e hp)]; exact e, fun z => z.elim (fun z => (h a z).elim (ne_of_none e hp) fun y => n (.inl y)) fun z => n (.inr z)⟩, fun a o u e => by rw [upd_ne (ne_of_none e hp)]; exact e⟩
theorem same_new {p : Addr} {u : HO} (hp : H p = none) : Same H (upd H p u) := fun b x e => by rw [upd_ne (ne_of_none e hp)]; exact e
theorem noX {X : Addr → Prop} {as : List Addr} (h4 : ∀ a ∈ as, H0 a = none ∨ a ∈ io.map (·.2)) (h6 : ∀ a, X a → (∃ o, H0 a = some o ∧ ∀ xs, o ≠ .tup xs) ∧ a ∉ io.map (·.2)) : ∀ a ∈ as, ¬ X a := fun a ha x => by
  obtain ⟨⟨o, e, _⟩, n⟩ := h6 a x
  rcases h4 a ha with z | z
  · rw [e] at z; cases z
  · exact n z
theorem Rel.len (r : Rel K X H0 io T t e s H) : s.length = e.length := by
  obtain ⟨as, bs, h1, h2, _⟩ := r
  exact Cells.length e h2
/-- the heap has grown -/
theorem Rel.same (r : Rel K X H0 io T t e s H) (h : Same H H') : Rel K X H0 io T t e s H' := by
  obtain ⟨as, bs, h1, h2, h3, h4, h5, h6⟩ := r
  refine ⟨as, bs, Owns.mono T ⟨mono_same h, fun a ha => ?_⟩ h1, Cells.mono e ⟨mono_same h, fun a ha => ?_⟩ h2, h3, h4, fun b o e1 => ⟨fun e2 => h b o ((h5 b o e1).1 e2), let ⟨o', q⟩ := (h5 b o e1).2; ⟨o', h b o' q⟩⟩, h6⟩
  · obtain ⟨vs, q⟩ := Owns.there T h1 a ha; rw [q, h a _ q]
  · obtain ⟨vs, q⟩ := Cells.there e h2 a ha; rw [q, h a _ q]
theorem Rel.new {p : Addr} {u : HO} (r : Rel K X H0 io T t e s H) (hp : H p = none) : Rel K X H0 io T t e s (upd H p u) := r.same (same_new hp)
theorem Rel.pop (r : Rel K X H0 io (d :: T) (v :: t) e s H) : Rel K X H0 io T t e s H := by
  obtain ⟨as, bs, h1, h2, h3, h4, h5, h6⟩ := r
  unfold Owns at h1
  obtain ⟨v', r', b1, c1, e1, o1, o2, ea⟩ := h1
  cases e1; subst ea
  have sub : ∀ a ∈ c1 ++ bs, a ∈ b1 ++ c1 ++ bs := fun a ha => by rw [List.append_assoc]; exact List.mem_append_right _ ha
  refine ⟨c1, bs, Owns.mono T ⟨mono_sub sub, fun _ _ => rfl⟩ o2, Cells.mono e ⟨mono_sub sub, fun _ _ => rfl⟩ h2, ?_, fun a ha => h4 a (sub a ha), h5, h6⟩
  rw [List.append_assoc] at h3
  exact (List.nodup_append.mp h3).2.1
theorem Rel.pushR (r : Rel K X H0 io T t e s H) (h : ∀ P, Rep K P H d v) : Rel K X H0 io (d :: T) (v :: t) e s H := by
  obtain ⟨as, bs, h1, h2, h3, h4, h5, h6⟩ := r
  refine ⟨as, bs, ?_, h2, h3, h4, h5, h6⟩
  unfold Owns
  exact ⟨v, t, [], as, rfl, Own.of (h _), h1, rfl⟩
theorem Rel.int (r : Rel K X H0 io T t e s H) {i : Int} : Rel K X H0 io (.int i :: T) (V.int i :: t) e s H := r.pushR fun P => by unfold Rep; rfl
theorem Rel.bl (r : Rel K X H0 io T t e s H) {i : Bool} : Rel K X H0 io (.bl i :: T) (V.bl i :: t) e s H := r.pushR fun P => by unfold Rep; rfl
theorem Rel.str (r : Rel K X H0 io T t e s H) {i : Str} : Rel K X H0 io (.str i :: T) (V.str i :: t) e s H := r.pushR fun P => by unfold Rep; rfl
theorem Rel.non (r : Rel K X H0 io T t e s H) : Rel K X H0 io (.non :: T) (V.non :: t) e s H := r.pushR fun P => by unfold Rep; rfl
theorem Rel.raw (r : Rel K X H0 io T t e s H) {u : V} : Rel K X H0 io (.raw u :: T) (u :: t) e s H := r.pushR fun P => by unfold Rep; rfl
/-- the top temp, looked at -/
theorem Rel.top (r : Rel K X H0 io (d :: T) (v :: t) e s H) : ∃ P as, Own K P H d v as := by
  obtain ⟨as, bs, h1, _⟩ := r
  unfold Owns at h1
  obtain ⟨v', r', b1, c1, e1, o1, o2, ea⟩ := h1
  cases e1
  exact ⟨_, _, o1⟩
theorem Rel.isInt {i : Int} (r : Rel K X H0 io (.int i :: T) (v :: t) e s H) : v = .int i := by
  obtain ⟨P, as, h⟩ := r.top; unfold Own Rep at h; exact h.1
theorem Rel.isBl {i : Bool} (r : Rel K X H0 io (.bl i :: T) (v :: t) e s H) : v = .bl i := by
  obtain ⟨P, as, h⟩ := r.top; unfold Own Rep at h; exact h.1
theorem Rel.isStr {i : Str} (r : Rel K X H0 io (.str i :: T) (v :: t) e s H) : v = .str i := by
  obtain ⟨P, as, h⟩ := r.top; unfold Own Rep at h; exact h.1
theorem Rel.isNon (r : Rel K X H0 io (.non :: T) (v :: t) e s H) : v = .non := by
  obtain ⟨P, as, h⟩ := r.top; unfold Own Rep at h; exact h.1
theorem Rel.isRaw {u : V} (r : Rel K X H0 io (.raw u :: T) (v :: t) e s H) : v = u := by
  obtain ⟨P, as, h⟩ := r.top; unfold Own Rep at h; exact h.1
/-- frozen -/
theorem Rel.frz (r : Rel K X H0 io (d :: T) (v :: t) e s H) : Rel K X H0 io (d.frz :: T) (v :: t) e s H := by
  obtain ⟨as, bs, h1, h2, h3, h4, h5, h6⟩ := r
  unfold Owns at h1
  obtain ⟨v', r', b1, c1, e1, o1, o2, ea⟩ := h1
  cases e1; subst ea
  have sub : ∀ a ∈ c1 ++ bs, a ∈ b1 ++ c1 ++ bs := fun a ha => by rw [List.append_assoc]; exact List.mem_append_right _ ha
  rw [List.append_assoc] at h3
  obtain ⟨n1, n2, n3⟩ := List.nodup_append.mp h3
  refine ⟨c1, bs, ?_, Cells.mono e ⟨mono_sub sub, fun _ _ => rfl⟩ h2, n2, fun a ha => h4 a (sub a ha), h5, h6⟩
  unfold Owns
  exact ⟨v, t, [], c1, rfl, Own.of (Own.frz d (mono_sub sub) (fun a ha z => z.elim (fun z => n3 a ha a z rfl) (noX h4 h6.2 a (List.mem_append_left _ (List.mem_append_left _ ha)))) o1), Owns.mono T ⟨mono_sub sub, fun _ _ => rfl⟩ o2, rfl⟩
theorem Owns.split : ∀ (A : List D) {P : Addr → Prop} {va : List V} {as : List Addr} {B : List D}, Owns K P H (A ++ B) va as → ∃ v1 v2 a1 a2, va = v1 ++ v2 ∧ as = a1 ++ a2 ∧ v1.length = A.length ∧ Owns K P H A v1 a1 ∧ Owns K P H B v2 a2
  | [], P, va, as, B, h => ⟨[], va, [], as, rfl, rfl, rfl, by unfold Owns; exact ⟨rfl, rfl⟩, h⟩
  | d :: A, P, va, as, B, h => by
    rw [List.cons_append] at h
    unfold Owns at h
    obtain ⟨v, r, bs, cs, e1, o1, o2, ea⟩ := h
    subst e1 ea
    obtain ⟨v1, v2, a1, a2, e1, e2, e3, q1, q2⟩ := Owns.split A o2
    subst e1 e2
    refine ⟨v :: v1, v2, bs ++ a1, a2, rfl, by rw [List.append_assoc], by simp [e3], ?_, q2⟩
    unfold Owns
    exact ⟨v, v1, bs, a1, rfl, o1, q1, rfl⟩
theorem Owns.join : ∀ (A : List D) {P : Addr → Prop} {v1 v2 : List V} {a1 a2 : List Addr} {B : List D}, Owns K P H A v1 a1 → Owns K P H B v2 a2 → Owns K P H (A ++ B) (v1 ++ v2) (a1 ++ a2)
  | [], P, v1, v2, a1, a2, B, h, h2 => by unfold Owns at h; rw [h.1, h.2]; exact h2
  | d :: A, P, v1, v2, a1, a2, B, h, h2 => by
    unfold Owns at h
    obtain ⟨v, r, bs, cs, e1, o1, o2, ea⟩ := h
    subst e1 ea
    rw [List.cons_append, List.cons_append, List.append_assoc]
    unfold Owns
    exact ⟨v, r ++ v2, bs, cs ++ a2, rfl, o1, Owns.join A o2 h2, rfl⟩
theorem Owns.len : ∀ (A : List D) {P : Addr → Prop} {va : List V} {as : List Addr}, Owns K P H A va as → va.length = A.length
  | [], P, va, as, h => by unfold Owns at h; rw [h.1]; rfl
  | d :: A, P, va, as, h => by
    unfold Owns at h
    obtain ⟨v, r, bs, cs, e1, o1, o2, ea⟩ := h
    rw [e1, List.length_cons, List.length_cons, Owns.len A o2]
/-- the temp that lies behind A comes ahead of it -/
theorem Rel.mid {A : List D} {va : List V} (hl : va.length = A.length) (r : Rel K X H0 io (A ++ d :: T) (va ++ v :: t) e s H) : Rel K X H0 io (d :: (A ++ T)) (v :: (va ++ t)) e s H := by
  obtain ⟨as, bs, h1, h2, h3, h4, h5, h6⟩ := r
  obtain ⟨v1, v2, a1, a2, e1, e2, e3, q1, q2⟩ := Owns.split A h1
  obtain ⟨e4, e5⟩ := List.append_inj e1 (by rw [hl, e3])
  subst e4 e2
  rw [← e5] at q2
  unfold Owns at q2
  obtain ⟨v', r', b1, c1, e6, o1, o2, ea⟩ := q2
  cases e6; subst ea
  have pm : (b1 ++ (a1 ++ c1) ++ bs).Perm (a1 ++ (b1 ++ c1) ++ bs) := by
    refine List.Perm.append_right _ ?_
    rw [← List.append_assoc, ← List.append_assoc]
    exact List.Perm.append_right _ List.perm_append_comm
  have sub : ∀ a ∈ b1 ++ (a1 ++ c1) ++ bs, a ∈ a1 ++ (b1 ++ c1) ++ bs := fun a ha => pm.mem_iff.mp ha
  refine ⟨b1 ++ (a1 ++ c1), bs, ?_, Cells.mono e ⟨mono_sub sub, fun _ _ => rfl⟩ h2, pm.nodup_iff.mpr h3, fun a ha => h4 a (sub a ha), h5, h6⟩
  unfold Owns
  exact ⟨v, va ++ t, b1, a1 ++ c1, rfl, Own.mono d ⟨mono_sub sub, fun _ _ => rfl⟩ o1, Owns.join A (Owns.mono A ⟨mono_sub sub, fun _ _ => rfl⟩ q1) (Owns.mono T ⟨mono_sub sub, fun _ _ => rfl⟩ o2), rfl⟩
theorem Rel.swap {d2 : D} {v2 : V} (r : Rel K X H0 io (d2 :: d :: T) (v2 :: v :: t) e s H) : Rel K X H0 io (d :: d2 :: T) (v :: v2 :: t) e s H :=
  Rel.mid (A := [d2]) (va := [v2]) rfl r
/-- a new list of the top temps -/
theorem Rel.list {A : List D} {va : List V} {p : Addr} (hl : va.length = A.length) (r : Rel K X H0 io (A ++ T) (va ++ t) e s H) (hp : H p = none) :
    Rel K X H0 io (.own A :: T) (V.ref p :: t) e s (upd H p (.lst va)) := by
  obtain ⟨as, bs, h1, h2, h3, h4, h5, h6⟩ := r
  obtain ⟨v1, v2, a1, a2, e1, e2, e3, q1, q2⟩ := Owns.split A h1
  obtain ⟨e4, e5⟩ := List.append_inj e1 (by rw [hl, e3])
  subst e4 e5 e2
  have hn : ∀ a ∈ a1 ++ a2 ++ bs, a ≠ p := fun a ha => by
    rcases List.mem_append.mp ha with z | z
    · obtain ⟨vs, q⟩ := Owns.there _ h1 a z; exact ne_of_none q hp
    · obtain ⟨vs, q⟩ := Cells.there _ h2 a z; exact ne_of_none q hp
  have m : Mono (inX X (a1 ++ a2 ++ bs)) H (inX X (p :: a1 ++ a2 ++ bs)) (upd H p (.lst va)) := mono_new hp fun a ha => by simpa using ha
  have st : ∀ a ∈ a1 ++ a2 ++ bs, upd H p (.lst va) a = H a := fun a ha => upd_ne (hn a ha)
  have H0p : H0 p = none := by
    cases q : H0 p with
    | none => rfl
    | some o =>
      obtain ⟨o', z⟩ := (h5 p o q).2
      rw [hp] at z; cases z
  refine ⟨p :: a1 ++ a2, bs, ?_, Cells.mono e ⟨m, fun a ha => st a (List.mem_append_right _ ha)⟩ h2, ?_, ?_, fun b o q1 => ?_, h6⟩
  · unfold Owns
    refine ⟨V.ref p, t, p :: a1, a2, rfl, ?_, Owns.mono T ⟨m, fun a ha => st a (List.mem_append_left _ (List.mem_append_right _ ha))⟩ q2, rfl⟩
    unfold Own
    exact ⟨p, va, a1, rfl, upd_same, Owns.mono A ⟨m, fun a ha => st a (List.mem_append_left _ (List.mem_append_left _ ha))⟩ q1, rfl⟩
  · rw [List.cons_append, List.cons_append]
    exact List.nodup_cons.mpr ⟨fun z => hn p z rfl, h3⟩
  · intro a ha
    rw [List.cons_append, List.cons_append] at ha
    rcases List.mem_cons.mp ha with z | z
    · subst z; exact .inl H0p
    · exact h4 a z
  · obtain ⟨o', q⟩ := (h5 b o q1).2
    have nb : b ≠ p := ne_of_none q hp
    rw [upd_ne nb]
    exact ⟨(h5 b o q1).1, o', q⟩
end
end Mi
namespace Mi
open PySem PySem.Spec PyProof.Rows L2
section
variable {K : PySem.W.Frag} {X : Addr → Prop} {H0 H H' : Hp} {io : List (Nat × Addr)} {T : List D} {t : List V} {e : Env} {s : St} {d : D} {v : V}

/-! ### plain data -/
mutual
theorem frz_plain : ∀ (d : D), d.plain = true → d.frz = d
  | .non, _ => rfl | .bl _, _ => rfl | .int _, _ => rfl | .str _, _ => rfl | .raw _, _ => rfl
  | .tup ds, h => by unfold D.plain at h; unfold D.frz; rw [frzs_plain ds h]
  | .lst ds, h => by unfold D.plain at h; unfold D.frz; rw [frzs_plain ds h]
  | .cst ds, h => by unfold D.plain at h; unfold D.frz; rw [frzs_plain ds h]
  | .own ds, h => by unfold D.plain at h; cases h
theorem frzs_plain : ∀ (ds : List D), plains ds = true → frzs ds = ds
  | [], _ => rfl
  | d :: ds, h => by
    unfold plains at h
    rw [Bool.and_eq_true] at h
    unfold frzs; rw [frz_plain d h.1, frzs_plain ds h.2]
end
mutual
theorem plain_frz : ∀ (d : D), d.frz.plain = true
  | .non => rfl | .bl _ => rfl | .int _ => rfl | .str _ => rfl | .raw _ => rfl
  | .tup ds => by unfold D.frz D.plain; exact plains_frz ds
  | .lst ds => by unfold D.frz D.plain; exact plains_frz ds
  | .cst ds => by unfold D.frz D.plain; exact plains_frz ds
  | .own ds => by unfold D.frz D.plain; exact plains_frz ds
theorem plains_frz : ∀ (ds : List D), plains (frzs ds) = true
  | [] => rfl
  | d :: ds => by unfold frzs plains; rw [plain_frz d, plains_frz ds]; rfl
end
theorem frzs_length : ∀ (ds : List D), (frzs ds).length = ds.length
  | [] => rfl
  | d :: ds => by unfold frzs; rw [List.length_cons, List.length_cons, frzs_length ds]
theorem frzs_get : ∀ (ds : List D) (i : Nat), (frzs ds)[i]? = (ds[i]?).map D.frz
  | [], i => by unfold frzs; simp
  | d :: ds, 0 => by unfold frzs; simp
  | d :: ds, i + 1 => by unfold frzs; simpa using frzs_get ds i
theorem plains_get : ∀ {ds : List D} {i : Nat} {d : D}, plains ds = true → ds[i]? = some d → d.plain = true
  | [], i, d, _, h => by simp at h
  | x :: ds, 0, d, p, h => by unfold plains at p; rw [Bool.and_eq_true] at p; simp at h; rw [← h]; exact p.1
  | x :: ds, i + 1, d, p, h => by unfold plains at p; rw [Bool.and_eq_true] at p; exact plains_get p.2 (by simpa using h)
theorem Own.plain {P : Addr → Prop} {as : List Addr} (h : Own K P H d v as) (p : d.plain = true) : Rep K P H d v ∧ as = [] :=
  h.rep fun ds e => by subst e; unfold D.plain at p; cases p
theorem Reps.len {P : Addr → Prop} : ∀ {ds : List D} {vs : List V}, Reps K P H ds vs → vs.length = ds.length
  | [], vs, h => by unfold Reps at h; rw [h]; rfl
  | d :: ds, vs, h => by
    unfold Reps at h
    obtain ⟨v, r, e, h1, h2⟩ := h
    rw [e, List.length_cons, List.length_cons, Reps.len h2]
theorem Reps.get {P : Addr → Prop} : ∀ {ds : List D} {vs : List V} {i : Nat} {d : D}, Reps K P H ds vs → ds[i]? = some d → ∃ v, vs[i]? = some v ∧ Rep K P H d v
  | [], vs, i, d, h, e => by simp at e
  | x :: ds, vs, 0, d, h, e => by
    unfold Reps at h
    obtain ⟨v, r, e1, h1, h2⟩ := h
    simp at e; subst e e1
    exact ⟨v, by simp, h1⟩
  | x :: ds, vs, i + 1, d, h, e => by
    unfold Reps at h
    obtain ⟨v, r, e1, h1, h2⟩ := h
    obtain ⟨w, q, q2⟩ := Reps.get (i := i) h2 (by simpa using e)
    subst e1
    exact ⟨w, by simpa using q, q2⟩
theorem Reps.getV {P : Addr → Prop} {ds : List D} {vs : List V} {i : Nat} {v : V} (h : Reps K P H ds vs) (e : vs[i]? = some v) : ∃ d, ds[i]? = some d ∧ Rep K P H d v := by
  have hl := h.len
  have hi : i < ds.length := by
    have := (List.getElem?_eq_some_iff.mp e).1
    omega
  obtain ⟨w, q, q2⟩ := Reps.get h (List.getElem?_eq_getElem hi)
  rw [e] at q; cases q
  exact ⟨_, List.getElem?_eq_getElem hi, q2⟩
theorem Owns.reps {P : Addr → Prop} : ∀ {ds : List D} {vs : List V} {as : List Addr}, plains ds = true → Owns K P H ds vs as → Reps K P H ds vs ∧ as = []
  | [], vs, as, _, h => by unfold Owns at h; unfold Reps; exact h
  | d :: ds, vs, as, p, h => by
    unfold plains at p; rw [Bool.and_eq_true] at p
    unfold Owns at h; unfold Reps
    obtain ⟨v, r, bs, cs, e, h1, h2, ea⟩ := h
    obtain ⟨q1, q2⟩ := h1.plain p.1
    obtain ⟨q3, q4⟩ := Owns.reps p.2 h2
    exact ⟨⟨v, r, e, q1, q3⟩, by rw [ea, q2, q4]; rfl⟩
theorem Owns.of {P : Addr → Prop} : ∀ {ds : List D} {vs : List V}, Reps K P H ds vs → Owns K P H ds vs []
  | [], vs, h => by unfold Reps at h; unfold Owns; exact ⟨h, rfl⟩
  | d :: ds, vs, h => by
    unfold Reps at h; unfold Owns
    obtain ⟨v, r, e, h1, h2⟩ := h
    exact ⟨v, r, [], [], e, Own.of h1, Owns.of h2, rfl⟩
/-- an item of an owned list, the rest of it -/
theorem Owns.at {P : Addr → Prop} : ∀ {ds : List D} {vs : List V} {as : List Addr} {i : Nat} {d : D}, Owns K P H ds vs as → ds[i]? = some d →
    ∃ v bs cs, vs[i]? = some v ∧ Own K P H d v bs ∧ Owns K P H (ds.eraseIdx i) (vs.eraseIdx i) cs ∧ as.Perm (bs ++ cs) ∧
      ∀ d' v' bs', Own K P H d' v' bs' → ∃ es, Owns K P H (ds.set i d') (vs.set i v') es ∧ es.Perm (bs' ++ cs)
  | [], vs, as, i, d, h, e => by simp at e
  | x :: ds, vs, as, 0, d, h, e => by
    unfold Owns at h
    obtain ⟨v, r, bs, cs, e1, h1, h2, ea⟩ := h
    simp at e; subst e e1 ea
    refine ⟨v, bs, cs, by simp, h1, by simpa using h2, List.Perm.refl _, fun d' v' bs' o => ⟨bs' ++ cs, ?_, List.Perm.refl _⟩⟩
    rw [List.set_cons_zero, List.set_cons_zero]; unfold Owns; exact ⟨v', r, bs', cs, rfl, o, h2, rfl⟩
  | x :: ds, vs, as, i + 1, d, h, e => by
    unfold Owns at h
    obtain ⟨v0, r, b0, c0, e1, h1, h2, ea⟩ := h
    obtain ⟨v, bs, cs, q1, q2, q3, q4, q5⟩ := Owns.at (i := i) h2 (by simpa using e)
    subst e1 ea
    refine ⟨v, bs, b0 ++ cs, by simpa using q1, q2, ?_, ?_, fun d' v' bs' o => ?_⟩
    · rw [List.eraseIdx_cons_succ, List.eraseIdx_cons_succ]; unfold Owns; exact ⟨v0, _, b0, cs, rfl, h1, q3, rfl⟩
    · exact ((List.Perm.append_left b0 q4).trans (by rw [← List.append_assoc, ← List.append_assoc]; exact List.Perm.append_right _ List.perm_append_comm))
    · obtain ⟨es, r1, r2⟩ := q5 d' v' bs' o
      refine ⟨b0 ++ es, ?_, (List.Perm.append_left b0 r2).trans (by rw [← List.append_assoc, ← List.append_assoc]; exact List.Perm.append_right _ List.perm_append_comm)⟩
      rw [List.set_cons_succ, List.set_cons_succ]; unfold Owns; exact ⟨v0, _, b0, es, rfl, h1, r1, rfl⟩

/-! ### the slots -/
theorem Rel.get {i : Nat} (r : Rel K X H0 io T t e s H) (hi : e[i]? = some (some d)) (p : d.plain = true) : ∃ v, s[i]? = some (some v) ∧ Rel K X H0 io (d :: T) (v :: t) e s H := by
  obtain ⟨as, bs, h1, h2, h3, h4, h5, h6⟩ := r
  obtain ⟨v, pre, b, post, q1, q2, q3, _⟩ := Cells.focus e i h2 hi
  obtain ⟨q4, q5⟩ := q2.plain p
  refine ⟨v, q1, as, bs, ?_, h2, h3, h4, h5, h6⟩
  unfold Owns
  exact ⟨v, t, [], as, rfl, Own.of q4, h1, rfl⟩
theorem Rel.view {i : Nat} (r : Rel K X H0 io T t e s H) (hi : e[i]? = some (some d)) : ∃ v, s[i]? = some (some v) ∧ Rep K (fun _ => False) H d.frz v := by
  obtain ⟨as, bs, h1, h2, h3, h4, h5, h6⟩ := r
  obtain ⟨v, pre, b, post, q1, q2, q3, _⟩ := Cells.focus e i h2 hi
  exact ⟨v, q1, Own.frz d ⟨fun a o e _ => ⟨e, fun z => z⟩, fun a o u e => e⟩ (fun _ _ z => z) q2⟩
theorem nodup_mid {a b c d : List Addr} (h : (a ++ (b ++ c ++ d)).Nodup) : (c ++ a ++ (b ++ d)).Nodup ∧ (a ++ (b ++ d)).Nodup := by
  have p : (a ++ (b ++ c ++ d)).Perm (c ++ a ++ (b ++ d)) := by
    have p1 : (b ++ c ++ d).Perm (c ++ (b ++ d)) := by
      rw [← List.append_assoc]; exact List.Perm.append_right _ List.perm_append_comm
    refine (List.Perm.append_left a p1).trans ?_
    rw [← List.append_assoc]; exact List.Perm.append_right _ List.perm_append_comm
  have h2 := p.nodup_iff.mp h
  refine ⟨h2, ?_⟩
  rw [List.append_assoc] at h2
  exact (List.nodup_append.mp h2).2.1
/-- moved out of its slot -/
theorem Rel.move {i : Nat} (r : Rel K X H0 io T t e s H) (hi : e[i]? = some (some d)) : ∃ v, s[i]? = some (some v) ∧ Rel K X H0 io (d :: T) (v :: t) (e.set i none) s H := by
  obtain ⟨as, bs, h1, h2, h3, h4, h5, h6⟩ := r
  obtain ⟨v, pre, b, post, q1, q2, q3, q4⟩ := Cells.focus e i h2 hi
  subst q3
  obtain ⟨nd, _⟩ := nodup_mid h3
  have sub : ∀ a ∈ b ++ as ++ (pre ++ post), a ∈ as ++ (pre ++ b ++ post) := fun a ha => by simp at ha ⊢; rcases ha with z | z | z | z <;> simp [z]
  refine ⟨v, q1, b ++ as, pre ++ post, ?_, (q4 _ _ (mono_sub sub) fun _ _ => rfl).1, nd, fun a ha => h4 a (sub a ha), h5, h6⟩
  unfold Owns
  exact ⟨v, t, b, as, rfl, Own.mono d ⟨mono_sub sub, fun _ _ => rfl⟩ q2, Owns.mono T ⟨mono_sub sub, fun _ _ => rfl⟩ h1, rfl⟩
/-- the top temp goes into a slot -/
theorem Rel.put {i : Nat} (r : Rel K X H0 io (d :: T) (v :: t) e s H) (hi : i < e.length) (hio : ∀ p ∈ io, p.1 ≠ i) : Rel K X H0 io T t (e.set i (some d)) (s.set i (some v)) H := by
  obtain ⟨as, bs, h1, h2, h3, h4, h5, h6⟩ := r
  unfold Owns at h1
  obtain ⟨v', r', b1, c1, e1, o1, o2, ea⟩ := h1
  cases e1; subst ea
  obtain ⟨cs, s1, s2, q, g⟩ := Cells.put e i h2 hi
  -- all that is left: c1 ++ (b1 with cs)
  have nd : (c1 ++ (cs ++ b1)).Nodup := by
    have n1 : (b1 ++ c1 ++ cs).Nodup := by
      obtain ⟨x1, x2, x3⟩ := List.nodup_append.mp h3
      exact List.nodup_append.mpr ⟨x1, s2 x2, fun a ha b hb => x3 a ha b (s1 b hb)⟩
    have p : (b1 ++ c1 ++ cs).Perm (c1 ++ (cs ++ b1)) := by
      rw [List.append_assoc, ← List.append_assoc c1]; exact List.perm_append_comm
    exact p.nodup_iff.mp n1
  have sub : ∀ a ∈ c1 ++ (cs ++ b1), a ∈ b1 ++ c1 ++ bs := fun a ha => by
    simp at ha ⊢
    rcases ha with z | z | z
    · simp [z]
    · simp [s1 a z]
    · simp [z]
  have m : Mono (inX X (b1 ++ c1 ++ bs)) H (inX X (c1 ++ (cs ++ b1))) H := mono_sub sub
  obtain ⟨ds, d1, d2, d3⟩ := g _ H m (fun _ _ => rfl) d v b1 (Own.mono d ⟨m, fun _ _ => rfl⟩ o1)
  have nd2 : (c1 ++ ds).Nodup := by
    obtain ⟨x1, x2, x3⟩ := List.nodup_append.mp nd
    exact List.nodup_append.mpr ⟨x1, d2 x2, fun a ha b hb => x3 a ha b (by rw [d1] at hb; simpa using hb)⟩
  have iff : ∀ a, a ∈ c1 ++ ds ↔ a ∈ c1 ++ (cs ++ b1) := fun a => by simp [d1]
  refine ⟨c1, ds, Owns.mono T ⟨m.1 |> fun _ => mono_sub (fun a ha => sub a ((iff a).mp ha)), fun _ _ => rfl⟩ o2, Cells.mono _ ⟨mono_iff iff, fun _ _ => rfl⟩ d3, nd2, fun a ha => h4 a (sub a ((iff a).mp ha)), h5, fun p hp => ⟨(h6.1 p hp).1, ?_⟩, h6.2⟩
  rw [List.getElem?_set_ne (Ne.symm (hio p hp))]
  exact (h6.1 p hp).2
/-- a slot forgotten -/
theorem Rel.clear (i : Nat) (r : Rel K X H0 io T t e s H) : Rel K X H0 io T t (e.set i none) s H := by
  by_cases hi : i < e.length
  · obtain ⟨as, bs, h1, h2, h3, h4, h5, h6⟩ := r
    obtain ⟨cs, s1, s2, q, _⟩ := Cells.put e i h2 hi
    have sub : ∀ a ∈ as ++ cs, a ∈ as ++ bs := fun a ha => (List.mem_append.mp ha).elim (fun z => List.mem_append_left _ z) fun z => List.mem_append_right _ (s1 a z)
    refine ⟨as, cs, Owns.mono T ⟨mono_sub sub, fun _ _ => rfl⟩ h1, Cells.mono _ ⟨mono_sub sub, fun _ _ => rfl⟩ q, ?_, fun a ha => h4 a (sub a ha), h5, h6⟩
    obtain ⟨x1, x2, x3⟩ := List.nodup_append.mp h3
    exact List.nodup_append.mpr ⟨x1, s2 x2, fun a ha b hb => x3 a ha b (s1 b hb)⟩
  · rw [List.set_eq_of_length_le (by omega)]; exact r
/-- a slot frozen -/
theorem Rel.freeze {i : Nat} (r : Rel K X H0 io T t e s H) (hi : e[i]? = some (some d)) : Rel K X H0 io T t (e.set i (some d.frz)) s H := by
  obtain ⟨as, bs, h1, h2, h3, h4, h5, h6⟩ := r
  obtain ⟨v, pre, b, post, q1, q2, q3, q4⟩ := Cells.focus e i h2 hi
  subst q3
  obtain ⟨nd0, nd⟩ := nodup_mid h3
  have sub : ∀ a ∈ as ++ (pre ++ post), a ∈ as ++ (pre ++ b ++ post) := fun a ha => by simp at ha ⊢; rcases ha with z | z | z <;> simp [z]
  have m : Mono (inX X (as ++ (pre ++ b ++ post))) H (inX X (as ++ (pre ++ post))) H := mono_sub sub
  have nb : ∀ a ∈ b, ¬ inX X (as ++ (pre ++ post)) a := fun a ha z => by
    rw [List.append_assoc] at nd0
    rcases z with z | z
    · exact (List.nodup_append.mp nd0).2.2 a ha a z rfl
    · exact noX h4 h6.2 a (by simp [ha]) z
  have q5 := (q4 _ _ m fun _ _ => rfl).2 d.frz v [] (Own.of (Own.frz d m nb q2))
  rw [List.append_nil] at q5
  refine ⟨as, pre ++ post, Owns.mono T ⟨m, fun _ _ => rfl⟩ h1, ?_, nd, fun a ha => h4 a (sub a ha), h5, h6⟩
  have es : s.set i (some v) = s := by
    apply List.ext_getElem?
    intro j
    by_cases hj : i = j
    · subst hj
      rw [List.getElem?_set_self (List.getElem?_eq_some_iff.mp q1).1, q1]
    · rw [List.getElem?_set_ne hj]
  rw [es] at q5
  exact q5
theorem set_same {α : Type} {s : List α} {i : Nat} {x : α} (h : s[i]? = some x) : s.set i x = s := by
  apply List.ext_getElem?
  intro j
  by_cases hj : i = j
  · subst hj
    rw [List.getElem?_set_self (List.getElem?_eq_some_iff.mp h).1, h]
  · rw [List.getElem?_set_ne hj]
/-- the owned list in a slot, the top temps A: they may be exchanged for other ones made of the same lists -/
theorem Rel.mut {A : List D} {va : List V} {i : Nat} {ds : List D} (hl : va.length = A.length) (r : Rel K X H0 io (A ++ T) (va ++ t) e s H) (hi : e[i]? = some (some (.own ds))) :
    ∃ a vs P bs aa, s[i]? = some (some (V.ref a)) ∧ H a = some (.lst vs) ∧ Owns K P H ds vs bs ∧ Owns K P H A va aa ∧ (aa ++ bs).Nodup ∧
      ∀ ds' vs' A' va' bs' aa', Owns K P H ds' vs' bs' → Owns K P H A' va' aa' → (aa' ++ bs').Nodup → (∀ x ∈ aa' ++ bs', x ∈ aa ++ bs) →
        Rel K X H0 io (A' ++ T) (va' ++ t) (e.set i (some (.own ds'))) s (upd H a (.lst vs')) := by
  obtain ⟨as, cs, h1, h2, h3, h4, h5, h6⟩ := r
  obtain ⟨v, pre, b, post, q1, q2, q3, q4⟩ := Cells.focus e i h2 hi
  subst q3
  unfold Own at q2
  obtain ⟨a, vs, bs, ev, qa, qo, eb⟩ := q2
  subst ev eb
  obtain ⟨v1, v2, a1, a2, e1, e2, e3, o1, o2⟩ := Owns.split A h1
  obtain ⟨e4, e5⟩ := List.append_inj e1 (by rw [hl, e3])
  subst e4 e5 e2
  -- the order: a :: bs, a1 | a2, pre, post
  have p0 : (a1 ++ a2 ++ (pre ++ (a :: bs) ++ post)).Perm (a :: (a1 ++ bs) ++ (a2 ++ (pre ++ post))) := by
    rw [List.perm_iff_count]
    intro x
    simp only [List.count_append, List.count_cons, List.cons_append]
    omega
  have nd := p0.nodup_iff.mp h3
  obtain ⟨n1, n2, n3⟩ := List.nodup_append.mp nd
  obtain ⟨n4, n5⟩ := List.nodup_cons.mp n1
  refine ⟨a, vs, _, bs, a1, q1, qa, qo, o1, n5, fun ds' vs' A' va' bs' aa' w1 w2 w3 w4 => ?_⟩
  have ne : ∀ x ∈ a1 ++ bs, x ≠ a := fun x hx z => n4 (z ▸ hx)
  have ne2 : ∀ x ∈ a2 ++ (pre ++ post), x ≠ a := fun x hx z => n3 a (List.mem_cons_self ..) x hx z.symm
  have sub : ∀ x ∈ (aa' ++ a2) ++ (pre ++ (a :: bs') ++ post), x ∈ a1 ++ a2 ++ (pre ++ (a :: bs) ++ post) := fun x hx => by
    have hx' : x ∈ aa' ++ bs' ∨ x = a ∨ x ∈ a2 ++ (pre ++ post) := by
      simp at hx ⊢
      rcases hx with z | z | z | z | z | z <;> simp [z]
    rcases hx' with z | z | z
    · have := w4 x z
      simp at this ⊢
      rcases this with y | y <;> simp [y]
    · simp [z]
    · simp at z ⊢
      rcases z with y | y | y <;> simp [y]
  have m : Mono (inX X (a1 ++ a2 ++ (pre ++ (a :: bs) ++ post))) H (inX X ((aa' ++ a2) ++ (pre ++ (a :: bs') ++ post))) (upd H a (.lst vs')) :=
    ⟨fun x o ex nx => ⟨by rw [upd_ne (fun z => nx (.inl (by rw [z]; simp)))]; exact ex, fun z => nx (z.imp (sub x) id)⟩, fun x o u ex => by
      rw [upd_ne (fun z => by rw [z, qa] at ex; cases ex)]; exact ex⟩
  have st : ∀ x, x ≠ a → upd H a (.lst vs') x = H x := fun x hx => upd_ne hx
  have q5 := (q4 _ _ m fun x hx => st x (ne2 x (List.mem_append_right _ hx))).2 (.own ds') (V.ref a) (a :: bs') (by
    unfold Own
    exact ⟨a, vs', bs', rfl, upd_same, Owns.mono ds' ⟨m, fun x hx => st x (ne x (w4 x (List.mem_append_right _ hx)))⟩ w1, rfl⟩)
  rw [set_same q1] at q5
  refine ⟨aa' ++ a2, pre ++ (a :: bs') ++ post, Owns.join A' (Owns.mono A' ⟨m, fun x hx => st x (ne x (w4 x (List.mem_append_left _ hx)))⟩ w2) (Owns.mono T ⟨m, fun x hx => st x (ne2 x (List.mem_append_left _ hx))⟩ o2), q5, ?_, fun x hx => h4 x (sub x hx), fun b o eb => ?_, h6⟩
  · have p1 : ((aa' ++ a2) ++ (pre ++ (a :: bs') ++ post)).Perm (a :: (aa' ++ bs') ++ (a2 ++ (pre ++ post))) := by
      rw [List.perm_iff_count]
      intro x
      simp only [List.count_append, List.count_cons, List.cons_append]
      omega
    refine p1.nodup_iff.mpr (List.nodup_append.mpr ⟨List.nodup_cons.mpr ⟨fun z => ne a (w4 a z) rfl, w3⟩, n2, fun x hx y hy => ?_⟩)
    rcases List.mem_cons.mp hx with z | z
    · exact fun w => ne2 y hy (w ▸ z)
    · exact n3 x (List.mem_cons_of_mem _ (w4 x z)) y hy
  · obtain ⟨z1, o', z2⟩ := h5 b o eb
    by_cases hb : b = a
    · subst hb
      refine ⟨fun ni => ?_, _, upd_same⟩
      rcases h4 b (by simp) with y | y
      · rw [y] at eb; cases eb
      · exact absurd y ni
    · rw [upd_ne hb]; exact ⟨z1, o', z2⟩
/-- .. the owned list behind the top temps -/
theorem Rel.mutT {A : List D} {va : List V} {ds : List D} {v : V} (hl : va.length = A.length) (r : Rel K X H0 io (A ++ .own ds :: T) (va ++ v :: t) e s H) :
    ∃ a vs P bs aa, v = V.ref a ∧ H a = some (.lst vs) ∧ Owns K P H ds vs bs ∧ Owns K P H A va aa ∧ (aa ++ bs).Nodup ∧
      ∀ ds' vs' A' va' bs' aa', Owns K P H ds' vs' bs' → Owns K P H A' va' aa' → (aa' ++ bs').Nodup → (∀ x ∈ aa' ++ bs', x ∈ aa ++ bs) →
        Rel K X H0 io (A' ++ .own ds' :: T) (va' ++ v :: t) e s (upd H a (.lst vs')) := by
  obtain ⟨as, cs, h1, h2, h3, h4, h5, h6⟩ := r
  obtain ⟨v1, v2, a1, a2, e1, e2, e3, o1, o2⟩ := Owns.split A h1
  obtain ⟨e4, e5⟩ := List.append_inj e1 (by rw [hl, e3])
  subst e4 e2
  rw [← e5] at o2
  unfold Owns at o2
  obtain ⟨v', r', b2, c2, ev, q2, o3, ea⟩ := o2
  cases ev; subst ea
  unfold Own at q2
  obtain ⟨a, vs, bs, ev, qa, qo, eb⟩ := q2
  subst ev eb
  have p0 : (a1 ++ (a :: bs ++ c2) ++ cs).Perm (a :: (a1 ++ bs) ++ (c2 ++ cs)) := by
    rw [List.perm_iff_count]
    intro x
    simp only [List.count_append, List.count_cons, List.cons_append]
    omega
  have nd := p0.nodup_iff.mp h3
  obtain ⟨n1, n2, n3⟩ := List.nodup_append.mp nd
  obtain ⟨n4, n5⟩ := List.nodup_cons.mp n1
  refine ⟨a, vs, _, bs, a1, rfl, qa, qo, o1, n5, fun ds' vs' A' va' bs' aa' w1 w2 w3 w4 => ?_⟩
  have ne : ∀ x ∈ a1 ++ bs, x ≠ a := fun x hx z => n4 (z ▸ hx)
  have ne2 : ∀ x ∈ c2 ++ cs, x ≠ a := fun x hx z => n3 a (List.mem_cons_self ..) x hx z.symm
  have sub : ∀ x ∈ aa' ++ (a :: bs' ++ c2) ++ cs, x ∈ a1 ++ (a :: bs ++ c2) ++ cs := fun x hx => by
    have hx' : x ∈ aa' ++ bs' ∨ x = a ∨ x ∈ c2 ++ cs := by
      simp at hx ⊢
      rcases hx with z | z | z | z | z <;> simp [z]
    rcases hx' with z | z | z
    · have := w4 x z
      simp at this ⊢
      rcases this with y | y <;> simp [y]
    · simp [z]
    · simp at z ⊢
      rcases z with y | y <;> simp [y]
  have m : Mono (inX X (a1 ++ (a :: bs ++ c2) ++ cs)) H (inX X (aa' ++ (a :: bs' ++ c2) ++ cs)) (upd H a (.lst vs')) :=
    ⟨fun x o ex nx => ⟨by rw [upd_ne (fun z => nx (.inl (by rw [z]; simp)))]; exact ex, fun z => nx (z.imp (sub x) id)⟩, fun x o u ex => by
      rw [upd_ne (fun z => by rw [z, qa] at ex; cases ex)]; exact ex⟩
  have st : ∀ x, x ≠ a → upd H a (.lst vs') x = H x := fun x hx => upd_ne hx
  refine ⟨aa' ++ (a :: bs' ++ c2), cs, Owns.join A' (Owns.mono A' ⟨m, fun x hx => st x (ne x (w4 x (List.mem_append_left _ hx)))⟩ w2) ?_, Cells.mono e ⟨m, fun x hx => st x (ne2 x (List.mem_append_right _ hx))⟩ h2, ?_, fun x hx => h4 x (sub x hx), fun b o eb => ?_, h6⟩
  · unfold Owns
    refine ⟨V.ref a, t, a :: bs', c2, rfl, ?_, Owns.mono T ⟨m, fun x hx => st x (ne2 x (List.mem_append_left _ hx))⟩ o3, rfl⟩
    unfold Own
    exact ⟨a, vs', bs', rfl, upd_same, Owns.mono ds' ⟨m, fun x hx => st x (ne x (w4 x (List.mem_append_right _ hx)))⟩ w1, rfl⟩
  · have p1 : (aa' ++ (a :: bs' ++ c2) ++ cs).Perm (a :: (aa' ++ bs') ++ (c2 ++ cs)) := by
      rw [List.perm_iff_count]
      intro x
      simp only [List.count_append, List.count_cons, List.cons_append]
      omega
    refine p1.nodup_iff.mpr (List.nodup_append.mpr ⟨List.nodup_cons.mpr ⟨fun z => ne a (w4 a z) rfl, w3⟩, n2, fun x hx y hy => ?_⟩)
    rcases List.mem_cons.mp hx with z | z
    · exact fun w => ne2 y hy (w ▸ z)
    · exact n3 x (List.mem_cons_of_mem _ (w4 x z)) y hy
  · obtain ⟨z1, o', z2⟩ := h5 b o eb
    by_cases hb : b = a
    · subst hb
      refine ⟨fun ni => ?_, _, upd_same⟩
      rcases h4 b (by simp) with y | y
      · rw [y] at eb; cases eb
      · exact absurd y ni
    · rw [upd_ne hb]; exact ⟨z1, o', z2⟩
end
end Mi
namespace Mi
open PySem PySem.Spec PyProof.Rows L2

/-! ### what a piece of code comes to -/
inductive Rs (α : Type) where
  | ok (a : α) | exc (c : Str) (fs : List (Str × Int)) (e : Env) | err
def Rs.bind {α β : Type} (r : Rs α) (f : α → Rs β) : Rs β := match r with
  | .ok a => f a | .exc c fs e => .exc c fs e | .err => .err
def Rs.of {α : Type} (o : Option α) : Rs α := match o with
  | some a => .ok a | none => .err
inductive Sr where
  | nx (e : Env) | rt (d : D) (e : Env) | bk (e : Env) | ct (e : Env) | exc (c : Str) (fs : List (Str × Int)) (e : Env) | err
abbrev ME := Env → Rs (D × Env)
abbrev MA := Env → Rs (List D × Env)
abbrev MT := Env → Rs (Bool × Env)
abbrev MS := Env → Sr

/-- an exception of the class that bears the name c, with int fields -/
def XR (mg : Str → Option Value) (H : Hp) (c : Str) (fs : List (Str × Int)) (cls : Value) (dd : Option Addr) : Prop :=
  ∃ C, mg c = some (.ref C) ∧ cls = .ref C ∧ ((fs = [] ∧ dd = none) ∨ (fs ≠ [] ∧ ∃ dx, dd = some dx ∧ H dx = some (.xd (fs.map fun p => (p.1, V.int p.2)))))

section
variable (K : PySem.W.Frag) (mg : Str → Option Value) (W : WX) (Y : Addr → Prop) (H0 : Hp) (io : List (Nat × Addr)) (T : List D) (t : List V) (s : St)
def PostX (c : Str) (fs : List (Str × Int)) (e' : Env) : Prop := ∀ cls dd s' H', XR mg H' c fs cls dd → Rel K Y H0 io T t e' s' H' → W cls dd s' H'
def PostE (Q : VK) : Rs (D × Env) → Prop
  | .ok (d, e') => ∀ v H', Rel K Y H0 io (d :: T) (v :: t) e' s H' → Q v H'
  | .exc c fs e' => ∀ cls dd H', XR mg H' c fs cls dd → Rel K Y H0 io T t e' s H' → W cls dd s H'
  | .err => False
def PostA (Q : List V → Hp → Prop) : Rs (List D × Env) → Prop
  | .ok (ds, e') => ∀ vs H', vs.length = ds.length → Rel K Y H0 io (ds ++ T) (vs ++ t) e' s H' → Q vs H'
  | .exc c fs e' => ∀ cls dd H', XR mg H' c fs cls dd → Rel K Y H0 io T t e' s H' → W cls dd s H'
  | .err => False
def PostT (Q : Bool → Hp → Prop) : Rs (Bool × Env) → Prop
  | .ok (b, e') => ∀ H', Rel K Y H0 io T t e' s H' → Q b H'
  | .exc c fs e' => ∀ cls dd H', XR mg H' c fs cls dd → Rel K Y H0 io T t e' s H' → W cls dd s H'
  | .err => False
def PostS (D : Ends) : Sr → Prop
  | .nx e' => ∀ s' H', Rel K Y H0 io T t e' s' H' → D.nx s' H'
  | .rt d e' => ∀ v s' H', Rel K Y H0 io (d :: T) (v :: t) e' s' H' → D.rt v H'
  | .bk e' => ∀ s' H', Rel K Y H0 io T t e' s' H' → D.bk s' H'
  | .ct e' => ∀ s' H', Rel K Y H0 io T t e' s' H' → D.ct s' H'
  | .exc c fs e' => PostX K mg W Y H0 io T t c fs e'
  | .err => False
end
/-- which slots may not be stored to: those of io -/
def IoIn (io : List (Nat × Addr)) (ios : List Nat) : Prop := ∀ p ∈ io, p.1 ∈ ios
section
variable (K : PySem.W.Frag) (mg : Str → Option Value) (W : WX)
def SimE (t : TE) (m : ME) : Prop := ∀ Y H0 io T τ e s H Q, Rel K Y H0 io T τ e s H → PostE K mg W Y H0 io T τ s Q (m e) → t s H Q
def SimA (t : TA) (m : MA) : Prop := ∀ Y H0 io T τ e s H Q, Rel K Y H0 io T τ e s H → PostA K mg W Y H0 io T τ s Q (m e) → t s H Q
def SimT (t : TT) (m : MT) : Prop := ∀ Y H0 io T τ e s H Q, Rel K Y H0 io T τ e s H → PostT K mg W Y H0 io T τ s Q (m e) → t s H Q
def SimS (ios : List Nat) (t : TS) (m : MS) : Prop := ∀ Y H0 io T τ e s H D, IoIn io ios → Rel K Y H0 io T τ e s H → PostS K mg W Y H0 io T τ D (m e) → t D s H
end
def DE (X : Cx) (W : WX) (e : Expr) (m : ME) : Prop := ∃ t, PE X e t ∧ SimE X.K X.mg W t m
def DA (X : Cx) (W : WX) (es : List Expr) (m : MA) : Prop := ∃ t, PA X es t ∧ SimA X.K X.mg W t m
def DT (X : Cx) (W : WX) (e : Expr) (m : MT) : Prop := ∃ t, PT X e t ∧ SimT X.K X.mg W t m
def DS (X : Cx) (W : WX) (ios : List Nat) (st : Stmt) (m : MS) : Prop := ∃ t, PS X st t ∧ SimS X.K X.mg W ios t m
def DB (X : Cx) (W : WX) (ios : List Nat) (sts : List Stmt) (m : MS) : Prop := ∃ t, PSs X sts t ∧ SimS X.K X.mg W ios t m

/-! ### names and constants -/
def mVar (i : Nat) : ME := fun e => match e[i]? with
  | some (some d) => if d.plain then .ok (d, e) else .err
  | _ => .err
def mMove (i : Nat) : ME := fun e => match e[i]? with
  | some (some d) => .ok (d, e.set i none)
  | _ => .err
def mC (d : D) : ME := fun e => .ok (d, e)
section
variable {X : Cx} {W : WX} {pos : Pos}
theorem sim_var {K : PySem.W.Frag} {mg : Str → Option Value} (i : Nat) : SimE K mg W (tVar i) (mVar i) := by
  intro Y H0 io T τ e s H Q r p
  unfold mVar at p
  cases q : e[i]? with
  | none => rw [q] at p; exact p.elim
  | some o =>
    cases o with
    | none => rw [q] at p; exact p.elim
    | some d =>
      rw [q] at p
      simp only at p
      by_cases pl : d.plain = true
      · rw [if_pos pl] at p
        obtain ⟨v, h1, h2⟩ := r.get q pl
        exact ⟨v, h1, p v H h2⟩
      · rw [if_neg pl] at p; exact p.elim
theorem sim_move {K : PySem.W.Frag} {mg : Str → Option Value} (i : Nat) : SimE K mg W (tVar i) (mMove i) := by
  intro Y H0 io T τ e s H Q r p
  unfold mMove at p
  cases q : e[i]? with
  | none => rw [q] at p; exact p.elim
  | some o =>
    cases o with
    | none => rw [q] at p; exact p.elim
    | some d =>
      rw [q] at p
      obtain ⟨v, h1, h2⟩ := r.move q
      exact ⟨v, h1, p v H h2⟩
theorem de_var (i : Nat) {x : Str} (hN : X.N[i]? = some x := by rfl) (hv : Vis X.env.scope x := by first | exact Or.inl rfl | exact Or.inr (Or.inl rfl) | exact Or.inr (Or.inr rfl)) (hd : (x == ("__debug__" : Str)) = false := by decide)
    (hcd : (x == ("__classdict__" : Str)) = false := by decide) : DE X W (.Name x pos) (mVar i) := ⟨_, pe_var hN hv hd hcd, sim_var i⟩
theorem de_move (i : Nat) {x : Str} (hN : X.N[i]? = some x := by rfl) (hv : Vis X.env.scope x := by first | exact Or.inl rfl | exact Or.inr (Or.inl rfl) | exact Or.inr (Or.inr rfl)) (hd : (x == ("__debug__" : Str)) = false := by decide)
    (hcd : (x == ("__classdict__" : Str)) = false := by decide) : DE X W (.Name x pos) (mMove i) := ⟨_, pe_var hN hv hd hcd, sim_move i⟩
theorem sim_c {K : PySem.W.Frag} {mg : Str → Option Value} {d : D} {v : V} (h : ∀ P H, Rep K P H d v) : SimE K mg W (tC v) (mC d) := by
  intro Y H0 io T τ e s H Q r p
  exact p v H (r.pushR fun P => h P H)
theorem de_int {i j} : DE X W (.Constant (.int i) j pos) (mC (.int i)) := ⟨_, pe_int, sim_c fun _ _ => by unfold Rep; rfl⟩
theorem de_bl {i j} : DE X W (.Constant (.bool i) j pos) (mC (.bl i)) := ⟨_, pe_bl, sim_c fun _ _ => by unfold Rep; rfl⟩
theorem de_non {j} : DE X W (.Constant .none j pos) (mC .non) := ⟨_, pe_non, sim_c fun _ _ => by unfold Rep; rfl⟩
theorem de_str {i j} : DE X W (.Constant (.str i) j pos) (mC (.str i)) := ⟨_, pe_str, sim_c fun _ _ => by unfold Rep; rfl⟩
/-- a module's constant, def or class -/
theorem de_glob {x : Str} {d : D} {v : V} {u : Value} (hg : Gl X x) (hm : X.mg x = some u) (r : RelV v u) (h : ∀ P H, Rep X.K P H d v) (hd : (x == ("__debug__" : Str)) = false := by decide) : DE X W (.Name x pos) (mC d) := ⟨_, pe_glob hg hm r hd, sim_c h⟩
theorem de_bltn {x : Str} {v : V} {u : Value} (hg : Gl X x) (hm : X.mg x = none) (hv : bootBuiltins x = some u) (r : RelV v u) (hn : x ≠ "__name__" := by decide) (hd : (x == ("__debug__" : Str)) = false := by decide) : DE X W (.Name x pos) (mC (.raw v)) :=
  ⟨_, pe_bltn hg hm hv r hn hd, sim_c fun _ _ => by unfold Rep; rfl⟩
end

/-! ### operators by values -/
def Ok1 (K : PySem.W.Frag) (r : V → Hp → VK → Prop) (f : D → Option D) : Prop := ∀ Y H0 io T τ e s H a va d Q, f a = some d → Rel K Y H0 io (a :: T) (va :: τ) e s H → (∀ v H', Rel K Y H0 io (d :: T) (v :: τ) e s H' → Q v H') → r va H Q
def Ok2 (K : PySem.W.Frag) (r : R2) (f : D → D → Option D) : Prop := ∀ Y H0 io T τ e s H a b va vb d Q, f a b = some d → Rel K Y H0 io (b :: a :: T) (vb :: va :: τ) e s H → (∀ v H', Rel K Y H0 io (d :: T) (v :: τ) e s H' → Q v H') → r va vb H Q
def OkL (K : PySem.W.Frag) (r : List V → Hp → VK → Prop) (f : List D → Option D) : Prop := ∀ Y H0 io T τ e s H ds vs d Q, f ds = some d → vs.length = ds.length → Rel K Y H0 io (ds ++ T) (vs ++ τ) e s H → (∀ v H', Rel K Y H0 io (d :: T) (v :: τ) e s H' → Q v H') → r vs H Q
def mOp1 (f : D → Option D) (ma : ME) : ME := fun e => (ma e).bind fun p => Rs.of ((f p.1).map fun d => (d, p.2))
def mOp2 (f : D → D → Option D) (ma mb : ME) : ME := fun e => (ma e).bind fun p => (mb p.2).bind fun q => Rs.of ((f p.1 q.1).map fun d => (d, q.2))
def mOpL (f : List D → Option D) (ma : MA) : ME := fun e => (ma e).bind fun p => Rs.of ((f p.1).map fun d => (d, p.2))
section
variable {K : PySem.W.Frag} {mg : Str → Option Value} {W : WX} {ta tb : TE} {ma mb : ME}
/-- the continuation of an expression -/
theorem SimE.then (h : SimE K mg W ta ma) {Y H0 io T τ e s H} {Q : VK} (r : Rel K Y H0 io T τ e s H) {β : Type} {k : D × Env → Rs β} {P : Rs β → Prop} (p : P ((ma e).bind k)) (herr : ¬ P .err)
    (hexc : ∀ c fs e', P (.exc c fs e') → ∀ cls dd H', XR mg H' c fs cls dd → Rel K Y H0 io T τ e' s H' → W cls dd s H')
    (hk : ∀ d e', P (k (d, e')) → ∀ v H', Rel K Y H0 io (d :: T) (v :: τ) e' s H' → Q v H') : ta s H Q := by
  refine h Y H0 io T τ e s H Q r ?_
  cases q : ma e with
  | ok a =>
    obtain ⟨d, e'⟩ := a
    rw [q] at p
    exact hk d e' p
  | exc c fs e' =>
    rw [q] at p
    exact hexc c fs e' p
  | err => rw [q] at p; exact (herr p).elim
theorem postE_exc {Y H0 io T τ s} {Q : VK} : ∀ c fs e', PostE K mg W Y H0 io T τ s Q (.exc c fs e') → ∀ cls dd H', XR mg H' c fs cls dd → Rel K Y H0 io T τ e' s H' → W cls dd s H' := fun _ _ _ h => h
theorem postA_exc {Y H0 io T τ s} {Q} : ∀ c fs e', PostA K mg W Y H0 io T τ s Q (.exc c fs e') → ∀ cls dd H', XR mg H' c fs cls dd → Rel K Y H0 io T τ e' s H' → W cls dd s H' := fun _ _ _ h => h
theorem postT_exc {Y H0 io T τ s} {Q} : ∀ c fs e', PostT K mg W Y H0 io T τ s Q (.exc c fs e') → ∀ cls dd H', XR mg H' c fs cls dd → Rel K Y H0 io T τ e' s H' → W cls dd s H' := fun _ _ _ h => h
theorem postE_exc1 {Y H0 io T τ s d v} {Q : VK} : ∀ c fs e', PostE K mg W Y H0 io T τ s Q (.exc c fs e') → ∀ cls dd H', XR mg H' c fs cls dd → Rel K Y H0 io (d :: T) (v :: τ) e' s H' → W cls dd s H' := fun _ _ _ h cls dd H' x r => h cls dd H' x r.pop
theorem postA_exc1 {Y H0 io T τ s d v} {Q} : ∀ c fs e', PostA K mg W Y H0 io T τ s Q (.exc c fs e') → ∀ cls dd H', XR mg H' c fs cls dd → Rel K Y H0 io (d :: T) (v :: τ) e' s H' → W cls dd s H' := fun _ _ _ h cls dd H' x r => h cls dd H' x r.pop
theorem sim_op1 {r : V → Hp → VK → Prop} {f : D → Option D} (ok : Ok1 K r f) (ha : SimE K mg W ta ma) : SimE K mg W (tUn r ta) (mOp1 f ma) := by
  intro Y H0 io T τ e s H Q rl p
  refine ha.then rl (P := PostE K mg W Y H0 io T τ s Q) p id postE_exc fun d e' p v H' rl' => ?_
  cases q : f d with
  | none => simp only [q] at p; exact p.elim
  | some x =>
    simp only [q] at p
    exact ok Y H0 io T τ e' s H' d v x Q q rl' p
theorem sim_op2 {r : R2} {f : D → D → Option D} (ok : Ok2 K r f) (ha : SimE K mg W ta ma) (hb : SimE K mg W tb mb) : SimE K mg W (tOp r ta tb) (mOp2 f ma mb) := by
  intro Y H0 io T τ e s H Q rl p
  refine ha.then rl (P := PostE K mg W Y H0 io T τ s Q) p id postE_exc fun d e' p v H' rl' => ?_
  refine hb.then rl' (P := PostE K mg W Y H0 io T τ s Q) p id postE_exc1 fun d2 e2 p v2 H2 rl2 => ?_
  cases q : f d d2 with
  | none => simp only [q] at p; exact p.elim
  | some x =>
    simp only [q] at p
    exact ok Y H0 io T τ e2 s H2 d d2 v v2 x Q q rl2 p
/-- argument lists -/
def mNil : MA := fun e => .ok ([], e)
def mCons (ma : ME) (mr : MA) : MA := fun e => (ma e).bind fun p => (mr p.2).bind fun q => .ok (p.1 :: q.1, q.2)
theorem sim_nil : SimA K mg W tNil mNil := by
  intro Y H0 io T τ e s H Q rl p
  exact p [] H rfl rl
theorem SimA.then {ta : TA} {ma : MA} (h : SimA K mg W ta ma) {Y H0 io T τ e s H} {Q : List V → Hp → Prop} (r : Rel K Y H0 io T τ e s H) {β : Type} {k : List D × Env → Rs β} {P : Rs β → Prop} (p : P ((ma e).bind k)) (herr : ¬ P .err)
    (hexc : ∀ c fs e', P (.exc c fs e') → ∀ cls dd H', XR mg H' c fs cls dd → Rel K Y H0 io T τ e' s H' → W cls dd s H')
    (hk : ∀ ds e', P (k (ds, e')) → ∀ vs H', vs.length = ds.length → Rel K Y H0 io (ds ++ T) (vs ++ τ) e' s H' → Q vs H') : ta s H Q := by
  refine h Y H0 io T τ e s H Q r ?_
  cases q : ma e with
  | ok a =>
    obtain ⟨d, e'⟩ := a
    rw [q] at p
    exact hk d e' p
  | exc c fs e' =>
    rw [q] at p
    exact hexc c fs e' p
  | err => rw [q] at p; exact (herr p).elim
theorem sim_cons {tr : TA} {mr : MA} (ha : SimE K mg W ta ma) (hr : SimA K mg W tr mr) : SimA K mg W (tCons ta tr) (mCons ma mr) := by
  intro Y H0 io T τ e s H Q rl p
  refine ha.then rl (P := PostA K mg W Y H0 io T τ s Q) p id postA_exc fun d e' p v H' rl' => ?_
  refine hr.then rl' (P := PostA K mg W Y H0 io T τ s Q) p id postA_exc1 fun ds e2 p vs H2 hl rl2 => ?_
  exact p (v :: vs) H2 (by simp [hl]) (Rel.mid hl rl2)
theorem sim_opL {r : List V → Hp → VK → Prop} {f : List D → Option D} {ta : TA} {ma : MA} (ok : OkL K r f) (ha : SimA K mg W ta ma) : SimE K mg W (tCB r ta) (mOpL f ma) := by
  intro Y H0 io T τ e s H Q rl p
  refine ha.then rl (P := PostE K mg W Y H0 io T τ s Q) p id postE_exc fun ds e' p vs H' hl rl' => ?_
  cases q : f ds with
  | none => simp only [q] at p; exact p.elim
  | some x =>
    simp only [q] at p
    exact ok Y H0 io T τ e' s H' ds vs x Q q hl rl' p
/-- displays -/
def mLst (ma : MA) : ME := fun e => (ma e).bind fun p => if p.1.length ≤ sizeLine then .ok (.own p.1, p.2) else .err
def mTup (ma : MA) : ME := fun e => (ma e).bind fun p => if p.1.length ≤ sizeLine then .ok (.tup (frzs p.1), p.2) else .err
theorem sim_lst {ta : TA} {ma : MA} (ha : SimA K mg W ta ma) : SimE K mg W (tLst ta) (mLst ma) := by
  intro Y H0 io T τ e s H Q rl p
  refine ha.then rl (P := PostE K mg W Y H0 io T τ s Q) p id postE_exc fun ds e' p vs H' hl rl' => ?_
  by_cases hz : ds.length ≤ sizeLine
  · rw [if_pos hz] at p
    exact ⟨by rw [hl]; exact hz, fun q hq => p _ _ (Rel.list hl rl' hq)⟩
  · rw [if_neg hz] at p; exact p.elim
end
section
variable {K : PySem.W.Frag} {Y : Addr → Prop} {H0 H H' : Hp} {io : List (Nat × Addr)} {T : List D} {t : List V} {e : Env} {s : St} {d : D} {v : V}
theorem Rel.noY {p : Addr} (r : Rel K Y H0 io T t e s H) (hp : H p = none) : ¬ Y p := fun z => by
  obtain ⟨as, bs, h1, h2, h3, h4, h5, h6⟩ := r
  obtain ⟨⟨o, q, _⟩, _⟩ := h6.2 p z
  obtain ⟨o', q'⟩ := (h5 p o q).2
  rw [hp] at q'; cases q'
/-- the top temps frozen -/
theorem Rel.frzA {A : List D} {va : List V} (hl : va.length = A.length) (r : Rel K Y H0 io (A ++ T) (va ++ t) e s H) : Rel K Y H0 io (frzs A ++ T) (va ++ t) e s H := by
  obtain ⟨as, bs, h1, h2, h3, h4, h5, h6⟩ := r
  obtain ⟨v1, v2, a1, a2, e1, e2, e3, q1, q2⟩ := Owns.split A h1
  obtain ⟨e4, e5⟩ := List.append_inj e1 (by rw [hl, e3])
  subst e4 e5 e2
  have sub : ∀ a ∈ a2 ++ bs, a ∈ a1 ++ a2 ++ bs := fun a ha => by rw [List.append_assoc]; exact List.mem_append_right _ ha
  have h3' := h3
  rw [List.append_assoc] at h3'
  obtain ⟨n1, n2, n3⟩ := List.nodup_append.mp h3'
  refine ⟨a2, bs, ?_, Cells.mono e ⟨mono_sub sub, fun _ _ => rfl⟩ h2, n2, fun a ha => h4 a (sub a ha), h5, h6⟩
  have q3 := Owns.frz A (mono_sub (X := Y) sub) (fun a ha z => z.elim (fun z => n3 a ha a z rfl) (noX h4 h6.2 a (List.mem_append_left _ (List.mem_append_left _ ha)))) q1
  have q4 := Owns.join (frzs A) (Owns.of q3) (Owns.mono T ⟨mono_sub (X := Y) sub, fun _ _ => rfl⟩ q2)
  exact q4
/-- a new tuple of the top temps -/
theorem Rel.tuple {A : List D} {va : List V} {p : Addr} (hl : va.length = A.length) (r : Rel K Y H0 io (A ++ T) (va ++ t) e s H) (hp : H p = none) :
    Rel K Y H0 io (.tup (frzs A) :: T) (V.ref p :: t) e s (upd H p (.tup va)) := by
  have r2 := (r.frzA hl).new (u := .tup va) hp
  obtain ⟨as, bs, h1, h2, h3, h4, h5, h6⟩ := r2
  obtain ⟨v1, v2, a1, a2, e1, e2, e3, q1, q2⟩ := Owns.split (frzs A) h1
  obtain ⟨e4, e5⟩ := List.append_inj e1 (by rw [hl, e3, frzs_length])
  subst e4 e5
  obtain ⟨q3, q4⟩ := Owns.reps (plains_frz A) q1
  have e6 : as = a2 := by rw [e2, q4]; rfl
  refine ⟨as, bs, ?_, h2, h3, h4, h5, h6⟩
  unfold Owns
  refine ⟨V.ref p, t, [], as, rfl, ?_, by rw [e6] at q2 ⊢; exact q2, rfl⟩
  refine Own.of ?_
  unfold Rep
  refine ⟨p, va, rfl, .inl (.inl ⟨upd_same, fun z => ?_⟩), q3⟩
  rcases z with z | z
  · rcases List.mem_append.mp z with z | z
    · obtain ⟨vs, q⟩ := Owns.there _ h1 p z
      rw [upd_same] at q; cases q
    · obtain ⟨vs, q⟩ := Cells.there _ h2 p z
      rw [upd_same] at q; cases q
  · exact r.noY hp z
end
end Mi
namespace Mi
open PySem PySem.Spec PyProof.Rows L2

section
variable {K : PySem.W.Frag} {Y : Addr → Prop} {H0 H H' : Hp} {io : List (Nat × Addr)} {T : List D} {t : List V} {e : Env} {s : St} {d a b : D} {v va vb : V}
theorem Rel.top2 (r : Rel K Y H0 io (b :: a :: T) (vb :: va :: t) e s H) : ∃ P as bs, Own K P H b vb bs ∧ Own K P H a va as := by
  obtain ⟨as, bs, h1, _⟩ := r
  unfold Owns at h1
  obtain ⟨v', r', b1, c1, e1, o1, o2, ea⟩ := h1
  cases e1
  unfold Owns at o2
  obtain ⟨v', r', b2, c2, e1, o3, o4, ea⟩ := o2
  cases e1
  exact ⟨_, _, _, o1, o3⟩
theorem Rel.topA {A : List D} {va : List V} (hl : va.length = A.length) (r : Rel K Y H0 io (A ++ T) (va ++ t) e s H) : ∃ P as, Owns K P H A va as := by
  obtain ⟨as, bs, h1, _⟩ := r
  obtain ⟨v1, v2, a1, a2, e1, e2, e3, q1, q2⟩ := Owns.split A h1
  obtain ⟨e4, e5⟩ := List.append_inj e1 (by rw [hl, e3])
  subst e4
  exact ⟨_, _, q1⟩
theorem Rel.popA : ∀ {A : List D} {va : List V}, va.length = A.length → Rel K Y H0 io (A ++ T) (va ++ t) e s H → Rel K Y H0 io T t e s H
  | [], [], _, r => r
  | d :: A, v :: va, hl, r => Rel.popA (by simpa using hl) (Rel.pop (d := d) (v := v) r)
  | [], _ :: _, hl, _ => by simp at hl
  | _ :: _, [], hl, _ => by simp at hl

/-! ### kinds -/
theorem Own.int {P : Addr → Prop} {as} {i : Int} (h : Own K P H (.int i) v as) : v = .int i := by unfold Own Rep at h; exact h.1
theorem Own.bl {P : Addr → Prop} {as} {i : Bool} (h : Own K P H (.bl i) v as) : v = .bl i := by unfold Own Rep at h; exact h.1
theorem Own.str {P : Addr → Prop} {as} {i : Str} (h : Own K P H (.str i) v as) : v = .str i := by unfold Own Rep at h; exact h.1
theorem Own.non {P : Addr → Prop} {as} (h : Own K P H .non v as) : v = .non := by unfold Own Rep at h; exact h.1
theorem Own.raw {P : Addr → Prop} {as} {u : V} (h : Own K P H (.raw u) v as) : v = u := by unfold Own Rep at h; exact h.1
theorem Own.tup {P : Addr → Prop} {as} {ds : List D} (h : Own K P H (.tup ds) v as) : ∃ a vs, v = .ref a ∧ TqT K P H a vs ∧ Reps K P H ds vs := by unfold Own Rep at h; exact h.1
theorem Own.lst {P : Addr → Prop} {as} {ds : List D} (h : Own K P H (.lst ds) v as) : ∃ a vs, v = .ref a ∧ H a = some (.lst vs) ∧ Reps K P H ds vs := by
  unfold Own Rep at h
  obtain ⟨⟨a, vs, e, ⟨q, _⟩, r⟩, _⟩ := h
  exact ⟨a, vs, e, q, r⟩
theorem Own.cst {P : Addr → Prop} {as} {ds : List D} (h : Own K P H (.cst ds) v as) : ∃ a vs, v = .ref a ∧ CqL K H a vs ∧ Reps K P H ds vs := by unfold Own Rep at h; exact h.1
theorem Own.own {P : Addr → Prop} {as} {ds : List D} (h : Own K P H (.own ds) v as) : ∃ a vs bs, v = .ref a ∧ H a = some (.lst vs) ∧ Owns K P H ds vs bs ∧ as = a :: bs := by unfold Own at h; exact h
theorem Rep.own {P : Addr → Prop} (h : Rep K P H d v) : Own K P H d v [] := Own.of h
end

/-! ### the items of a list or tuple -/
def items : D → Option (List D)
  | .tup ds => some ds | .lst ds => some ds | .cst ds => some ds | .own ds => some ds
  | _ => none
def isSeq (x : V) (K : PySem.W.Frag) (H : Hp) (vs : List V) : Prop := ∃ a, x = .ref a ∧ (SqL K H a vs ∨ SqT K H a vs)
section
variable {K : PySem.W.Frag} {P : Addr → Prop} {H : Hp}
theorem Own.seq {d : D} {v : V} {as : List Addr} {ds : List D} (h : Own K P H d v as) (e : items d = some ds) : ∃ a vs bs, v = .ref a ∧ (SqL K H a vs ∨ SqT K H a vs) ∧ Owns K P H ds vs bs := by
  cases d <;> simp only [items, Option.some.injEq, reduceCtorEq] at e
  · subst e; obtain ⟨a, vs, e, q, r⟩ := h.tup; exact ⟨a, vs, [], e, .inr q.sq, Owns.of r⟩
  · subst e; obtain ⟨a, vs, e, q, r⟩ := h.lst; exact ⟨a, vs, [], e, .inl (SqL.of q), Owns.of r⟩
  · subst e; obtain ⟨a, vs, e, q, r⟩ := h.cst; exact ⟨a, vs, [], e, .inl q.sq, Owns.of r⟩
  · subst e; obtain ⟨a, vs, bs, e, q, r, _⟩ := h.own; exact ⟨a, vs, bs, e, .inl (SqL.of q), r⟩
/-- the items of a list -/
def litems : D → Option (List D)
  | .lst ds => some ds | .cst ds => some ds | .own ds => some ds
  | _ => none
theorem Own.lseq {d : D} {v : V} {as : List Addr} {ds : List D} (h : Own K P H d v as) (e : litems d = some ds) : ∃ a vs bs, v = .ref a ∧ SqL K H a vs ∧ Owns K P H ds vs bs := by
  cases d <;> simp only [litems, Option.some.injEq, reduceCtorEq] at e
  · subst e; obtain ⟨a, vs, e, q, r⟩ := h.lst; exact ⟨a, vs, [], e, SqL.of q, Owns.of r⟩
  · subst e; obtain ⟨a, vs, e, q, r⟩ := h.cst; exact ⟨a, vs, [], e, q.sq, Owns.of r⟩
  · subst e; obtain ⟨a, vs, bs, e, q, r, _⟩ := h.own; exact ⟨a, vs, bs, e, SqL.of q, r⟩
/-- intsD, truths -/
def intsD : List D → Option (List Int)
  | [] => some []
  | .int i :: ds => (intsD ds).map (i :: ·)
  | _ :: _ => none
def blsD : List D → Option (List Bool)
  | [] => some []
  | .bl i :: ds => (blsD ds).map (i :: ·)
  | _ :: _ => none
def strsD : List D → Option (List Str)
  | [] => some []
  | .str i :: ds => (strsD ds).map (i :: ·)
  | _ :: _ => none
theorem ints_eq : ∀ {ds : List D} {ns : List Int}, intsD ds = some ns → ds = ns.map D.int
  | [], ns, h => by unfold intsD at h; cases h; rfl
  | d :: ds, ns, h => by
    cases d <;> simp only [intsD, reduceCtorEq] at h
    cases q : intsD ds with
    | none => rw [q] at h; cases h
    | some ms => rw [q] at h; cases h; rw [ints_eq q]; rfl
theorem ints_map : ∀ ns : List Int, intsD (ns.map D.int) = some ns
  | [] => rfl
  | n :: ns => by rw [List.map_cons]; unfold intsD; rw [ints_map ns]; rfl
theorem bls_eq : ∀ {ds : List D} {ns : List Bool}, blsD ds = some ns → ds = ns.map D.bl
  | [], ns, h => by unfold blsD at h; cases h; rfl
  | d :: ds, ns, h => by
    cases d <;> simp only [blsD, reduceCtorEq] at h
    cases q : blsD ds with
    | none => rw [q] at h; cases h
    | some ms => rw [q] at h; cases h; rw [bls_eq q]; rfl
theorem bls_map : ∀ ns : List Bool, blsD (ns.map D.bl) = some ns
  | [] => rfl
  | n :: ns => by rw [List.map_cons]; unfold blsD; rw [bls_map ns]; rfl
theorem strs_eq : ∀ {ds : List D} {ns : List Str}, strsD ds = some ns → ds = ns.map D.str
  | [], ns, h => by unfold strsD at h; cases h; rfl
  | d :: ds, ns, h => by
    cases d <;> simp only [strsD, reduceCtorEq] at h
    cases q : strsD ds with
    | none => rw [q] at h; cases h
    | some ms => rw [q] at h; cases h; rw [strs_eq q]; rfl
theorem strs_map : ∀ ns : List Str, strsD (ns.map D.str) = some ns
  | [] => rfl
  | n :: ns => by rw [List.map_cons]; unfold strsD; rw [strs_map ns]; rfl
theorem owns_ints : ∀ {ns : List Int} {vs : List V} {as}, Owns K P H (ns.map D.int) vs as → vs = ns.map V.int
  | [], vs, as, h => by rw [List.map_nil] at h; unfold Owns at h; exact h.1
  | n :: ns, vs, as, h => by
    rw [List.map_cons] at h; unfold Owns at h
    obtain ⟨v, r, bs, cs, e, h1, h2, _⟩ := h
    rw [e, h1.int, owns_ints h2]; rfl
theorem owns_bls : ∀ {ns : List Bool} {vs : List V} {as}, Owns K P H (ns.map D.bl) vs as → vs = ns.map V.bl
  | [], vs, as, h => by rw [List.map_nil] at h; unfold Owns at h; exact h.1
  | n :: ns, vs, as, h => by
    rw [List.map_cons] at h; unfold Owns at h
    obtain ⟨v, r, bs, cs, e, h1, h2, _⟩ := h
    rw [e, h1.bl, owns_bls h2]; rfl
theorem owns_strs : ∀ {ns : List Str} {vs : List V} {as}, Owns K P H (ns.map D.str) vs as → vs = ns.map V.str
  | [], vs, as, h => by rw [List.map_nil] at h; unfold Owns at h; exact h.1
  | n :: ns, vs, as, h => by
    rw [List.map_cons] at h; unfold Owns at h
    obtain ⟨v, r, bs, cs, e, h1, h2, _⟩ := h
    rw [e, h1.str, owns_strs h2]; rfl

/-! ### data for == -/
mutual
def toPy : D → Option PyData
  | .non => some .none | .bl b => some (.bool b) | .int i => some (.int i) | .str x => some (.str x) | .raw _ => none
  | .tup ds => (toPys ds).map PyData.tuple | .lst ds => (toPys ds).map PyData.list | .cst ds => (toPys ds).map PyData.list | .own ds => (toPys ds).map PyData.list
def toPys : List D → Option (List PyData)
  | [] => some []
  | d :: ds => (toPy d).bind fun p => (toPys ds).map (p :: ·)
end
mutual
theorem Own.dp : ∀ (d : D) {v : V} {as : List Addr} {p : PyData}, Own K P H d v as → toPy d = some p → Dp K H v p
  | .non, v, as, p, h, e => by unfold toPy at e; cases e; rw [h.non]; exact .non
  | .bl b, v, as, p, h, e => by unfold toPy at e; cases e; rw [h.bl]; exact .bl b
  | .int b, v, as, p, h, e => by unfold toPy at e; cases e; rw [h.int]; exact .int b
  | .str b, v, as, p, h, e => by unfold toPy at e; cases e; rw [h.str]; exact .str b
  | .raw _, v, as, p, h, e => by unfold toPy at e; cases e
  | .tup ds, v, as, p, h, e => by
    unfold toPy at e
    obtain ⟨q, e1, e2⟩ := Option.map_eq_some_iff.mp e
    obtain ⟨a, vs, e3, h1, h2⟩ := h.tup
    subst e2 e3
    exact .tup h1.sq (Reps.dps ds h2 e1)
  | .lst ds, v, as, p, h, e => by
    unfold toPy at e
    obtain ⟨q, e1, e2⟩ := Option.map_eq_some_iff.mp e
    obtain ⟨a, vs, e3, h1, h2⟩ := h.lst
    subst e2 e3
    exact .lst (SqL.of h1) (Reps.dps ds h2 e1)
  | .cst ds, v, as, p, h, e => by
    unfold toPy at e
    obtain ⟨q, e1, e2⟩ := Option.map_eq_some_iff.mp e
    obtain ⟨a, vs, e3, h1, h2⟩ := h.cst
    subst e2 e3
    exact .lst h1.sq (Reps.dps ds h2 e1)
  | .own ds, v, as, p, h, e => by
    unfold toPy at e
    obtain ⟨q, e1, e2⟩ := Option.map_eq_some_iff.mp e
    obtain ⟨a, vs, bs, e3, h1, h2, _⟩ := h.own
    subst e2 e3
    exact .lst (SqL.of h1) (Owns.dps ds h2 e1)
theorem Owns.dps : ∀ (ds : List D) {vs : List V} {as : List Addr} {ps : List PyData}, Owns K P H ds vs as → toPys ds = some ps → DpAll K H vs ps
  | [], vs, as, ps, h, e => by unfold toPys at e; cases e; unfold Owns at h; rw [h.1]; exact .nil
  | d :: ds, vs, as, ps, h, e => by
    unfold toPys at e
    unfold Owns at h
    obtain ⟨v, r, bs, cs, e1, h1, h2, _⟩ := h
    obtain ⟨p, e2, e3⟩ := Option.bind_eq_some_iff.mp e
    obtain ⟨q, e4, e5⟩ := Option.map_eq_some_iff.mp e3
    subst e1 e5
    exact .cons (Own.dp d h1 e2) (Owns.dps ds h2 e4)
theorem Reps.dps : ∀ (ds : List D) {vs : List V} {ps : List PyData}, Reps K P H ds vs → toPys ds = some ps → DpAll K H vs ps
  | [], vs, ps, h, e => by unfold toPys at e; cases e; unfold Reps at h; rw [h]; exact .nil
  | d :: ds, vs, ps, h, e => by
    unfold toPys at e
    unfold Reps at h
    obtain ⟨v, r, e1, h1, h2⟩ := h
    obtain ⟨p, e2, e3⟩ := Option.bind_eq_some_iff.mp e
    obtain ⟨q, e4, e5⟩ := Option.map_eq_some_iff.mp e3
    subst e1 e5
    exact .cons (Own.dp d (Own.of h1) e2) (Reps.dps ds h2 e4)
end
end
def pyEq (a b : D) : Option Bool := (toPy a).bind fun p => (toPy b).bind fun q => if SeqAt.shaped p && SeqAt.shaped q then some (PyData.eqv p q) else none
def dEq (a b : D) : Option D := (pyEq a b).map D.bl
def dNe (a b : D) : Option D := (pyEq a b).map fun c => D.bl (!c)

/-! ### intsD -/
def fI (C : Int → Int → Prop) [∀ i j, Decidable (C i j)] (g : Int → Int → D) : D → D → Option D
  | .int i, .int j => if C i j then some (g i j) else none
  | _, _ => none
section
variable {K : PySem.W.Frag}
theorem ok_fI {C : Int → Int → Prop} [∀ i j, Decidable (C i j)] {g : Int → Int → D} {gv : Int → Int → V} (hg : ∀ i j P H, Rep K P H (g i j) (gv i j)) : Ok2 K (rI C gv) (fI C g) := by
  intro Y H0 io T τ e s H a b va vb d Q hf r q
  cases a <;> cases b <;> simp only [fI, reduceCtorEq] at hf
  rename_i i j
  by_cases c : C i j
  · rw [if_pos c] at hf
    cases hf
    obtain ⟨P, as, bs, o1, o2⟩ := r.top2
    exact ⟨i, j, o2.int, o1.int, c, q _ _ (r.pop.pop.pushR fun P => hg i j P H)⟩
  · rw [if_neg c] at hf; cases hf
theorem ok_fI0 {g : Int → Int → D} {gv : Int → Int → V} (hg : ∀ i j P H, Rep K P H (g i j) (gv i j)) : Ok2 K (rI0 gv) (fI (fun _ _ => True) g) := by
  intro Y H0 io T τ e s H a b va vb d Q hf r q
  cases a <;> cases b <;> simp only [fI, reduceCtorEq, if_true, Option.some.injEq] at hf
  rename_i i j
  subst hf
  obtain ⟨P, as, bs, o1, o2⟩ := r.top2
  exact ⟨i, j, o2.int, o1.int, q _ _ (r.pop.pop.pushR fun P => hg i j P H)⟩
theorem rep_int {P : Addr → Prop} {H : Hp} {i : Int} : Rep K P H (.int i) (.int i) := by unfold Rep; rfl
theorem rep_bl {P : Addr → Prop} {H : Hp} {i : Bool} : Rep K P H (.bl i) (.bl i) := by unfold Rep; rfl
theorem rep_str {P : Addr → Prop} {H : Hp} {i : Str} : Rep K P H (.str i) (.str i) := by unfold Rep; rfl
theorem rep_non {P : Addr → Prop} {H : Hp} : Rep K P H .non .non := by unfold Rep; rfl
/-- one rule or another -/
theorem Ok2.or {r r' : R2} {f f' : D → D → Option D} (h : Ok2 K r f) (h' : Ok2 K r' f') : Ok2 K (fun x y H Q => r x y H Q ∨ r' x y H Q) (fun a b => (f a b).or (f' a b)) := by
  intro Y H0 io T τ e s H a b va vb d Q hf r q
  have hf : (f a b).or (f' a b) = some d := hf
  cases c : f a b with
  | some x => rw [c] at hf; exact .inl (h Y H0 io T τ e s H a b va vb d Q (by rw [c]; exact hf) r q)
  | none => rw [c] at hf; exact .inr (h' Y H0 io T τ e s H a b va vb d Q hf r q)
theorem Ok2.cong {r : R2} {f f' : D → D → Option D} (h : Ok2 K r f) (e : ∀ a b d, f' a b = some d → f a b = some d) : Ok2 K r f' :=
  fun Y H0 io T τ en s H a b va vb d Q hf r q => h Y H0 io T τ en s H a b va vb d Q (e a b d hf) r q
instance (i j : Int) : Decidable (CDivW i j) := by unfold CDivW; infer_instance
instance (i j : Int) : Decidable (CMulX i j) := by unfold CMulX; infer_instance
instance (i j : Int) : Decidable (CPow i j) := by unfold CPow; infer_instance
def dSub := fI (fun _ _ => True) fun i j => .int (i - j)
def dFdiv := fI CDivW fun i j => .int (i / j)
def dMod := fI (fun _ j => 0 < j) fun i j => .int (i % j)
def dPow := fI CPow fun i j => .int (i ^ j.toNat)
def dXor := fI (fun _ _ => True) fun i j => .int (Builtin.bitXor i j)
def dAnd := fI (fun _ _ => True) fun i j => .int (Builtin.bitAnd i j)
def dShr := fI (fun _ j => 0 ≤ j) fun i j => .int (i / 2 ^ j.toNat)
def dShl := fI CPow fun i j => .int (i * 2 ^ j.toNat)
def dMulI := fI CMulX fun i j => .int (i * j)
def dAddI := fI (fun _ _ => True) fun i j => .int (i + j)
def dGt := fI (fun _ _ => True) fun i j => .bl (decide (j < i))
def dGe := fI (fun _ _ => True) fun i j => .bl (decide (j ≤ i))
def dLe := fI (fun _ _ => True) fun i j => .bl (decide (i ≤ j))
def dLtI := fI (fun _ _ => True) fun i j => .bl (decide (i < j))
/-! texts, tuples, lists -/
def dAddS : D → D → Option D
  | .str x, .str y => if x.length + y.length ≤ sizeLine then some (.str (x ++ y)) else none
  | _, _ => none
def dAddT : D → D → Option D
  | .tup x, .tup y => if x.length + y.length ≤ sizeLine then some (.tup (x ++ y)) else none
  | _, _ => none
def wl : D → Option (List D)
  | .lst ds => some ds | .own ds => some ds
  | _ => none
def dAddL (a b : D) : Option D := (wl a).bind fun x => (wl b).bind fun y => if x.length + y.length ≤ sizeLine then some (.own (x ++ y)) else none
theorem ok_addS : Ok2 K (fun x y H Q => ∃ i j, x = .str i ∧ y = .str j ∧ i.length + j.length ≤ sizeLine ∧ Q (.str (i ++ j)) H) dAddS := by
  intro Y H0 io T τ e s H a b va vb d Q hf r q
  cases a <;> cases b <;> simp only [dAddS, reduceCtorEq] at hf
  rename_i i j
  by_cases c : i.length + j.length ≤ sizeLine
  · rw [if_pos c] at hf
    cases hf
    obtain ⟨P, as, bs, o1, o2⟩ := r.top2
    exact ⟨i, j, o2.str, o1.str, c, q _ _ (r.pop.pop.pushR fun P => rep_str)⟩
  · rw [if_neg c] at hf; cases hf
theorem Reps.append {P : Addr → Prop} {H : Hp} : ∀ {a b : List D} {va vb : List V}, Reps K P H a va → Reps K P H b vb → Reps K P H (a ++ b) (va ++ vb)
  | [], b, va, vb, h, h2 => by unfold Reps at h; rw [h]; exact h2
  | d :: a, b, va, vb, h, h2 => by
    unfold Reps at h
    obtain ⟨v, r, e, q1, q2⟩ := h
    rw [e, List.cons_append, List.cons_append]
    unfold Reps
    exact ⟨v, r ++ vb, rfl, q1, Reps.append q2 h2⟩
/-- the top temps A: they may be exchanged for others made of the same owned lists, at a grown heap -/
theorem Rel.swapA {Y : Addr → Prop} {H0 H : Hp} {io : List (Nat × Addr)} {T : List D} {t : List V} {e : Env} {s : St} {A : List D} {va : List V} (hl : va.length = A.length) (r : Rel K Y H0 io (A ++ T) (va ++ t) e s H) :
    ∃ P as, as.Nodup ∧ Owns K P H A va as ∧ ∀ H' B vb bs, Same H H' → bs.Nodup → (∀ a ∈ bs, (a ∈ as ∨ H a = none) ∧ ∃ vs, H' a = some (.lst vs)) →
      (∀ P' : Addr → Prop, (∀ a, P' a → P a ∨ H a = none) → (∀ a xs, P' a → H' a ≠ some (.tup xs)) → (∀ a ∈ bs, P' a) → Owns K P' H' B vb bs) →
      Rel K Y H0 io (B ++ T) (vb ++ t) e s H' := by
  obtain ⟨as, cs, h1, h2, h3, h4, h5, h6⟩ := r
  obtain ⟨v1, v2, a1, a2, e1, e2, e3, q1, q2⟩ := Owns.split A h1
  obtain ⟨e4, e5⟩ := List.append_inj e1 (by rw [hl, e3])
  subst e4 e5 e2
  have h3' := h3
  rw [List.append_assoc] at h3'
  obtain ⟨n1, n2, n3⟩ := List.nodup_append.mp h3'
  refine ⟨_, a1, n1, q1, fun H' B vb bs hs b1 b2 b3 => ?_⟩
  have there : ∀ a ∈ a1 ++ a2 ++ cs, ∃ vs, H a = some (.lst vs) := fun a ha => by
    rcases List.mem_append.mp ha with z | z
    · exact Owns.there _ h1 a z
    · exact Cells.there _ h2 a z
  have m : Mono (inX Y (a1 ++ a2 ++ cs)) H (inX Y (bs ++ a2 ++ cs)) H' := ⟨fun a o e n => ⟨hs a o e, fun z => by
    rcases z with z | z
    · rw [List.append_assoc] at z
      rcases List.mem_append.mp z with z | z
      · rcases (b2 a z).1 with y | y
        · exact n (.inl (by simp [y]))
        · rw [y] at e; cases e
      · exact n (.inl (by simp at z ⊢; rcases z with z | z <;> simp [z]))
    · exact n (.inr z)⟩, fun a o u e => hs a _ e⟩
  have st : ∀ a ∈ a2 ++ cs, H' a = H a := fun a ha => by
    obtain ⟨vs, q⟩ := there a (by rw [List.append_assoc]; exact List.mem_append_right _ ha)
    rw [q, hs a _ q]
  refine ⟨bs ++ a2, cs, Owns.join B (b3 _ (fun a z => ?_) (fun a xs z w => ?_) fun a ha => .inl (by simp [ha])) (Owns.mono T ⟨m, fun a ha => st a (List.mem_append_left _ ha)⟩ q2), Cells.mono e ⟨m, fun a ha => st a (List.mem_append_right _ ha)⟩ h2, ?_, fun a ha => ?_, fun b o e1 => ⟨fun e2 => hs b o ((h5 b o e1).1 e2), let ⟨o', q⟩ := (h5 b o e1).2; ⟨o', hs b o' q⟩⟩, h6⟩
  · rcases z with z | z
    · rw [List.append_assoc] at z
      rcases List.mem_append.mp z with z | z
      · rcases (b2 a z).1 with y | y
        · exact .inl (.inl (by simp [y]))
        · exact .inr y
      · exact .inl (.inl (by simp at z ⊢; rcases z with z | z <;> simp [z]))
    · exact .inl (.inr z)
  · rcases z with z | z
    · rw [List.append_assoc] at z
      rcases List.mem_append.mp z with z | z
      · obtain ⟨vs, q⟩ := (b2 a z).2
        rw [q] at w; cases w
      · obtain ⟨vs, q⟩ := there a (by rw [List.append_assoc]; exact List.mem_append_right _ z)
        rw [hs a _ q] at w; cases w
    · obtain ⟨⟨o, q, nt⟩, ni⟩ := h6.2 a z
      rw [hs a _ ((h5 a o q).1 ni)] at w
      cases w
      exact nt xs rfl
  · rw [List.append_assoc]
    refine List.nodup_append.mpr ⟨b1, n2, fun a ha b hb z => ?_⟩
    subst z
    rcases (b2 a ha).1 with y | y
    · exact n3 a y a hb rfl
    · obtain ⟨vs, q⟩ := there a (by rw [List.append_assoc]; exact List.mem_append_right _ hb)
      rw [y] at q; cases q
  · rw [List.append_assoc] at ha
    rcases List.mem_append.mp ha with z | z
    · rcases (b2 a z).1 with y | y
      · exact h4 a (by simp [y])
      · refine .inl ?_
        cases q : H0 a with
        | none => rfl
        | some o =>
          obtain ⟨o', q'⟩ := (h5 a o q).2
          rw [y] at q'; cases q'
    · exact h4 a (by simp at z ⊢; rcases z with z | z <;> simp [z])
end
end Mi
namespace Mi
open PySem PySem.Spec PyProof.Rows L2
section
variable {K : PySem.W.Frag} {Y : Addr → Prop} {H0 H H' : Hp} {io : List (Nat × Addr)} {T : List D} {t : List V} {e : Env} {s : St}
/-- the condition of swapA, for data that own nothing -/
theorem swap_plain {P P' : Addr → Prop} {as : List Addr} (hs : Same H H') (h1 : ∀ a, P' a → P a ∨ H a = none) : Mono P H P' H' :=
  ⟨fun a o e n => ⟨hs a o e, fun z => (h1 a z).elim n fun y => by rw [y] at e; cases e⟩, fun a o u e => hs a _ e⟩
theorem swap_owns {P P' : Addr → Prop} {as : List Addr} {A : List D} {va : List V} (hs : Same H H') (h1 : ∀ a, P' a → P a ∨ H a = none) (h : Owns K P H A va as) : Owns K P' H' A va as :=
  Owns.mono A ⟨swap_plain (as := as) hs h1, fun a ha => by obtain ⟨vs, q⟩ := Owns.there A h a ha; rw [q, hs a _ q]⟩ h
theorem swap_own {P P' : Addr → Prop} {as : List Addr} {d : D} {v : V} (hs : Same H H') (h1 : ∀ a, P' a → P a ∨ H a = none) (h : Own K P H d v as) : Own K P' H' d v as :=
  Own.mono d ⟨swap_plain (as := as) hs h1, fun a ha => by obtain ⟨vs, q⟩ := Own.there d h a ha; rw [q, hs a _ q]⟩ h
theorem owns1 {P : Addr → Prop} {d : D} {v : V} {as : List Addr} (h : Own K P H d v as) : Owns K P H [d] [v] as := by
  unfold Owns
  exact ⟨v, [], as, [], rfl, h, by unfold Owns; exact ⟨rfl, rfl⟩, by simp⟩
theorem owns2 {P : Addr → Prop} {a b : D} {va : List V} {as : List Addr} (h : Owns K P H [b, a] va as) : ∃ vb v2 bs cs, va = [vb, v2] ∧ Own K P H b vb bs ∧ Own K P H a v2 cs ∧ as = bs ++ cs := by
  unfold Owns at h
  obtain ⟨v, r, bs, cs, e, h1, h2, ea⟩ := h
  unfold Owns at h2
  obtain ⟨v', r', bs', cs', e', h3, h4, ea'⟩ := h2
  unfold Owns at h4
  subst e e' ea ea'
  rw [h4.1, h4.2]
  exact ⟨v, v', bs, bs', rfl, h1, h3, by simp⟩
theorem owns1' {P : Addr → Prop} {a : D} {va : List V} {as : List Addr} (h : Owns K P H [a] va as) : ∃ v2, va = [v2] ∧ Own K P H a v2 as := by
  unfold Owns at h
  obtain ⟨v, r, bs, cs, e, h1, h2, ea⟩ := h
  unfold Owns at h2
  subst e ea
  rw [h2.1, h2.2, List.append_nil]
  exact ⟨v, rfl, h1⟩
/-- the two top temps may become one -/
theorem Rel.swap2 {a b : D} {va vb : V} (r : Rel K Y H0 io (b :: a :: T) (vb :: va :: t) e s H) :
    ∃ P as bs, (bs ++ as).Nodup ∧ Own K P H b vb bs ∧ Own K P H a va as ∧ ∀ H' d v cs, Same H H' → cs.Nodup → (∀ x ∈ cs, (x ∈ bs ++ as ∨ H x = none) ∧ ∃ vs, H' x = some (.lst vs)) →
      (∀ P' : Addr → Prop, (∀ x, P' x → P x ∨ H x = none) → (∀ a xs, P' a → H' a ≠ some (.tup xs)) → (∀ x ∈ cs, P' x) → Own K P' H' d v cs) → Rel K Y H0 io (d :: T) (v :: t) e s H' := by
  obtain ⟨P, as, nd, q, g⟩ := Rel.swapA (A := [b, a]) (va := [vb, va]) rfl r
  obtain ⟨w1, w2, bs, cs, e1, h1, h2, ea⟩ := owns2 q
  simp only [List.cons.injEq, and_true] at e1
  obtain ⟨rfl, rfl⟩ := e1
  subst ea
  exact ⟨P, cs, bs, nd, h1, h2, fun H' d v ds hs d1 d2 d3 => g H' [d] [v] ds hs d1 d2 fun P' p1 p2 p3 => owns1 (d3 P' p1 p2 p3)⟩
theorem Rel.swap1 {a : D} {va : V} (r : Rel K Y H0 io (a :: T) (va :: t) e s H) :
    ∃ P as, as.Nodup ∧ Own K P H a va as ∧ ∀ H' d v cs, Same H H' → cs.Nodup → (∀ x ∈ cs, (x ∈ as ∨ H x = none) ∧ ∃ vs, H' x = some (.lst vs)) →
      (∀ P' : Addr → Prop, (∀ x, P' x → P x ∨ H x = none) → (∀ a xs, P' a → H' a ≠ some (.tup xs)) → (∀ x ∈ cs, P' x) → Own K P' H' d v cs) → Rel K Y H0 io (d :: T) (v :: t) e s H' := by
  obtain ⟨P, as, nd, q, g⟩ := Rel.swapA (A := [a]) (va := [va]) rfl r
  obtain ⟨w1, e1, h1⟩ := owns1' q
  simp only [List.cons.injEq, and_true] at e1
  obtain rfl := e1
  exact ⟨P, as, nd, h1, fun H' d v ds hs d1 d2 d3 => g H' [d] [v] ds hs d1 d2 fun P' p1 p2 p3 => owns1 (d3 P' p1 p2 p3)⟩

/-! ### + of tuples, of lists; * of a list -/
theorem ok_addT : Ok2 K (rCatA K) dAddT := by
  intro Y H0 io T τ e s H a b va vb d Q hf r q
  cases a <;> cases b <;> simp only [dAddT, reduceCtorEq] at hf
  rename_i x y
  by_cases c : x.length + y.length ≤ sizeLine
  · rw [if_pos c] at hf
    cases hf
    obtain ⟨P, as, bs, nd, o1, o2, g⟩ := r.swap2
    obtain ⟨p1, v1, rfl, t1, r1⟩ := o2.tup
    obtain ⟨p2, v2, rfl, t2, r2⟩ := o1.tup
    refine ⟨p1, p2, v1, v2, rfl, rfl, t1.sq, t2.sq, by rw [r1.len, r2.len]; exact c, fun e1 => ?_, fun _ e2 => ?_, fun _ _ p hp => ?_⟩
    · have e3 : x = [] := List.eq_nil_of_length_eq_zero (by rw [← r1.len, e1]; rfl)
      rw [e3, List.nil_append] at q
      exact q _ _ r.swap.pop
    · have e3 : y = [] := List.eq_nil_of_length_eq_zero (by rw [← r2.len, e2]; rfl)
      rw [e3, List.append_nil] at q
      exact q _ _ r.pop
    · have hs : Same H (upd H p (.tup (v1 ++ v2))) := same_new hp
      refine q _ _ (g _ (.tup (x ++ y)) _ [] hs List.nodup_nil (fun _ z => nomatch z) fun P' hP hT _ => Own.of ?_)
      have m := swap_plain (as := []) hs hP
      unfold Rep
      exact ⟨p, v1 ++ v2, rfl, .inl (.inl ⟨upd_same, fun z => hT p _ z upd_same⟩), (Reps.mono m x r1).append (Reps.mono m y r2)⟩
  · rw [if_neg c] at hf; cases hf

theorem Own.seqA {P : Addr → Prop} {d : D} {v : V} {as : List Addr} {ds : List D} (h : Own K P H d v as) (e : items d = some ds) : ∃ a vs bs, v = .ref a ∧ (SqL K H a vs ∨ SqT K H a vs) ∧ Owns K P H ds vs bs ∧ (∀ x ∈ bs, x ∈ as) ∧ (as.Nodup → bs.Nodup) := by
  cases d <;> simp only [items, Option.some.injEq, reduceCtorEq] at e
  · subst e; obtain ⟨a, vs, e, q, r⟩ := h.tup; exact ⟨a, vs, [], e, .inr q.sq, Owns.of r, (fun _ z => nomatch z), fun _ => List.nodup_nil⟩
  · subst e; obtain ⟨a, vs, e, q, r⟩ := h.lst; exact ⟨a, vs, [], e, .inl (SqL.of q), Owns.of r, (fun _ z => nomatch z), fun _ => List.nodup_nil⟩
  · subst e; obtain ⟨a, vs, e, q, r⟩ := h.cst; exact ⟨a, vs, [], e, .inl q.sq, Owns.of r, (fun _ z => nomatch z), fun _ => List.nodup_nil⟩
  · subst e; obtain ⟨a, vs, bs, e, q, r, ea⟩ := h.own; exact ⟨a, vs, bs, e, .inl (SqL.of q), r, fun x hx => by rw [ea]; exact List.mem_cons_of_mem _ hx, fun n => by rw [ea] at n; exact (List.nodup_cons.mp n).2⟩
theorem Own.wlA {P : Addr → Prop} {d : D} {v : V} {as : List Addr} {ds : List D} (h : Own K P H d v as) (e : wl d = some ds) : ∃ a vs bs, v = .ref a ∧ H a = some (.lst vs) ∧ Owns K P H ds vs bs ∧ (∀ x ∈ bs, x ∈ as) ∧ (as.Nodup → bs.Nodup) := by
  cases d <;> simp only [wl, Option.some.injEq, reduceCtorEq] at e
  · subst e; obtain ⟨a, vs, e, q, r⟩ := h.lst; exact ⟨a, vs, [], e, q, Owns.of r, (fun _ z => nomatch z), fun _ => List.nodup_nil⟩
  · subst e; obtain ⟨a, vs, bs, e, q, r, ea⟩ := h.own; exact ⟨a, vs, bs, e, q, r, fun x hx => by rw [ea]; exact List.mem_cons_of_mem _ hx, fun n => by rw [ea] at n; exact (List.nodup_cons.mp n).2⟩
theorem ok_addL : Ok2 K rCat dAddL := by
  intro Y H0 io T τ e s H a b va vb d Q hf r q
  unfold dAddL at hf
  obtain ⟨x, hx, hf⟩ := Option.bind_eq_some_iff.mp hf
  obtain ⟨y, hy, hf⟩ := Option.bind_eq_some_iff.mp hf
  by_cases c : x.length + y.length ≤ sizeLine
  · rw [if_pos c] at hf
    cases hf
    obtain ⟨P, as, bs, nd, o1, o2, g⟩ := r.swap2
    obtain ⟨p1, v1, a1, rfl, t1, w1, s1, n1⟩ := o2.wlA hx
    obtain ⟨p2, v2, a2, rfl, t2, w2, s2, n2⟩ := o1.wlA hy
    refine ⟨p1, p2, v1, v2, rfl, rfl, t1, t2, by rw [w1.len, w2.len]; exact c, fun p hp => ?_⟩
    have hs : Same H (upd H p (.lst (v1 ++ v2))) := same_new hp
    obtain ⟨k1, k2, k3⟩ := List.nodup_append.mp nd
    have sub : ∀ z ∈ a1 ++ a2, z ∈ bs ++ as := fun z hz => (List.mem_append.mp hz).elim (fun w => List.mem_append_right _ (s1 z w)) fun w => List.mem_append_left _ (s2 z w)
    have th : ∀ z ∈ a1 ++ a2, ∃ vs, H z = some (.lst vs) := fun z hz => (List.mem_append.mp hz).elim (Owns.there _ w1 z) (Owns.there _ w2 z)
    refine q _ _ (g _ (.own (x ++ y)) _ (p :: (a1 ++ a2)) hs ?_ (fun z hz => ?_) fun P' hP hT hin => ?_)
    · refine List.nodup_cons.mpr ⟨fun z => ?_, List.nodup_append.mpr ⟨n1 k2, n2 k1, fun z hz w hw e => k3 w (s2 w hw) z (s1 z hz) e.symm⟩⟩
      obtain ⟨vs, w⟩ := th p z
      rw [hp] at w; cases w
    · rcases List.mem_cons.mp hz with rfl | hz
      · exact ⟨.inr hp, _, upd_same⟩
      · obtain ⟨vs, w⟩ := th z hz
        exact ⟨.inl (sub z hz), vs, hs z _ w⟩
    · unfold Own
      exact ⟨p, v1 ++ v2, a1 ++ a2, rfl, upd_same, Owns.join x (swap_owns hs hP w1) (swap_owns hs hP w2), rfl⟩
  · rw [if_neg c] at hf; cases hf
def dMulL : D → D → Option D
  | a, .int k => (wl a).bind fun x => if plains x = true ∧ -(2 ^ 63) ≤ k ∧ k < 2 ^ 63 ∧ x.length * k.toNat ≤ sizeLine then some (.own (List.replicate k.toNat x).flatten) else none
  | _, _ => none
theorem Reps.rep {P : Addr → Prop} {x : List D} {v : List V} (h : Reps K P H x v) : ∀ k : Nat, Reps K P H (List.replicate k x).flatten (List.replicate k v).flatten
  | 0 => by unfold Reps; rfl
  | k + 1 => by rw [List.replicate_succ, List.replicate_succ, List.flatten_cons, List.flatten_cons]; exact h.append (Reps.rep h k)
theorem ok_rep : Ok2 K rRep dMulL := by
  intro Y H0 io T τ e s H a b va vb d Q hf r q
  obtain ⟨k, rfl⟩ : ∃ k, b = .int k := by cases b <;> first | exact ⟨_, rfl⟩ | (simp [dMulL] at hf)
  unfold dMulL at hf
  obtain ⟨x, hx, hf⟩ := Option.bind_eq_some_iff.mp hf
  by_cases c : plains x = true ∧ -(2 ^ 63) ≤ k ∧ k < 2 ^ 63 ∧ x.length * k.toNat ≤ sizeLine
  · rw [if_pos c] at hf
    cases hf
    obtain ⟨P, as, bs, nd, o1, o2, g⟩ := r.swap2
    obtain ⟨p1, v1, a1, rfl, t1, w1, s1, n1⟩ := o2.wlA hx
    obtain rfl := o1.int
    obtain ⟨w2, w3⟩ := Owns.reps c.1 w1
    refine ⟨p1, k, v1, rfl, rfl, t1, c.2.1, c.2.2.1, by rw [w1.len]; exact c.2.2.2, fun p hp => ?_⟩
    have hs : Same H (upd H p (.lst (List.replicate k.toNat v1).flatten)) := same_new hp
    refine q _ _ (g _ (.own (List.replicate k.toNat x).flatten) _ [p] hs (by simp) (fun z hz => ?_) fun P' hP hT hin => ?_)
    · obtain rfl : z = p := by simpa using hz
      exact ⟨.inr hp, _, upd_same⟩
    · unfold Own
      exact ⟨p, _, [], rfl, upd_same, Owns.of ((Reps.mono (swap_plain (as := []) hs hP) x w2).rep k.toNat), rfl⟩
  · rw [if_neg c] at hf; cases hf
/-! ### == , in -/
theorem ok_eq : Ok2 K (rEqD K) dEq := by
  intro Y H0 io T τ e s H a b va vb d Q hf r q
  unfold dEq pyEq at hf
  obtain ⟨c, hf, hc⟩ := Option.map_eq_some_iff.mp hf
  obtain ⟨x, hx, hf⟩ := Option.bind_eq_some_iff.mp hf
  obtain ⟨y, hy, hf⟩ := Option.bind_eq_some_iff.mp hf
  by_cases z : (SeqAt.shaped x && SeqAt.shaped y) = true
  · rw [if_pos z] at hf
    cases hf
    rw [Bool.and_eq_true] at z
    obtain ⟨P, as, bs, o1, o2⟩ := r.top2
    subst hc
    exact ⟨x, y, o2.dp a hx, o1.dp b hy, z.1, z.2, q _ _ r.pop.pop.bl⟩
  · rw [if_neg z] at hf; cases hf
theorem ok_ne : Ok2 K (rNeD K) dNe := by
  intro Y H0 io T τ e s H a b va vb d Q hf r q
  unfold dNe pyEq at hf
  obtain ⟨c, hf, hc⟩ := Option.map_eq_some_iff.mp hf
  obtain ⟨x, hx, hf⟩ := Option.bind_eq_some_iff.mp hf
  obtain ⟨y, hy, hf⟩ := Option.bind_eq_some_iff.mp hf
  by_cases z : (SeqAt.shaped x && SeqAt.shaped y) = true
  · rw [if_pos z] at hf
    cases hf
    rw [Bool.and_eq_true] at z
    obtain ⟨P, as, bs, o1, o2⟩ := r.top2
    subst hc
    exact ⟨x, y, o2.dp a hx, o1.dp b hy, z.1, z.2, q _ _ r.pop.pop.bl⟩
  · rw [if_neg z] at hf; cases hf
def rInTD (K : PySem.W.Frag) (neg : Bool) : R2 := fun x y H Q => ∃ d ds, Dp K H x d ∧ Dp K H y (.tuple ds) ∧ SeqAt.shaped d = true ∧ SeqAt.shaped (.tuple ds) = true ∧ Q (.bl (xor neg (ds.any fun z => PyData.eqv z d))) H
theorem op_inTD {X : Cx} (hu : X.A.units + 65 < cLine) : OpR X (compareOp .In) (rInTD X.K false) := by
  intro pins s σ H x y v u Q I rx ry h
  obtain ⟨d, ds, hd, he, sd, se, q⟩ := h
  obtain ⟨as, r1⟩ := Dp.reads I d x v hd rx
  obtain ⟨bs, r2⟩ := Dp.reads I (.tuple ds) y u he ry
  exact SeqAt.in_tuple_reads r2 r1 (SeqAt.canLay_of_shaped se) (SeqAt.canLay_of_shaped sd) (room_in_shaped sd hu) ⟨.bl _, H, I, rfl, by simpa using q⟩
theorem op_notInTD {X : Cx} (hu : X.A.units + 65 < cLine) : OpR X (compareOp .NotIn) (rInTD X.K true) := by
  intro pins s σ H x y v u Q I rx ry h
  obtain ⟨d, ds, hd, he, sd, se, q⟩ := h
  obtain ⟨as, r1⟩ := Dp.reads I d x v hd rx
  obtain ⟨bs, r2⟩ := Dp.reads I (.tuple ds) y u he ry
  exact SeqAt.notIn_tuple_reads r2 r1 (SeqAt.canLay_of_shaped se) (SeqAt.canLay_of_shaped sd) (room_in_shaped sd hu) ⟨.bl _, H, I, rfl, by simpa using q⟩
def pyIn (neg : Bool) (a b : D) : Option D := (toPy a).bind fun x => (toPy b).bind fun y => match y with
  | .list ds => if SeqAt.shaped x && SeqAt.shaped (.list ds) then some (.bl (xor neg (ds.any fun z => PyData.eqv z x))) else none
  | .tuple ds => if SeqAt.shaped x && SeqAt.shaped (.tuple ds) then some (.bl (xor neg (ds.any fun z => PyData.eqv z x))) else none
  | _ => none
def dIn := pyIn false
def dNotIn := pyIn true
theorem ok_in : Ok2 K (fun x y H Q => rInD K x y H Q ∨ rInTD K false x y H Q) dIn := by
  intro Y H0 io T τ e s H a b va vb d Q hf r q
  unfold dIn pyIn at hf
  obtain ⟨x, hx, hf⟩ := Option.bind_eq_some_iff.mp hf
  obtain ⟨y, hy, hf⟩ := Option.bind_eq_some_iff.mp hf
  obtain ⟨P, as, bs, o1, o2⟩ := r.top2
  cases y <;> simp only [reduceCtorEq] at hf
  · rename_i ds
    by_cases z : (SeqAt.shaped x && SeqAt.shaped (.list ds)) = true
    · rw [if_pos z] at hf
      cases hf
      rw [Bool.and_eq_true] at z
      exact .inl ⟨x, ds, o2.dp a hx, o1.dp b hy, z.1, z.2, by have := q _ _ (r.pop.pop.bl (i := xor false (ds.any fun z => PyData.eqv z x))); simpa using this⟩
    · rw [if_neg z] at hf; cases hf
  · rename_i ds
    by_cases z : (SeqAt.shaped x && SeqAt.shaped (.tuple ds)) = true
    · rw [if_pos z] at hf
      cases hf
      rw [Bool.and_eq_true] at z
      exact .inr ⟨x, ds, o2.dp a hx, o1.dp b hy, z.1, z.2, q _ _ r.pop.pop.bl⟩
    · rw [if_neg z] at hf; cases hf
theorem ok_notIn : Ok2 K (fun x y H Q => rNotInD K x y H Q ∨ rInTD K true x y H Q) dNotIn := by
  intro Y H0 io T τ e s H a b va vb d Q hf r q
  unfold dNotIn pyIn at hf
  obtain ⟨x, hx, hf⟩ := Option.bind_eq_some_iff.mp hf
  obtain ⟨y, hy, hf⟩ := Option.bind_eq_some_iff.mp hf
  obtain ⟨P, as, bs, o1, o2⟩ := r.top2
  cases y <;> simp only [reduceCtorEq] at hf
  · rename_i ds
    by_cases z : (SeqAt.shaped x && SeqAt.shaped (.list ds)) = true
    · rw [if_pos z] at hf
      cases hf
      rw [Bool.and_eq_true] at z
      exact .inl ⟨x, ds, o2.dp a hx, o1.dp b hy, z.1, z.2, by have := q _ _ (r.pop.pop.bl (i := xor true (ds.any fun z => PyData.eqv z x))); simpa using this⟩
    · rw [if_neg z] at hf; cases hf
  · rename_i ds
    by_cases z : (SeqAt.shaped x && SeqAt.shaped (.tuple ds)) = true
    · rw [if_pos z] at hf
      cases hf
      rw [Bool.and_eq_true] at z
      exact .inr ⟨x, ds, o2.dp a hx, o1.dp b hy, z.1, z.2, q _ _ r.pop.pop.bl⟩
    · rw [if_neg z] at hf; cases hf
/-! ### an item -/
def dIx : D → D → Option D
  | a, .int i => match a with
    | .str z => if z.length ≤ sizeLine then (atI z.cps.toList i).map fun c => .str ⟨#[c]⟩ else none
    | a => (items a).bind fun ds => atI ds i
  | _, _ => none
theorem atI_len {α β : Type} {xs : List α} {ys : List β} (hl : ys.length = xs.length) {i : Int} {x : α} (h : atI xs i = some x) : ∃ j : Nat, xs[j]? = some x ∧ ∀ y : β, ys[j]? = some y → atI ys i = some y := by
  unfold atI at h ⊢
  obtain ⟨j, h1, h2⟩ := Option.bind_eq_some_iff.mp h
  exact ⟨j, h2, fun y hy => by rw [hl, h1]; exact hy⟩
theorem ok_ix : Ok2 K (rIx K) dIx := by
  intro Y H0 io T τ e s H a b va vb d Q hf r q
  obtain ⟨i, rfl⟩ : ∃ i, b = .int i := by cases b <;> first | exact ⟨_, rfl⟩ | (simp [dIx] at hf)
  obtain ⟨P, as, bs, nd, o1, o2, g⟩ := r.swap2
  obtain rfl := o1.int
  by_cases ha : ∃ z, a = .str z
  · obtain ⟨z, rfl⟩ := ha
    unfold dIx at hf
    simp only at hf
    by_cases c : z.length ≤ sizeLine
    · rw [if_pos c] at hf
      obtain ⟨k, hk, rfl⟩ := Option.map_eq_some_iff.mp hf
      obtain rfl := o2.str
      exact .inr (.inr ⟨z, i, k, rfl, rfl, c, hk, q _ _ r.pop.pop.str⟩)
    · rw [if_neg c] at hf; cases hf
  · have hf : (items a).bind (fun ds => atI ds i) = some d := by
      cases a <;> first | exact hf | exact absurd ⟨_, rfl⟩ ha
    obtain ⟨ds, hx, hf⟩ := Option.bind_eq_some_iff.mp hf
    obtain ⟨p1, v1, a1, rfl, t1, w1, s1, n1⟩ := o2.seqA hx
    obtain ⟨j, hj, hv⟩ := atI_len w1.len hf
    obtain ⟨v, b1, c1, e1, o3, o4, pm, _⟩ := Owns.at w1 hj
    have fin : Q v H := by
      have n2 := pm.nodup_iff.mp (n1 (List.nodup_append.mp nd).2.1)
      refine q _ _ (g H d v b1 (Same.refl _) (List.nodup_append.mp n2).1 (fun z hz => ⟨.inl (List.mem_append_right _ (s1 z (pm.mem_iff.mpr (List.mem_append_left _ hz)))), Own.there d o3 z hz⟩) fun P' hP hT hin => swap_own (Same.refl _) hP o3)
    rcases t1 with t1 | t1
    · exact .inl ⟨p1, v1, i, v, rfl, rfl, t1, hv v e1, fin⟩
    · exact .inr (.inl ⟨p1, v1, i, v, rfl, rfl, t1, hv v e1, fin⟩)
end
end Mi
namespace Mi
open PySem PySem.Spec PyProof.Rows L2

/-! ### expressions from the rules -/
section
variable {X : Cx} {W : WX} {pos p : Pos} {a b c : Expr} {es : List Expr} {ma mb mc : ME} {mas : MA}
theorem de_op {op : Operator} {r : R2} {f : D → D → Option D} (ho : OpR X (binaryOp op) r) (ok : Ok2 X.K r f) (ha : DE X W a ma) (hb : DE X W b mb) : DE X W (.BinOp a op b pos) (mOp2 f ma mb) := by
  obtain ⟨ta, pa, sa⟩ := ha
  obtain ⟨tb, pb, sb⟩ := hb
  exact ⟨_, pe_op ho pa pb, sim_op2 ok sa sb⟩
theorem de_cmp {op : CmpOp} {r : R2} {f : D → D → Option D} (ho : OpR X (compareOp op) r) (ok : Ok2 X.K r f) (hm : behindInMarks op b = false) (ha : DE X W a ma) (hb : DE X W b mb) : DE X W (.Compare a [op] [b] pos) (mOp2 f ma mb) := by
  obtain ⟨ta, pa, sa⟩ := ha
  obtain ⟨tb, pb, sb⟩ := hb
  exact ⟨_, pe_cmpR ho pa pb hm, sim_op2 ok sa sb⟩
def dAdd (a b : D) : Option D := (((dAddI a b).or (dAddS a b)).or (dAddT a b)).or (dAddL a b)
def dMul (a b : D) : Option D := (dMulI a b).or (dMulL a b)
theorem de_add (ha : DE X W a ma) (hb : DE X W b mb) : DE X W (.BinOp a .Add b pos) (mOp2 dAdd ma mb) :=
  de_op (((op_add.or op_add_str).or op_catA).or op_cat) ((((ok_fI0 fun _ _ _ _ => rep_int).or ok_addS).or ok_addT).or ok_addL) ha hb
theorem de_mul (ha : DE X W a ma) (hb : DE X W b mb) : DE X W (.BinOp a .Mult b pos) (mOp2 dMul ma mb) :=
  de_op (op_mulX.or op_rep) ((ok_fI fun _ _ _ _ => rep_int).or ok_rep) ha hb
theorem de_sub (ha : DE X W a ma) (hb : DE X W b mb) : DE X W (.BinOp a .Sub b pos) (mOp2 dSub ma mb) := de_op op_sub (ok_fI0 fun _ _ _ _ => rep_int) ha hb
theorem de_fdiv (ha : DE X W a ma) (hb : DE X W b mb) : DE X W (.BinOp a .FloorDiv b pos) (mOp2 dFdiv ma mb) := de_op op_fdivW (ok_fI fun _ _ _ _ => rep_int) ha hb
theorem de_mod (ha : DE X W a ma) (hb : DE X W b mb) : DE X W (.BinOp a .Mod b pos) (mOp2 dMod ma mb) := de_op op_mod (ok_fI fun _ _ _ _ => rep_int) ha hb
theorem de_pow (ha : DE X W a ma) (hb : DE X W b mb) : DE X W (.BinOp a .Pow b pos) (mOp2 dPow ma mb) := de_op op_pow (ok_fI fun _ _ _ _ => rep_int) ha hb
theorem de_xor (ha : DE X W a ma) (hb : DE X W b mb) : DE X W (.BinOp a .BitXor b pos) (mOp2 dXor ma mb) := de_op op_xor (ok_fI0 fun _ _ _ _ => rep_int) ha hb
theorem de_and_ (ha : DE X W a ma) (hb : DE X W b mb) : DE X W (.BinOp a .BitAnd b pos) (mOp2 dAnd ma mb) := de_op op_and (ok_fI0 fun _ _ _ _ => rep_int) ha hb
theorem de_shr (ha : DE X W a ma) (hb : DE X W b mb) : DE X W (.BinOp a .RShift b pos) (mOp2 dShr ma mb) := de_op op_shr (ok_fI fun _ _ _ _ => rep_int) ha hb
theorem de_shl (ha : DE X W a ma) (hb : DE X W b mb) : DE X W (.BinOp a .LShift b pos) (mOp2 dShl ma mb) := de_op op_shl (ok_fI fun _ _ _ _ => rep_int) ha hb
/-- comparisons -/
theorem de_eq (hu : X.A.units + 64 < cLine) (ha : DE X W a ma) (hb : DE X W b mb) : DE X W (.Compare a [.Eq] [b] pos) (mOp2 dEq ma mb) := de_cmp (op_eqD hu) ok_eq (nomark _) ha hb
theorem de_ne (hu : X.A.units + 64 < cLine) (ha : DE X W a ma) (hb : DE X W b mb) : DE X W (.Compare a [.NotEq] [b] pos) (mOp2 dNe ma mb) := de_cmp (op_neD hu) ok_ne (nomark _) ha hb
theorem de_gt (ha : DE X W a ma) (hb : DE X W b mb) : DE X W (.Compare a [.Gt] [b] pos) (mOp2 dGt ma mb) := de_cmp op_gt (ok_fI0 fun _ _ _ _ => rep_bl) (nomark _) ha hb
theorem de_ge (ha : DE X W a ma) (hb : DE X W b mb) : DE X W (.Compare a [.GtE] [b] pos) (mOp2 dGe ma mb) := de_cmp op_ge (ok_fI0 fun _ _ _ _ => rep_bl) (nomark _) ha hb
theorem de_le (ha : DE X W a ma) (hb : DE X W b mb) : DE X W (.Compare a [.LtE] [b] pos) (mOp2 dLe ma mb) := de_cmp op_le (ok_fI0 fun _ _ _ _ => rep_bl) (nomark _) ha hb
/-- < of ints, of tuples of ints -/
def dLtT : D → D → Option D
  | .tup x, .tup y => (intsD x).bind fun ns => (intsD y).map fun ms => .bl (HT.lexLt ns ms)
  | _, _ => none
def dLt (a b : D) : Option D := (dLtI a b).or (dLtT a b)
theorem ok_ltT {K : PySem.W.Frag} : Ok2 K (rLtT K) dLtT := by
  intro Y H0 io T τ e s H a b va vb d Q hf r q
  cases a <;> cases b <;> simp only [dLtT, reduceCtorEq] at hf
  rename_i x y
  obtain ⟨ns, hx, hf⟩ := Option.bind_eq_some_iff.mp hf
  obtain ⟨ms, hy, hf⟩ := Option.map_eq_some_iff.mp hf
  subst hf
  obtain rfl := ints_eq hx
  obtain rfl := ints_eq hy
  obtain ⟨P, as, bs, o1, o2⟩ := r.top2
  obtain ⟨p1, v1, rfl, t1, r1⟩ := o2.tup
  obtain ⟨p2, v2, rfl, t2, r2⟩ := o1.tup
  obtain rfl := owns_ints (Owns.of r1)
  obtain rfl := owns_ints (Owns.of r2)
  exact ⟨p1, p2, ns, ms, rfl, rfl, t1.sq, t2.sq, q _ _ r.pop.pop.bl⟩
theorem de_lt (hu : X.A.units + 64 < cLine) (ha : DE X W a ma) (hb : DE X W b mb) : DE X W (.Compare a [.Lt] [b] pos) (mOp2 dLt ma mb) :=
  de_cmp (op_lt.or (op_ltT (by omega))) ((ok_fI0 fun _ _ _ _ => rep_bl).or ok_ltT) (nomark _) ha hb
def isNon : D → Option Bool
  | .non => some true | .bl _ => some false | .int _ => some false | .str _ => some false | .tup _ => some false | .lst _ => some false | .cst _ => some false | .own _ => some false | .raw _ => none
theorem isNon_ok {K : PySem.W.Frag} {P : Addr → Prop} {H : Hp} {d : D} {v : V} {as} {k : Bool} (h : Own K P H d v as) (e : isNon d = some k) : decide (v = V.non) = k := by
  cases d <;> simp only [isNon, Option.some.injEq, reduceCtorEq] at e <;> subst e
  · rw [h.non]; rfl
  · rw [h.bl]; rfl
  · rw [h.int]; rfl
  · rw [h.str]; rfl
  · obtain ⟨_, _, e, _⟩ := h.tup; rw [e]; rfl
  · obtain ⟨_, _, e, _⟩ := h.lst; rw [e]; rfl
  · obtain ⟨_, _, e, _⟩ := h.cst; rw [e]; rfl
  · obtain ⟨_, _, _, e, _⟩ := h.own; rw [e]; rfl
def dIs (neg : Bool) (a : D) : Option D := (isNon a).map fun k => .bl (xor neg k)
theorem de_isN {j p'} (ha : DE X W a ma) : DE X W (.Compare a [.Is] [.Constant .none j p'] pos) (mOp1 (dIs false) ma) := by
  obtain ⟨ta, pa, sa⟩ := ha
  refine ⟨_, pe_cmp (pc_isN pa) (nomark _), ?_⟩
  refine sim_op1 (r := fun x H Q => Q (.bl (decide (x = .non))) H) (fun Y H0 io T τ e s H a va d Q hf r q => ?_) sa
  obtain ⟨k, hk, rfl⟩ := Option.map_eq_some_iff.mp hf
  obtain ⟨P, as, o⟩ := r.top
  rw [isNon_ok o hk]
  simpa using q _ _ (r.pop.bl (i := xor false k))
theorem de_notN {j p'} (ha : DE X W a ma) : DE X W (.Compare a [.IsNot] [.Constant .none j p'] pos) (mOp1 (dIs true) ma) := by
  obtain ⟨ta, pa, sa⟩ := ha
  refine ⟨_, pe_cmp (pc_notN pa) (nomark _), ?_⟩
  refine sim_op1 (r := fun x H Q => Q (.bl (!decide (x = .non))) H) (fun Y H0 io T τ e s H a va d Q hf r q => ?_) sa
  obtain ⟨k, hk, rfl⟩ := Option.map_eq_some_iff.mp hf
  obtain ⟨P, as, o⟩ := r.top
  rw [isNon_ok o hk]
  simpa using q _ _ (r.pop.bl (i := xor true k))
theorem de_in (hu : X.A.units + 65 < cLine) (ha : DE X W a ma) (hb : DE X W b mb) (hm : behindInMarks .In b = false := by rfl) : DE X W (.Compare a [.In] [b] pos) (mOp2 dIn ma mb) := de_cmp ((op_inD hu).or (op_inTD hu)) ok_in hm ha hb
theorem de_notIn (hu : X.A.units + 65 < cLine) (ha : DE X W a ma) (hb : DE X W b mb) (hm : behindInMarks .NotIn b = false := by rfl) : DE X W (.Compare a [.NotIn] [b] pos) (mOp2 dNotIn ma mb) := de_cmp ((op_notInD hu).or (op_notInTD hu)) ok_notIn hm ha hb
/-- a op b op c of ints -/
def mChain (f g : D → D → Option D) (ma mb mc : ME) : ME := fun e => (ma e).bind fun p => (mb p.2).bind fun q => match p.1, q.1 with
  | .int i, .int j => match f (.int i) (.int j) with
    | some (.bl true) => (mc q.2).bind fun r => Rs.of ((g (.int j) r.1).map fun d => (d, r.2))
    | some (.bl false) => .ok (.bl false, q.2)
    | _ => .err
  | _, _ => .err
theorem sim_chain {K : PySem.W.Frag} {mg : Str → Option Value} {ta tb tc : TE} {r r' : R2} {f g : D → D → Option D} (ok : Ok2 K r f) (ok' : Ok2 K r' g) (ha : SimE K mg W ta ma) (hb : SimE K mg W tb mb) (hc : SimE K mg W tc mc) :
    SimE K mg W (tChain r r' ta tb tc) (mChain f g ma mb mc) := by
  intro Y H0 io T τ e s H Q rl p
  refine ha.then rl (P := PostE K mg W Y H0 io T τ s Q) p id postE_exc fun d e1 p v H1 rl1 => ?_
  refine hb.then rl1 (P := PostE K mg W Y H0 io T τ s Q) p id postE_exc1 fun d2 e2 p v2 H2 rl2 => ?_
  obtain ⟨i, rfl⟩ : ∃ i, d = .int i := by cases d <;> first | exact ⟨_, rfl⟩ | exact False.elim p
  obtain ⟨j, rfl⟩ : ∃ j, d2 = .int j := by cases d2 <;> first | exact ⟨_, rfl⟩ | exact False.elim p
  simp only at p
  obtain ⟨P, as, bs, o1, o2⟩ := rl2.top2
  obtain rfl := o1.int
  obtain rfl := o2.int
  cases hf : f (.int i) (.int j) with
  | none => rw [hf] at p; exact p.elim
  | some z =>
    rw [hf] at p
    obtain ⟨k, rfl⟩ : ∃ k, z = .bl k := by cases z <;> first | exact ⟨_, rfl⟩ | exact False.elim p
    refine ok Y H0 io T τ e2 s H2 _ _ _ _ (.bl k) _ hf rl2 fun v H3 rl3 => ?_
    obtain rfl := rl3.isBl
    refine ⟨k, rfl, ?_⟩
    cases k with
    | false => rw [if_neg Bool.false_ne_true]; exact p _ _ rl3
    | true =>
      rw [if_pos rfl]
      simp only at p
      refine hc.then (rl3.pop.int (i := j)) (P := PostE K mg W Y H0 io T τ s Q) p id postE_exc1 fun d3 e3 p' v3 H4 rl4 => ?_
      cases hg : g (.int j) d3 with
      | none => simp only [hg] at p'; exact False.elim p'
      | some x =>
        simp only [hg] at p'
        exact ok' Y H0 io T τ e3 s H4 _ _ _ _ x Q hg rl4 p'
theorem de_chain {op op' : CmpOp} {r r' : R2} {f g : D → D → Option D} (ho : OpR X (compareOp op) r) (ho' : OpR X (compareOp op') r') (ok : Ok2 X.K r f) (ok' : Ok2 X.K r' g) (ha : DE X W a ma) (hb : DE X W b mb) (hc : DE X W c mc)
    (hm : lastMarks [op, op'] [b, c] = false := by with_unfolding_all rfl) : DE X W (.Compare a [op, op'] [b, c] pos) (mChain f g ma mb mc) := by
  obtain ⟨ta, pa, sa⟩ := ha
  obtain ⟨tb, pb, sb⟩ := hb
  obtain ⟨tc, pc, sc⟩ := hc
  exact ⟨_, pe_chain ho ho' pa pb pc hm, sim_chain ok ok' sa sb sc⟩
theorem de_leLe (ha : DE X W a ma) (hb : DE X W b mb) (hc : DE X W c mc) (hm : lastMarks [.LtE, .LtE] [b, c] = false := by with_unfolding_all rfl) : DE X W (.Compare a [.LtE, .LtE] [b, c] pos) (mChain dLe dLe ma mb mc) := de_chain op_le op_le (ok_fI0 fun _ _ _ _ => rep_bl) (ok_fI0 fun _ _ _ _ => rep_bl) ha hb hc hm
theorem de_leLt (ha : DE X W a ma) (hb : DE X W b mb) (hc : DE X W c mc) (hm : lastMarks [.LtE, .Lt] [b, c] = false := by with_unfolding_all rfl) : DE X W (.Compare a [.LtE, .Lt] [b, c] pos) (mChain dLe dLtI ma mb mc) := de_chain op_le op_lt (ok_fI0 fun _ _ _ _ => rep_bl) (ok_fI0 fun _ _ _ _ => rep_bl) ha hb hc hm
theorem de_ltLt (ha : DE X W a ma) (hb : DE X W b mb) (hc : DE X W c mc) (hm : lastMarks [.Lt, .Lt] [b, c] = false := by with_unfolding_all rfl) : DE X W (.Compare a [.Lt, .Lt] [b, c] pos) (mChain dLtI dLtI ma mb mc) := de_chain op_lt op_lt (ok_fI0 fun _ _ _ _ => rep_bl) (ok_fI0 fun _ _ _ _ => rep_bl) ha hb hc hm
/-- -a -/
def dNeg : D → Option D
  | .int i => some (.int (-i))
  | _ => none
theorem de_neg (ha : DE X W a ma) : DE X W (.UnaryOp .USub a pos) (mOp1 dNeg ma) := by
  obtain ⟨ta, pa, sa⟩ := ha
  refine ⟨_, pe_un un_neg pa, sim_op1 (fun Y H0 io T τ e s H a va d Q hf r q => ?_) sa⟩
  obtain ⟨i, rfl⟩ : ∃ i, a = .int i := by cases a <;> first | exact ⟨_, rfl⟩ | (simp [dNeg] at hf)
  simp only [dNeg, Option.some.injEq] at hf
  subst hf
  exact ⟨i, r.isInt, q _ _ r.pop.int⟩
/-! ### argument lists, displays, items, built-in calls -/
theorem da_nil : DA X W [] mNil := ⟨_, pa_nil, sim_nil⟩
theorem da_cons {e : Expr} {m : ME} {ms : MA} (he : DE X W e m) (hr : DA X W es ms) (hs : starEach (e :: es) X.env = (false, eval e X.env) :: starEach es X.env := by rfl) : DA X W (e :: es) (mCons m ms) := by
  obtain ⟨t, p, s⟩ := he
  obtain ⟨t2, p2, s2⟩ := hr
  exact ⟨_, pa_cons p p2 hs, sim_cons s s2⟩
theorem sim_tup {K : PySem.W.Frag} {mg : Str → Option Value} {ta : TA} {ma : MA} (ha : SimA K mg W ta ma) : SimE K mg W (tTup ta) (mTup ma) := by
  intro Y H0 io T τ e s H Q rl p
  refine ha.then rl (P := PostE K mg W Y H0 io T τ s Q) p id postE_exc fun ds e' p vs H' hl rl' => ?_
  by_cases hz : ds.length ≤ sizeLine
  · rw [if_pos hz] at p
    exact ⟨by rw [hl]; exact hz, fun q hq => p _ _ (Rel.tuple hl rl' hq)⟩
  · rw [if_neg hz] at p; exact False.elim p
theorem de_tup {k} (h : DA X W es mas) : DE X W (.Tuple es k pos) (mTup mas) := by
  obtain ⟨t, p, s⟩ := h
  exact ⟨_, pe_tup p, sim_tup s⟩
theorem de_lst (h : DA X W es mas) : DE X W (.List es pos) (mLst mas) := by
  obtain ⟨t, p, s⟩ := h
  exact ⟨_, pe_lst p, sim_lst s⟩
theorem de_ix (ha : DE X W a ma) (hb : DE X W b mb) (hs : PlainIx b := by exact fun _ _ => rfl) : DE X W (.Subscript a b pos) (mOp2 dIx ma mb) := by
  obtain ⟨ta, pa, sa⟩ := ha
  obtain ⟨tb, pb, sb⟩ := hb
  exact ⟨_, pe_ix ix_seq pa pb hs, sim_op2 ok_ix sa sb⟩
theorem de_callB {x : Str} {id : String} {r : List V → Hp → VK → Prop} {f : List D → Option D} (hc : CallR X (.builtin id) r) (ok : OkL X.K r f) (hm : X.mg x = none) (ha : DA X W (a :: es) mas) (hv : bootBuiltins x = some (.builtin id))
    (hg : Gl X x := by rfl) (hn : x ≠ "__name__" := by decide) (hdb : (x == ("__debug__" : Str)) = false := by decide)
    (he : starEach (a :: es) X.env = (false, eval a X.env) :: starEach es X.env := by rfl) (hpl : (backTo pos (starEach es X.env)).any (·.1) = false := by rfl) : DE X W (.Call (.Name x p) (a :: es) [] pos) (mOpL f mas) := by
  obtain ⟨t, pa, s⟩ := ha
  exact ⟨_, pe_callB hc hg hm hv pa hn hdb he hpl, sim_opL ok s⟩
theorem de_callTy {x : Str} {T : String} {r : List V → Hp → VK → Prop} {f : List D → Option D} (hc : CallR X (.type T) r) (ok : OkL X.K r f) (hm : X.mg x = none) (ha : DA X W (a :: es) mas) (hv : bootBuiltins x = some (.type T))
    (hg : Gl X x := by rfl) (hn : x ≠ "__name__" := by decide) (hdb : (x == ("__debug__" : Str)) = false := by decide)
    (he : starEach (a :: es) X.env = (false, eval a X.env) :: starEach es X.env := by rfl) (hpl : (backTo pos (starEach es X.env)).any (·.1) = false := by rfl) : DE X W (.Call (.Name x p) (a :: es) [] pos) (mOpL f mas) := by
  obtain ⟨t, pa, s⟩ := ha
  exact ⟨_, pe_callTy hc hg hm hv pa hn hdb he hpl, sim_opL ok s⟩
end

/-! ### the built-in names -/
/-- none of these is the module's own -/
structure BI (mg : Str → Option Value) : Prop where
  len : mg "len" = none
  isi : mg "isinstance" = none
  all : mg "all" = none
  any : mg "any" = none
  sum : mg "sum" = none
  min : mg "min" = none
  max : mg "max" = none
  sorted : mg "sorted" = none
  range : mg "range" = none
  enum : mg "enumerate" = none
  zip : mg "zip" = none
  tuple : mg "tuple" = none
  list : mg "list" = none
  dict : mg "dict" = none
  set : mg "set" = none
  str : mg "str" = none
  int : mg "int" = none
  bool : mg "bool" = none
  abs : mg "abs" = none
  divmod : mg "divmod" = none
  repr : mg "repr" = none
  verr : mg "ValueError" = none

section
variable {K : PySem.W.Frag}
/-- one argument -/
theorem okL1 {r : List V → Hp → VK → Prop} {f : List D → Option D} (f1 : D → Option D) (hf : ∀ ds d, f ds = some d → ∃ x, ds = [x] ∧ f1 x = some d)
    (h : ∀ Y H0 io T τ e s H a va d Q, f1 a = some d → Rel K Y H0 io (a :: T) (va :: τ) e s H → (∀ v H', Rel K Y H0 io (d :: T) (v :: τ) e s H' → Q v H') → r [va] H Q) : OkL K r f := by
  intro Y H0 io T τ e s H ds vs d Q hd hl rl q
  obtain ⟨x, rfl, h1⟩ := hf ds d hd
  obtain ⟨v, rfl⟩ : ∃ v, vs = [v] := by
    match vs, hl with
    | [v], _ => exact ⟨v, rfl⟩
  exact h Y H0 io T τ e s H x v d Q h1 rl q
theorem okL2 {r : List V → Hp → VK → Prop} {f : List D → Option D} (f1 : D → D → Option D) (hf : ∀ ds d, f ds = some d → ∃ x y, ds = [x, y] ∧ f1 x y = some d)
    (h : ∀ Y H0 io T τ e s H a b va vb d Q, f1 a b = some d → Rel K Y H0 io (b :: a :: T) (vb :: va :: τ) e s H → (∀ v H', Rel K Y H0 io (d :: T) (v :: τ) e s H' → Q v H') → r [va, vb] H Q) : OkL K r f := by
  intro Y H0 io T τ e s H ds vs d Q hd hl rl q
  obtain ⟨x, y, rfl, h1⟩ := hf ds d hd
  obtain ⟨v, u, rfl⟩ : ∃ v u, vs = [v, u] := by
    match vs, hl with
    | [v, u], _ => exact ⟨v, u, rfl⟩
  exact h Y H0 io T τ e s H x y v u d Q h1 rl.swap q
def fn1 (f : D → Option D) : List D → Option D
  | [x] => f x
  | _ => none
def fn2 (f : D → D → Option D) : List D → Option D
  | [x, y] => f x y
  | _ => none
theorem fn1_of (f : D → Option D) : ∀ ds d, fn1 f ds = some d → ∃ x, ds = [x] ∧ f x = some d
  | [], d, h => by cases h
  | [x], d, h => ⟨x, rfl, h⟩
  | _ :: _ :: _, d, h => by cases h
theorem fn2_of (f : D → D → Option D) : ∀ ds d, fn2 f ds = some d → ∃ x y, ds = [x, y] ∧ f x y = some d
  | [], d, h => by cases h
  | [_], d, h => by cases h
  | [x, y], d, h => ⟨x, y, rfl, h⟩
  | _ :: _ :: _ :: _, d, h => by cases h

/-- len -/
def dLen : D → Option D
  | .str z => if z.length ≤ sizeLine then some (.int z.length) else none
  | a => (items a).map fun ds => .int ds.length
theorem ok_len : OkL K (fun xs H Q => ∃ x n, xs = [x] ∧ LenV K x H n ∧ Q (.int n) H) (fn1 dLen) := by
  refine okL1 dLen (fn1_of _) fun Y H0 io T τ e s H a va d Q hf r q => ?_
  obtain ⟨P, as, o⟩ := r.top
  by_cases ha : ∃ z, a = .str z
  · obtain ⟨z, rfl⟩ := ha
    unfold dLen at hf
    simp only at hf
    by_cases c : z.length ≤ sizeLine
    · rw [if_pos c] at hf
      cases hf
      obtain rfl := o.str
      exact ⟨_, z.length, rfl, ⟨c, rfl⟩, q _ _ r.pop.int⟩
    · rw [if_neg c] at hf; cases hf
  · have hf : (items a).map (fun ds => D.int ds.length) = some d := by
      cases a <;> first | exact hf | exact absurd ⟨_, rfl⟩ ha
    obtain ⟨ds, hx, rfl⟩ := Option.map_eq_some_iff.mp hf
    obtain ⟨p1, v1, a1, rfl, t1, w1⟩ := o.seq hx
    refine ⟨_, ds.length, rfl, ?_, q _ _ r.pop.int⟩
    rcases t1 with t1 | t1
    · exact .inl ⟨v1, t1, w1.len.symm⟩
    · exact .inr ⟨v1, t1, w1.len.symm⟩
/-- isinstance of data -/
def kindOf : D → Option String
  | .non => some "NoneType" | .bl _ => some "bool" | .int _ => some "int" | .str _ => some "str" | .tup _ => some "tuple" | .lst _ => some "list" | .cst _ => some "list" | .own _ => some "list" | .raw _ => none
def isiT (k n : String) : Option Bool :=
  if ["NoneType", "bool", "int", "str", "tuple", "list"].contains k && ["bool", "int", "str", "tuple", "list"].contains n then some (k == n || (k == "bool" && n == "int")) else none
theorem isiT_all : ∀ k ∈ ["NoneType", "bool", "int", "str", "tuple", "list"], ∀ n ∈ ["bool", "int", "str", "tuple", "list"], kitB k n = some (k == n || (k == "bool" && n == "int")) := by decide +kernel
theorem isiT_ok {k n : String} {b : Bool} (h : isiT k n = some b) : kitB k n = some b := by
  unfold isiT at h
  by_cases c : (["NoneType", "bool", "int", "str", "tuple", "list"].contains k && ["bool", "int", "str", "tuple", "list"].contains n) = true
  · rw [if_pos c] at h
    rw [Bool.and_eq_true] at c
    rw [← h]
    exact isiT_all k (by simpa using c.1) n (by simpa using c.2)
  · rw [if_neg c] at h; cases h
theorem Own.tyx {P : Addr → Prop} {H : Hp} {d : D} {v : V} {as} {k : String} (h : Own K P H d v as) (e : kindOf d = some k) : TyX K H v (.type k) := by
  cases d <;> simp only [kindOf, Option.some.injEq, reduceCtorEq] at e <;> subst e
  · rw [h.non]; exact .base .non
  · rw [h.bl]; exact .base (.bl _)
  · rw [h.int]; exact .base (.int _)
  · rw [h.str]; exact .base (.str _)
  · obtain ⟨a, vs, rfl, q, _⟩ := h.tup
    rcases q with (q | ⟨o, q⟩) | ⟨o, _, _, q, c, _⟩
    · exact .base (.tup q.1)
    · exact .fTuple q
    · exact .kTuple q c
  · obtain ⟨a, vs, rfl, q, _⟩ := h.lst; exact .base (.lst q)
  · obtain ⟨a, vs, rfl, q, _⟩ := h.cst
    rcases q with ⟨o, q⟩ | ⟨o, _, _, q, c, _⟩
    · exact .base (.frz q)
    · exact .kList q c
  · obtain ⟨a, vs, bs, rfl, q, _⟩ := h.own; exact .base (.lst q)
def dIsi : D → D → Option D
  | a, .raw (.ty n) => (kindOf a).bind fun k => (isiT k n).map D.bl
  | _, _ => none
theorem ok_isi : OkL K (rIsi K) (fn2 dIsi) := by
  refine okL2 dIsi (fn2_of _) fun Y H0 io T τ e s H a b va vb d Q hf r q => ?_
  obtain ⟨P, as, bs, o1, o2⟩ := r.top2
  obtain ⟨n, rfl⟩ : ∃ n, b = .raw (.ty n) := by
    cases b <;> try (simp [dIsi] at hf; done)
    rename_i v
    cases v <;> first | exact ⟨_, rfl⟩ | (simp [dIsi] at hf)
  unfold dIsi at hf
  obtain ⟨k, h1, hf⟩ := Option.bind_eq_some_iff.mp hf
  obtain ⟨c, h2, rfl⟩ := Option.map_eq_some_iff.mp hf
  obtain rfl := o1.raw
  exact ⟨va, .ty n, .type k, .type n, c, rfl, .ty n, o2.tyx h1, kit_ty (isiT_ok h2), q _ _ r.pop.pop.bl⟩
/-- all, any, sum -/
def dAll (a : D) : Option D := (litems a).bind fun ds => (blsD ds).map fun bs => .bl (bs.all id)
def dAny (a : D) : Option D := (litems a).bind fun ds => (blsD ds).map fun bs => .bl (bs.any id)
def dSum (a : D) : Option D := (litems a).bind fun ds => (intsD ds).map fun ns => .int ns.sum
theorem ok_all : OkL K (rAll K) (fn1 dAll) := by
  refine okL1 dAll (fn1_of _) fun Y H0 io T τ e s H a va d Q hf r q => ?_
  obtain ⟨P, as, o⟩ := r.top
  obtain ⟨ds, h1, hf⟩ := Option.bind_eq_some_iff.mp hf
  obtain ⟨bs, h2, rfl⟩ := Option.map_eq_some_iff.mp hf
  obtain ⟨p1, v1, a1, rfl, t1, w1⟩ := o.lseq h1
  obtain rfl := bls_eq h2
  obtain rfl := owns_bls w1
  exact ⟨p1, bs, rfl, t1, q _ _ r.pop.bl⟩
theorem ok_any : OkL K (rAny K) (fn1 dAny) := by
  refine okL1 dAny (fn1_of _) fun Y H0 io T τ e s H a va d Q hf r q => ?_
  obtain ⟨P, as, o⟩ := r.top
  obtain ⟨ds, h1, hf⟩ := Option.bind_eq_some_iff.mp hf
  obtain ⟨bs, h2, rfl⟩ := Option.map_eq_some_iff.mp hf
  obtain ⟨p1, v1, a1, rfl, t1, w1⟩ := o.lseq h1
  obtain rfl := bls_eq h2
  obtain rfl := owns_bls w1
  exact ⟨p1, bs, rfl, t1, q _ _ r.pop.bl⟩
theorem ok_sum : OkL K (rSum K) (fn1 dSum) := by
  refine okL1 dSum (fn1_of _) fun Y H0 io T τ e s H a va d Q hf r q => ?_
  obtain ⟨P, as, o⟩ := r.top
  obtain ⟨ds, h1, hf⟩ := Option.bind_eq_some_iff.mp hf
  obtain ⟨bs, h2, rfl⟩ := Option.map_eq_some_iff.mp hf
  obtain ⟨p1, v1, a1, rfl, t1, w1⟩ := o.lseq h1
  obtain rfl := ints_eq h2
  obtain rfl := owns_ints w1
  exact ⟨p1, bs, rfl, t1, q _ _ r.pop.int⟩
/-- tuple(x), list(x) -/
def dTuple : D → Option D
  | .tup ds => some (.tup ds)
  | a => (litems a).map fun ds => .tup (frzs ds)
def dList (a : D) : Option D := (items a).map fun ds => .own ds
theorem ok_tuple : OkL K (fun xs H Q => ∃ p ys, xs = [.ref p] ∧ ((SqL K H p ys ∧ ∀ l, H l = none → Q (.ref l) (upd H l (.tup ys))) ∨ (SqT K H p ys ∧ Q (.ref p) H))) (fn1 dTuple) := by
  refine okL1 dTuple (fn1_of _) fun Y H0 io T τ e s H a va d Q hf r q => ?_
  by_cases ha : ∃ ds, a = .tup ds
  · obtain ⟨ds, rfl⟩ := ha
    obtain ⟨P, as, o⟩ := r.top
    cases hf
    obtain ⟨p1, v1, rfl, t1, r1⟩ := o.tup
    exact ⟨p1, v1, rfl, .inr ⟨t1.sq, q _ _ r⟩⟩
  · have hf : (litems a).map (fun ds => D.tup (frzs ds)) = some d := by
      cases a <;> first | exact hf | exact absurd ⟨_, rfl⟩ ha
    obtain ⟨ds, h1, rfl⟩ := Option.map_eq_some_iff.mp hf
    have r := r.frz
    obtain ⟨P, as, nd, o, g⟩ := r.swap1
    have h2 : litems a.frz = some (frzs ds) := by
      cases a <;> simp only [litems, Option.some.injEq, reduceCtorEq] at h1 <;> subst h1 <;> rfl
    obtain ⟨p1, v1, a1, rfl, t1, w1⟩ := o.lseq h2
    refine ⟨p1, v1, rfl, .inl ⟨t1, fun l hl => ?_⟩⟩
    have hs : Same H (upd H l (.tup v1)) := same_new hl
    obtain ⟨w2, _⟩ := Owns.reps (plains_frz ds) w1
    refine q _ _ (g _ (.tup (frzs ds)) _ [] hs List.nodup_nil (fun _ z => nomatch z) fun P' hP hT _ => Own.of ?_)
    unfold Rep
    exact ⟨l, v1, rfl, .inl (.inl ⟨upd_same, fun z => hT l _ z upd_same⟩), Reps.mono (swap_plain (as := []) hs hP) _ w2⟩
theorem ok_list : OkL K (fun xs H Q => ∃ p ys, xs = [.ref p] ∧ (SqL K H p ys ∨ SqT K H p ys) ∧ ∀ l, H l = none → Q (.ref l) (upd H l (.lst ys))) (fn1 dList) := by
  refine okL1 dList (fn1_of _) fun Y H0 io T τ e s H a va d Q hf r q => ?_
  obtain ⟨ds, h1, rfl⟩ := Option.map_eq_some_iff.mp hf
  obtain ⟨P, as, nd, o, g⟩ := r.swap1
  obtain ⟨p1, v1, a1, rfl, t1, w1, s1, n1⟩ := o.seqA h1
  refine ⟨p1, v1, rfl, t1, fun l hl => ?_⟩
  have hs : Same H (upd H l (.lst v1)) := same_new hl
  refine q _ _ (g _ (.own ds) _ (l :: a1) hs ?_ (fun z hz => ?_) fun P' hP hT _ => ?_)
  · refine List.nodup_cons.mpr ⟨fun z => ?_, n1 nd⟩
    obtain ⟨vs, w⟩ := Owns.there _ w1 l z
    rw [hl] at w; cases w
  · rcases List.mem_cons.mp hz with rfl | hz
    · exact ⟨.inr hl, _, upd_same⟩
    · obtain ⟨vs, w⟩ := Owns.there _ w1 z hz
      exact ⟨.inl (s1 z hz), vs, hs z _ w⟩
  · unfold Own
    exact ⟨l, v1, a1, rfl, upd_same, swap_owns hs hP w1, rfl⟩
/-- numbers -/
def dInt : D → Option D
  | .int i => some (.int i)
  | .bl k => some (.int (if k then 1 else 0))
  | _ => none
theorem ok_int : OkL K (fun xs H Q => (∃ i, xs = [.int i] ∧ Q (.int i) H) ∨ ∃ k, xs = [.bl k] ∧ Q (.int (if k then 1 else 0)) H) (fn1 dInt) := by
  refine okL1 dInt (fn1_of _) fun Y H0 io T τ e s H a va d Q hf r q => ?_
  cases a <;> simp only [dInt, Option.some.injEq, reduceCtorEq] at hf <;> subst hf
  · exact .inr ⟨_, by rw [r.isBl], q _ _ r.pop.int⟩
  · exact .inl ⟨_, by rw [r.isInt], q _ _ r.pop.int⟩
def dStr : D → Option D
  | .int i => if i.natAbs.log2 < 1920 then some (.str (toString i)) else none
  | _ => none
theorem ok_str : OkL K (fun xs H Q => ∃ i : Int, xs = [.int i] ∧ i.natAbs.log2 < 1920 ∧ Q (.str (toString i)) H) (fn1 dStr) := by
  refine okL1 dStr (fn1_of _) fun Y H0 io T τ e s H a va d Q hf r q => ?_
  cases a <;> simp only [dStr, reduceCtorEq] at hf
  rename_i i
  by_cases c : i.natAbs.log2 < 1920
  · rw [if_pos c] at hf
    cases hf
    exact ⟨i, by rw [r.isInt], c, q _ _ r.pop.str⟩
  · rw [if_neg c] at hf; cases hf
def dAbs : D → Option D
  | .int i => some (.int (if i < 0 then -i else i))
  | _ => none
theorem ok_abs : OkL K (fun xs H Q => ∃ i : Int, xs = [.int i] ∧ Q (.int (if i < 0 then -i else i)) H) (fn1 dAbs) := by
  refine okL1 dAbs (fn1_of _) fun Y H0 io T τ e s H a va d Q hf r q => ?_
  cases a <;> simp only [dAbs, Option.some.injEq, reduceCtorEq] at hf
  subst hf
  exact ⟨_, by rw [r.isInt], q _ _ r.pop.int⟩
def dMax2 := fI (fun _ _ => True) fun i j => .int (if j > i then j else i)
def dMin2 := fI (fun _ _ => True) fun i j => .int (if j < i then j else i)
theorem ok_max2 : OkL K (fun xs H Q => ∃ i j, xs = [.int i, .int j] ∧ Q (.int (if j > i then j else i)) H) (fn2 dMax2) := by
  refine okL2 dMax2 (fn2_of _) fun Y H0 io T τ e s H a b va vb d Q hf r q => ?_
  obtain ⟨i, j, e1, e2, z⟩ := ok_fI0 (K := K) (g := fun i j => .int (if j > i then j else i)) (gv := fun i j => .int (if j > i then j else i)) (fun _ _ _ _ => rep_int) Y H0 io T τ e s H a b va vb d Q hf r q
  exact ⟨i, j, by rw [e1, e2], z⟩
theorem ok_min2 : OkL K (fun xs H Q => ∃ i j, xs = [.int i, .int j] ∧ Q (.int (if j < i then j else i)) H) (fn2 dMin2) := by
  refine okL2 dMin2 (fn2_of _) fun Y H0 io T τ e s H a b va vb d Q hf r q => ?_
  obtain ⟨i, j, e1, e2, z⟩ := ok_fI0 (K := K) (g := fun i j => .int (if j < i then j else i)) (gv := fun i j => .int (if j < i then j else i)) (fun _ _ _ _ => rep_int) Y H0 io T τ e s H a b va vb d Q hf r q
  exact ⟨i, j, by rw [e1, e2], z⟩
instance (i j : Int) : Decidable (CDivP i j) := by unfold CDivP; infer_instance
def dDivmod := fI CDivP fun i j => .tup [.int (i / j), .int (i % j)]
theorem ok_divmod : OkL K (fun xs H Q => ∃ i j, xs = [.int i, .int j] ∧ CDivP i j ∧ ∀ p, H p = none → Q (.ref p) (upd H p (.tup [.int (i / j), .int (i % j)]))) (fn2 dDivmod) := by
  refine okL2 dDivmod (fn2_of _) fun Y H0 io T τ e s H a b va vb d Q hf r q => ?_
  cases a <;> cases b <;> simp only [dDivmod, fI, reduceCtorEq] at hf
  rename_i i j
  by_cases c : CDivP i j
  · rw [if_pos c] at hf
    cases hf
    obtain ⟨P, as, bs, nd, o1, o2, g⟩ := r.swap2
    obtain rfl := o1.int
    obtain rfl := o2.int
    refine ⟨i, j, rfl, c, fun l hl => ?_⟩
    refine q _ _ (g _ (.tup [.int (i / j), .int (i % j)]) _ [] (same_new hl) List.nodup_nil (fun _ z => nomatch z) fun P' hP hT _ => Own.of ?_)
    unfold Rep
    refine ⟨l, _, rfl, .inl (.inl ⟨upd_same, fun z => hT l _ z upd_same⟩), ?_⟩
    unfold Reps
    refine ⟨_, _, rfl, rep_int, ?_⟩
    unfold Reps
    exact ⟨_, _, rfl, rep_int, by unfold Reps; rfl⟩
  · rw [if_neg c] at hf; cases hf
end
end Mi
namespace Mi
open PySem PySem.Spec PyProof.Rows L2

/-! ### tests -/
def mT (ma : ME) : MT := fun e => (ma e).bind fun p => match p.1 with
  | .bl b => .ok (b, p.2)
  | _ => .err
def mNotT (m : MT) : MT := fun e => (m e).bind fun p => .ok (!p.1, p.2)
def mAndT (m n : MT) : MT := fun e => (m e).bind fun p => if p.1 = true then n p.2 else .ok (false, p.2)
def mOrT (m n : MT) : MT := fun e => (m e).bind fun p => if p.1 = true then .ok (true, p.2) else n p.2
def mAndV (m n : ME) : ME := fun e => (m e).bind fun p => match p.1 with
  | .bl true => n p.2
  | .bl false => .ok (.bl false, p.2)
  | _ => .err
def mOrV (m n : ME) : ME := fun e => (m e).bind fun p => match p.1 with
  | .bl true => .ok (.bl true, p.2)
  | .bl false => n p.2
  | _ => .err
def dNot : D → Option D
  | .bl b => some (.bl (!b))
  | _ => none
def mIf (c : MT) (m n : ME) : ME := fun e => (c e).bind fun p => if p.1 = true then m p.2 else n p.2
def DW (X : Cx) (W : WX) (e : Expr) (m : MT) : Prop := ∃ t, PW X e t ∧ SimT X.K X.mg W t m
section
variable {K : PySem.W.Frag} {mg : Str → Option Value} {W : WX}
theorem SimT.then {t : TT} {m : MT} (h : SimT K mg W t m) {Y H0 io T τ e s H} {Q : Bool → Hp → Prop} (r : Rel K Y H0 io T τ e s H) {β : Type} {k : Bool × Env → Rs β} {P : Rs β → Prop} (p : P ((m e).bind k)) (herr : ¬ P .err)
    (hexc : ∀ c fs e', P (.exc c fs e') → ∀ cls dd H', XR mg H' c fs cls dd → Rel K Y H0 io T τ e' s H' → W cls dd s H')
    (hk : ∀ b e', P (k (b, e')) → ∀ H', Rel K Y H0 io T τ e' s H' → Q b H') : t s H Q := by
  refine h Y H0 io T τ e s H Q r ?_
  cases q : m e with
  | ok a =>
    obtain ⟨d, e'⟩ := a
    rw [q] at p
    exact hk d e' p
  | exc c fs e' =>
    rw [q] at p
    exact hexc c fs e' p
  | err => rw [q] at p; exact (herr p).elim
theorem sim_test {t : TE} {m : ME} (h : SimE K mg W t m) : SimT K mg W (tTest t) (mT m) := by
  intro Y H0 io T τ e s H Q r p
  refine h.then r (P := PostT K mg W Y H0 io T τ s Q) p id postT_exc fun d e' p v H' rl => ?_
  obtain ⟨b, rfl⟩ : ∃ b, d = .bl b := by cases d <;> first | exact ⟨_, rfl⟩ | exact False.elim p
  exact ⟨b, rl.isBl, p H' rl.pop⟩
theorem sim_notT {t : TT} {m : MT} (h : SimT K mg W t m) : SimT K mg W (tNot t) (mNotT m) := by
  intro Y H0 io T τ e s H Q r p
  exact h.then r (P := PostT K mg W Y H0 io T τ s Q) p id postT_exc fun b e' p H' rl => p H' rl
theorem sim_andT {t u : TT} {m n : MT} (h : SimT K mg W t m) (h2 : SimT K mg W u n) : SimT K mg W (tAnd t u) (mAndT m n) := by
  intro Y H0 io T τ e s H Q r p
  refine h.then r (P := PostT K mg W Y H0 io T τ s Q) p id postT_exc fun b e' p H' rl => ?_
  cases b with
  | true => rw [if_pos rfl]; exact h2 Y H0 io T τ e' s H' Q rl p
  | false => rw [if_neg Bool.false_ne_true]; exact p H' rl
theorem sim_orT {t u : TT} {m n : MT} (h : SimT K mg W t m) (h2 : SimT K mg W u n) : SimT K mg W (tOr t u) (mOrT m n) := by
  intro Y H0 io T τ e s H Q r p
  refine h.then r (P := PostT K mg W Y H0 io T τ s Q) p id postT_exc fun b e' p H' rl => ?_
  cases b with
  | false => rw [if_neg Bool.false_ne_true]; exact h2 Y H0 io T τ e' s H' Q rl p
  | true => rw [if_pos rfl]; exact p H' rl
theorem sim_andV {t u : TE} {m n : ME} (h : SimE K mg W t m) (h2 : SimE K mg W u n) : SimE K mg W (tAndV t u) (mAndV m n) := by
  intro Y H0 io T τ e s H Q r p
  refine h.then r (P := PostE K mg W Y H0 io T τ s Q) p id postE_exc fun d e' p v H' rl => ?_
  obtain ⟨b, rfl⟩ : ∃ b, d = .bl b := by cases d <;> first | exact ⟨_, rfl⟩ | exact False.elim p
  refine ⟨b, rl.isBl, ?_⟩
  cases b with
  | true => rw [if_pos rfl]; exact h2 Y H0 io T τ e' s H' Q rl.pop p
  | false => rw [if_neg Bool.false_ne_true]; exact p _ H' (by have z := rl; obtain rfl := rl.isBl; exact z)
theorem sim_orV {t u : TE} {m n : ME} (h : SimE K mg W t m) (h2 : SimE K mg W u n) : SimE K mg W (tOrV t u) (mOrV m n) := by
  intro Y H0 io T τ e s H Q r p
  refine h.then r (P := PostE K mg W Y H0 io T τ s Q) p id postE_exc fun d e' p v H' rl => ?_
  obtain ⟨b, rfl⟩ : ∃ b, d = .bl b := by cases d <;> first | exact ⟨_, rfl⟩ | exact False.elim p
  refine ⟨b, rl.isBl, ?_⟩
  cases b with
  | false => rw [if_neg Bool.false_ne_true]; exact h2 Y H0 io T τ e' s H' Q rl.pop p
  | true => rw [if_pos rfl]; exact p _ H' (by have z := rl; obtain rfl := rl.isBl; exact z)
theorem sim_notV {t : TE} {m : ME} (h : SimE K mg W t m) : SimE K mg W (tNotV t) (mOp1 dNot m) := by
  intro Y H0 io T τ e s H Q r p
  refine h.then r (P := PostE K mg W Y H0 io T τ s Q) p id postE_exc fun d e' p v H' rl => ?_
  obtain ⟨b, rfl⟩ : ∃ b, d = .bl b := by cases d <;> first | exact ⟨_, rfl⟩ | exact False.elim p
  exact ⟨b, rl.isBl, p _ H' rl.pop.bl⟩
theorem sim_if {t : TT} {ta tb : TE} {c : MT} {m n : ME} (hc : SimT K mg W t c) (h : SimE K mg W ta m) (h2 : SimE K mg W tb n) : SimE K mg W (tIf t ta tb) (mIf c m n) := by
  intro Y H0 io T τ e s H Q r p
  refine hc.then r (P := PostE K mg W Y H0 io T τ s Q) p id postE_exc fun b e' p H' rl => ?_
  cases b with
  | true => rw [if_pos rfl]; exact h Y H0 io T τ e' s H' Q rl p
  | false => rw [if_neg Bool.false_ne_true]; exact h2 Y H0 io T τ e' s H' Q rl p
end
section
variable {X : Cx} {W : WX} {pos p : Pos} {a b c : Expr} {es : List Expr} {ma mb mc : ME} {na nb : MT}
theorem dt_val (h : DE X W a ma) (he : ∀ whole, isTrue a X.env whole = (do let v ← whole; standAt a.pos; holding [v] (truthy v)) := by intro _; rfl) : DT X W a (mT ma) := by
  obtain ⟨t, p, s⟩ := h
  exact ⟨_, pt_val p he, sim_test s⟩
theorem dt_cmp {op : CmpOp} {r : R2} {f : D → D → Option D} (ho : OpR X (compareOp op) r) (ok : Ok2 X.K r f) (hm : behindInMarks op b = false) (ha : DE X W a ma) (hb : DE X W b mb) : DT X W (.Compare a [op] [b] pos) (mT (mOp2 f ma mb)) := by
  obtain ⟨ta, pa, sa⟩ := ha
  obtain ⟨tb, pb, sb⟩ := hb
  exact ⟨_, pt_cmpR ho pa pb hm, sim_test (sim_op2 ok sa sb)⟩
theorem dt_eq (hu : X.A.units + 64 < cLine) (ha : DE X W a ma) (hb : DE X W b mb) : DT X W (.Compare a [.Eq] [b] pos) (mT (mOp2 dEq ma mb)) := dt_cmp (op_eqD hu) ok_eq (nomark _) ha hb
theorem dt_ne (hu : X.A.units + 64 < cLine) (ha : DE X W a ma) (hb : DE X W b mb) : DT X W (.Compare a [.NotEq] [b] pos) (mT (mOp2 dNe ma mb)) := dt_cmp (op_neD hu) ok_ne (nomark _) ha hb
theorem dt_gt (ha : DE X W a ma) (hb : DE X W b mb) : DT X W (.Compare a [.Gt] [b] pos) (mT (mOp2 dGt ma mb)) := dt_cmp op_gt (ok_fI0 fun _ _ _ _ => rep_bl) (nomark _) ha hb
theorem dt_ge (ha : DE X W a ma) (hb : DE X W b mb) : DT X W (.Compare a [.GtE] [b] pos) (mT (mOp2 dGe ma mb)) := dt_cmp op_ge (ok_fI0 fun _ _ _ _ => rep_bl) (nomark _) ha hb
theorem dt_le (ha : DE X W a ma) (hb : DE X W b mb) : DT X W (.Compare a [.LtE] [b] pos) (mT (mOp2 dLe ma mb)) := dt_cmp op_le (ok_fI0 fun _ _ _ _ => rep_bl) (nomark _) ha hb
theorem dt_lt (hu : X.A.units + 64 < cLine) (ha : DE X W a ma) (hb : DE X W b mb) : DT X W (.Compare a [.Lt] [b] pos) (mT (mOp2 dLt ma mb)) := dt_cmp (op_lt.or (op_ltT (by omega))) ((ok_fI0 fun _ _ _ _ => rep_bl).or ok_ltT) (nomark _) ha hb
theorem dt_in (hu : X.A.units + 65 < cLine) (ha : DE X W a ma) (hb : DE X W b mb) (hm : behindInMarks .In b = false := by rfl) : DT X W (.Compare a [.In] [b] pos) (mT (mOp2 dIn ma mb)) := dt_cmp ((op_inD hu).or (op_inTD hu)) ok_in hm ha hb
theorem dt_notIn (hu : X.A.units + 65 < cLine) (ha : DE X W a ma) (hb : DE X W b mb) (hm : behindInMarks .NotIn b = false := by rfl) : DT X W (.Compare a [.NotIn] [b] pos) (mT (mOp2 dNotIn ma mb)) := dt_cmp ((op_notInD hu).or (op_notInTD hu)) ok_notIn hm ha hb
theorem dt_isN {j p'} (ha : DE X W a ma) : DT X W (.Compare a [.Is] [.Constant .none j p'] pos) (mT (mOp1 (dIs false) ma)) := by
  obtain ⟨ta, pa, sa⟩ := ha
  refine ⟨_, pt_cmp (pc_isN pa) (nomark _), sim_test ?_⟩
  refine sim_op1 (r := fun x H Q => Q (.bl (decide (x = .non))) H) (fun Y H0 io T τ e s H a va d Q hf r q => ?_) sa
  obtain ⟨k, hk, rfl⟩ := Option.map_eq_some_iff.mp hf
  obtain ⟨P, as, o⟩ := r.top
  rw [isNon_ok o hk]
  simpa using q _ _ (r.pop.bl (i := xor false k))
theorem dt_notN {j p'} (ha : DE X W a ma) : DT X W (.Compare a [.IsNot] [.Constant .none j p'] pos) (mT (mOp1 (dIs true) ma)) := by
  obtain ⟨ta, pa, sa⟩ := ha
  refine ⟨_, pt_cmp (pc_notN pa) (nomark _), sim_test ?_⟩
  refine sim_op1 (r := fun x H Q => Q (.bl (!decide (x = .non))) H) (fun Y H0 io T τ e s H a va d Q hf r q => ?_) sa
  obtain ⟨k, hk, rfl⟩ := Option.map_eq_some_iff.mp hf
  obtain ⟨P, as, o⟩ := r.top
  rw [isNon_ok o hk]
  simpa using q _ _ (r.pop.bl (i := xor true k))
theorem dt_chain {op op' : CmpOp} {r r' : R2} {f g : D → D → Option D} (ho : OpR X (compareOp op) r) (ho' : OpR X (compareOp op') r') (ok : Ok2 X.K r f) (ok' : Ok2 X.K r' g) (ha : DE X W a ma) (hb : DE X W b mb) (hc : DE X W c mc)
    (hm : lastMarks [op, op'] [b, c] = false := by with_unfolding_all rfl) : DT X W (.Compare a [op, op'] [b, c] pos) (mT (mChain f g ma mb mc)) := by
  obtain ⟨ta, pa, sa⟩ := ha
  obtain ⟨tb, pb, sb⟩ := hb
  obtain ⟨tc, pc, sc⟩ := hc
  exact ⟨_, pt_chain ho ho' pa pb pc hm, sim_test (sim_chain ok ok' sa sb sc)⟩
theorem dt_leLe (ha : DE X W a ma) (hb : DE X W b mb) (hc : DE X W c mc) (hm : lastMarks [.LtE, .LtE] [b, c] = false := by with_unfolding_all rfl) : DT X W (.Compare a [.LtE, .LtE] [b, c] pos) (mT (mChain dLe dLe ma mb mc)) := dt_chain op_le op_le (ok_fI0 fun _ _ _ _ => rep_bl) (ok_fI0 fun _ _ _ _ => rep_bl) ha hb hc hm
theorem dt_leLt (ha : DE X W a ma) (hb : DE X W b mb) (hc : DE X W c mc) (hm : lastMarks [.LtE, .Lt] [b, c] = false := by with_unfolding_all rfl) : DT X W (.Compare a [.LtE, .Lt] [b, c] pos) (mT (mChain dLe dLtI ma mb mc)) := dt_chain op_le op_lt (ok_fI0 fun _ _ _ _ => rep_bl) (ok_fI0 fun _ _ _ _ => rep_bl) ha hb hc hm
theorem dt_ltLt (ha : DE X W a ma) (hb : DE X W b mb) (hc : DE X W c mc) (hm : lastMarks [.Lt, .Lt] [b, c] = false := by with_unfolding_all rfl) : DT X W (.Compare a [.Lt, .Lt] [b, c] pos) (mT (mChain dLtI dLtI ma mb mc)) := dt_chain op_lt op_lt (ok_fI0 fun _ _ _ _ => rep_bl) (ok_fI0 fun _ _ _ _ => rep_bl) ha hb hc hm
theorem dt_not (h : DT X W a na) : DT X W (.UnaryOp .Not a pos) (mNotT na) := by
  obtain ⟨t, p, s⟩ := h
  exact ⟨_, pt_not p, sim_notT s⟩
theorem dw_and1 (h : DT X W a na) : DW X W (.BoolOp .And [a] pos) na := by
  obtain ⟨t, p, s⟩ := h
  exact ⟨_, pw_and1 p, s⟩
theorem dw_or1 (h : DT X W a na) : DW X W (.BoolOp .Or [a] pos) na := by
  obtain ⟨t, p, s⟩ := h
  exact ⟨_, pw_or1 p, s⟩
theorem dw_and (h : DT X W a na) (h2 : DW X W (.BoolOp .And (b :: es) pos) nb) : DW X W (.BoolOp .And (a :: b :: es) pos) (mAndT na nb) := by
  obtain ⟨t, p, s⟩ := h
  obtain ⟨t2, p2, s2⟩ := h2
  exact ⟨_, pw_and p p2, sim_andT s s2⟩
theorem dw_or (h : DT X W a na) (h2 : DW X W (.BoolOp .Or (b :: es) pos) nb) : DW X W (.BoolOp .Or (a :: b :: es) pos) (mOrT na nb) := by
  obtain ⟨t, p, s⟩ := h
  obtain ⟨t2, p2, s2⟩ := h2
  exact ⟨_, pw_or p p2, sim_orT s s2⟩
theorem dt_dw (h : DW X W a na) : DT X W a na := by
  obtain ⟨t, p, s⟩ := h
  exact ⟨_, p.pt, s⟩
theorem de_one {op} (h : DE X W a ma) : DE X W (.BoolOp op [a] pos) ma := by
  obtain ⟨t, p, s⟩ := h
  exact ⟨_, pe_one p, s⟩
theorem de_andV (h : DE X W a ma) (h2 : DE X W (.BoolOp .And (b :: es) pos) mb) : DE X W (.BoolOp .And (a :: b :: es) pos) (mAndV ma mb) := by
  obtain ⟨t, p, s⟩ := h
  obtain ⟨t2, p2, s2⟩ := h2
  exact ⟨_, pe_and p p2, sim_andV s s2⟩
theorem de_orV (h : DE X W a ma) (h2 : DE X W (.BoolOp .Or (b :: es) pos) mb) : DE X W (.BoolOp .Or (a :: b :: es) pos) (mOrV ma mb) := by
  obtain ⟨t, p, s⟩ := h
  obtain ⟨t2, p2, s2⟩ := h2
  exact ⟨_, pe_or p p2, sim_orV s s2⟩
theorem de_notV (h : DE X W a ma) : DE X W (.UnaryOp .Not a pos) (mOp1 dNot ma) := by
  obtain ⟨t, p, s⟩ := h
  exact ⟨_, pe_not p, sim_notV s⟩
theorem de_if (hc : DT X W c na) (h : DE X W a ma) (h2 : DE X W b mb) : DE X W (.IfExp c a b pos) (mIf na ma mb) := by
  obtain ⟨t, p, s⟩ := hc
  obtain ⟨t1, p1, s1⟩ := h
  obtain ⟨t2, p2, s2⟩ := h2
  exact ⟨_, pe_ifExp p p1 p2, sim_if s s1 s2⟩
end

/-! ### statements -/
def mSeq (m n : MS) : MS := fun e => match m e with
  | .nx e' => n e'
  | r => r
def mNext : MS := fun e => .nx e
def mDrop (m : ME) : MS := fun e => match m e with
  | .ok (_, e') => .nx e'
  | .exc c fs e' => .exc c fs e'
  | .err => .err
def mRet (m : ME) : MS := fun e => match m e with
  | .ok (d, e') => .rt d e'
  | .exc c fs e' => .exc c fs e'
  | .err => .err
def mRetN : MS := fun e => .rt .non e
def mIfS (c : MT) (m n : MS) : MS := fun e => match c e with
  | .ok (b, e') => if b = true then m e' else n e'
  | .exc c fs e' => .exc c fs e'
  | .err => .err
/-- targets: the value on top goes in -/
abbrev MG := D → Env → Option Env
def mgName (i : Nat) : MG := fun d e => if i < e.length then some (e.set i (some d)) else none
def mAsg (m : ME) (g : MG) : MS := fun e => match m e with
  | .ok (d, e') => match g d e' with
    | some e2 => .nx e2
    | none => .err
  | .exc c fs e' => .exc c fs e'
  | .err => .err
section
variable {K : PySem.W.Frag} {mg : Str → Option Value} {W : WX} {ios : List Nat}
/-- vs: the slots that the target stores to -/
def SimG (K : PySem.W.Frag) (ios vs : List Nat) (g : TG) (m : MG) : Prop := ∀ Y H0 io T τ e s H d v e' Q, IoIn io ios → m d e = some e' → Rel K Y H0 io (d :: T) (v :: τ) e s H →
  (∀ s' H', Rel K Y H0 io T τ e' s' H' → (∀ ws, (∀ i ∈ vs, i ∈ ws) → wipe s' ws = wipe s ws) → Q s' H') → g v s H Q
theorem sim_seq {t u : TS} {m n : MS} (h : SimS K mg W ios t m) (h2 : SimS K mg W ios u n) : SimS K mg W ios (tSeq t u) (mSeq m n) := by
  intro Y H0 io T τ e s H D hi r p
  refine h Y H0 io T τ e s H _ hi r ?_
  unfold mSeq at p
  cases q : m e with
  | nx e' => rw [q] at p; exact fun s' H' r' => h2 Y H0 io T τ e' s' H' D hi r' p
  | rt d e' => rw [q] at p; exact p
  | bk e' => rw [q] at p; exact p
  | ct e' => rw [q] at p; exact p
  | exc c fs e' => rw [q] at p; exact p
  | err => rw [q] at p; exact p
theorem sim_next : SimS K mg W ios tNext mNext := fun Y H0 io T τ e s H D hi r p => p s H r
theorem sim_break : SimS K mg W ios tBreak (fun e => .bk e) := fun Y H0 io T τ e s H D hi r p => p s H r
theorem sim_cont : SimS K mg W ios tCont (fun e => .ct e) := fun Y H0 io T τ e s H D hi r p => p s H r
/-- an expression's answer within a statement -/
theorem SimE.stm {t : TE} {m : ME} (h : SimE K mg W t m) {Y H0 io T τ e s H} {D : Ends} {Q : VK} (r : Rel K Y H0 io T τ e s H) {k : Mi.D × Env → Sr}
    (p : PostS K mg W Y H0 io T τ D (match m e with | .ok a => k a | .exc c fs e' => .exc c fs e' | .err => .err))
    (hk : ∀ d e', PostS K mg W Y H0 io T τ D (k (d, e')) → ∀ v H', Rel K Y H0 io (d :: T) (v :: τ) e' s H' → Q v H') : t s H Q := by
  refine h Y H0 io T τ e s H Q r ?_
  cases q : m e with
  | ok a =>
    obtain ⟨d, e'⟩ := a
    rw [q] at p
    exact hk d e' p
  | exc c fs e' =>
    rw [q] at p
    exact fun cls dd H' x rl => p cls dd s H' x rl
  | err => rw [q] at p; exact p
theorem sim_drop {t : TE} {m : ME} (h : SimE K mg W t m) : SimS K mg W ios (tDrop t) (mDrop m) := by
  intro Y H0 io T τ e s H D hi r p
  refine h.stm (k := fun a => .nx a.2) r (by unfold mDrop at p; cases q : m e <;> rw [q] at p <;> exact p) fun d e' p v H' rl => p s H' rl.pop
theorem sim_ret {t : TE} {m : ME} (h : SimE K mg W t m) : SimS K mg W ios (tRet t) (mRet m) := by
  intro Y H0 io T τ e s H D hi r p
  refine h.stm (k := fun a => .rt a.1 a.2) r (by unfold mRet at p; cases q : m e <;> rw [q] at p <;> exact p) fun d e' p v H' rl => p v s H' rl
theorem sim_retN : SimS K mg W ios tRetN mRetN := fun Y H0 io T τ e s H D hi r p => p _ s H r.non
theorem sim_ifS {tc : TT} {t u : TS} {c : MT} {m n : MS} (hc : SimT K mg W tc c) (h : SimS K mg W ios t m) (h2 : SimS K mg W ios u n) : SimS K mg W ios (tIfS tc t u) (mIfS c m n) := by
  intro Y H0 io T τ e s H D hi r p
  refine hc Y H0 io T τ e s H _ r ?_
  unfold mIfS at p
  cases q : c e with
  | ok a =>
    obtain ⟨b, e'⟩ := a
    rw [q] at p
    intro H' rl
    cases b with
    | true => rw [if_pos rfl]; exact h Y H0 io T τ e' s H' D hi rl p
    | false => rw [if_neg Bool.false_ne_true]; exact h2 Y H0 io T τ e' s H' D hi rl p
  | exc c fs e' => rw [q] at p; exact fun cls dd H' x rl => p cls dd s H' x rl
  | err => rw [q] at p; exact p
theorem wipe_set {s : St} {i : Nat} {x : Option V} : ∀ {ws : List Nat}, i ∈ ws → wipe (s.set i x) ws = wipe s ws
  | [], h => by cases h
  | w :: ws, h => by
    unfold wipe
    by_cases hw : i ∈ ws
    · rw [wipe_set hw]
    · obtain rfl : i = w := by simpa [hw] using h
      have key : ∀ vs : List Nat, i ∉ vs → wipe (s.set i x) vs = (wipe s vs).set i x := by
        intro vs
        induction vs with
        | nil => intro _; rfl
        | cons v vs ih =>
          intro hv
          simp only [List.mem_cons, not_or] at hv
          show (wipe (s.set i x) vs).set v none = ((wipe s vs).set v none).set i x
          rw [ih hv.2, List.set_comm _ _ hv.1]
      rw [key ws hw, List.set_set]
theorem sim_gName {i : Nat} (hn : i ∉ ios) : SimG K ios [i] (gName i) (mgName i) := by
  intro Y H0 io T τ e s H d v e' Q hi hm r q
  unfold mgName at hm
  by_cases c : i < e.length
  · rw [if_pos c] at hm
    cases hm
    exact q _ _ (r.put c fun p hp z => hn (z ▸ hi p hp)) fun ws hw => wipe_set (hw i (by simp))
  · rw [if_neg c] at hm; cases hm
theorem sim_asg {t : TE} {m : ME} {g : TG} {mg' : MG} {vs : List Nat} (h : SimE K mg W t m) (hg : SimG K ios vs g mg') : SimS K mg W ios (tAsg t g) (mAsg m mg') := by
  intro Y H0 io T τ e s H D hi r p
  refine h.stm (k := fun a => match mg' a.1 a.2 with | some e2 => .nx e2 | none => .err) r (by unfold mAsg at p; cases q : m e <;> rw [q] at p <;> exact p) fun d e' p v H' rl => ?_
  cases q : mg' d e' with
  | none => simp only [q] at p; exact False.elim p
  | some e2 =>
    simp only [q] at p
    exact hg Y H0 io T τ e' s H' d v e2 _ hi q rl fun s' H2 r2 _ => p s' H2 r2
end
section
variable {X : Cx} {W : WX} {ios : List Nat} {pos : Pos} {a : Expr} {st : Stmt} {sts b1 b2 : List Stmt} {ma : ME} {m n : MS} {c : MT}
theorem ds_expr (h : DE X W a ma) (hs : swapsWith a none pos.line X.env = pure false := by rfl) : DS X W ios (.Expr a pos) (mDrop ma) := by
  obtain ⟨t, p, s⟩ := h
  exact ⟨_, ps_expr p hs, sim_drop s⟩
theorem ds_doc {x j p'} : DS X W ios (.Expr (.Constant (.str x) j p') pos) mNext := ⟨_, ps_doc, sim_next⟩
theorem ds_pass : DS X W ios (.Pass pos) mNext := ⟨_, ps_pass, sim_next⟩
theorem ds_break : DS X W ios (.Break pos) (fun e => .bk e) := ⟨_, ps_break, sim_break⟩
theorem ds_cont : DS X W ios (.Continue pos) (fun e => .ct e) := ⟨_, ps_continue, sim_cont⟩
theorem ds_ret (h : DE X W a ma) : DS X W ios (.Return (some a) pos) (mRet ma) := by
  obtain ⟨t, p, s⟩ := h
  exact ⟨_, ps_ret p, sim_ret s⟩
theorem ds_retN : DS X W ios (.Return none pos) mRetN := ⟨_, ps_retN, sim_retN⟩
theorem ds_if (hc : DT X W a c) (h : DB X W ios b1 m) (h2 : DB X W ios b2 n) : DS X W ios (.If a b1 b2 pos) (mIfS c m n) := by
  obtain ⟨t, p, s⟩ := hc
  obtain ⟨t1, p1, s1⟩ := h
  obtain ⟨t2, p2, s2⟩ := h2
  exact ⟨_, ps_if p p1 p2, sim_ifS s s1 s2⟩
theorem db_nil : DB X W ios [] mNext := ⟨_, pss_nil, sim_next⟩
theorem db_one (h : DS X W ios st m) : DB X W ios [st] m := by
  obtain ⟨t, p, s⟩ := h
  exact ⟨_, pss_one p, s⟩
theorem db_cons (h : DS X W ios st m) (h2 : DB X W ios sts n) : DB X W ios (st :: sts) (mSeq m n) := by
  obtain ⟨t, p, s⟩ := h
  obtain ⟨t2, p2, s2⟩ := h2
  exact ⟨_, pss_cons p p2, sim_seq s s2⟩
theorem ds_set {i : Nat} {x : Str} {p' : Pos} (hN : X.N.Nodup) (h : DE X W a ma) (hn : i ∉ ios := by decide) (hi : X.N[i]? = some x := by rfl) (hx : Loc X.env.scope x := by first | exact Or.inl rfl | exact Or.inr rfl)
    (hs : swapsWith a (some (.Name x p')) pos.line X.env = pure false := by rfl) (hf : X.fn x = true ∨ X.env.scope.names.lookup x = some .local := by first | exact .inl rfl | exact .inr rfl) : DS X W ios (.Assign [.Name x p'] a pos) (mAsg ma (mgName i)) := by
  obtain ⟨t, p, s⟩ := h
  exact ⟨_, ps_set hN hi hx p hs hf, sim_asg s (sim_gName hn)⟩
/-! targets -/
def DG (X : Cx) (ios vs : List Nat) (tg : Expr) (m : MG) : Prop := ∃ g, PG X tg g ∧ SimG X.K ios vs g m
theorem dg_name {i : Nat} {x : Str} (hN : X.N.Nodup) (hn : i ∉ ios := by decide) (hi : X.N[i]? = some x := by rfl) (hx : Loc X.env.scope x := by first | exact Or.inl rfl | exact Or.inr rfl)
    (hf : X.fn x = true ∨ X.env.scope.names.lookup x = some .local := by first | exact .inl rfl | exact .inr rfl) : DG X ios [i] (.Name x pos) (mgName i) := ⟨_, pg_name hN hi hx hf, sim_gName hn⟩
/-- several targets -/
abbrev MGs := List D → Env → Option Env
def mgNil : MGs := fun ds e => match ds with
  | [] => some e
  | _ => none
def mgCons (g : MG) (gs : MGs) : MGs := fun ds e => match ds with
  | d :: ds => (g d e).bind fun e' => gs ds e'
  | [] => none
def SimGs (K : PySem.W.Frag) (ios vs : List Nat) (g : TGs) (m : MGs) : Prop := ∀ Y H0 io T τ e s H ds us e' Q, IoIn io ios → m ds e = some e' → us.length = ds.length → Rel K Y H0 io (ds ++ T) (us ++ τ) e s H →
  (∀ s' H', Rel K Y H0 io T τ e' s' H' → (∀ ws, (∀ i ∈ vs, i ∈ ws) → wipe s' ws = wipe s ws) → Q s' H') → g us s H Q
def DGs (X : Cx) (ios vs : List Nat) (tgs : List Expr) (m : MGs) : Prop := ∃ g, PGs X tgs g ∧ SimGs X.K ios vs g m
theorem dgs_nil : DGs X ios [] [] mgNil := by
  refine ⟨_, pgs_nil, fun Y H0 io T τ e s H ds us e' Q hi hm hl r q => ?_⟩
  cases ds with
  | nil =>
    cases hm
    obtain rfl : us = [] := List.eq_nil_of_length_eq_zero hl
    exact ⟨rfl, q s H r fun ws _ => rfl⟩
  | cons d ds => cases hm
theorem dgs_cons {e : Expr} {es : List Expr} {vs ws : List Nat} {g : MG} {gs : MGs} (h : DG X ios vs e g) (h2 : DGs X ios ws es gs) (hs : (assignEach (e :: es) X.env).map (·.2) = assign e X.env :: (assignEach es X.env).map (·.2) := by rfl) :
    DGs X ios (vs ++ ws) (e :: es) (mgCons g gs) := by
  obtain ⟨t, p, s⟩ := h
  obtain ⟨t2, p2, s2⟩ := h2
  refine ⟨_, pgs_cons p p2 hs, fun Y H0 io T τ en s' H ds us e' Q hi hm hl r q => ?_⟩
  cases ds with
  | nil => cases hm
  | cons d ds =>
    cases us with
    | nil => cases hl
    | cons u us =>
      obtain ⟨e1, h1, h3⟩ := Option.bind_eq_some_iff.mp hm
      refine ⟨u, us, rfl, s Y H0 io (ds ++ T) (us ++ τ) en s' H d u e1 _ hi h1 r fun s1 H1 r1 w1 => ?_⟩
      refine s2 Y H0 io T τ e1 s1 H1 ds us e' Q hi h3 (by simpa using hl) r1 fun s2 H2 r2 w2 => q s2 H2 r2 fun zs hz => ?_
      rw [w2 zs fun i hi => hz i (List.mem_append_right _ hi), w1 zs fun i hi => hz i (List.mem_append_left _ hi)]
def mgTup (n : Nat) (gs : MGs) : MG := fun d e => match d with
  | .tup ds => if ds.length = n then gs ds e else none
  | _ => none
/-- the items of the top tuple -/
theorem Rel.untup {K : PySem.W.Frag} {Y : Addr → Prop} {H0 H : Hp} {io : List (Nat × Addr)} {T : List D} {t : List V} {e : Env} {s : St} {ds : List D} {v : V} (r : Rel K Y H0 io (.tup ds :: T) (v :: t) e s H) :
    ∃ a vs, v = .ref a ∧ SqT K H a vs ∧ vs.length = ds.length ∧ Rel K Y H0 io (ds ++ T) (vs ++ t) e s H := by
  obtain ⟨as, bs, h1, h2, h3, h4, h5, h6⟩ := r
  unfold Owns at h1
  obtain ⟨v', r', b1, c1, e1, o1, o2, ea⟩ := h1
  cases e1; subst ea
  obtain ⟨q1, q2⟩ := o1.rep (fun _ z => nomatch z)
  subst q2
  unfold Rep at q1
  obtain ⟨a, vs, rfl, q3, q4⟩ := q1
  exact ⟨a, vs, rfl, q3.sq, q4.len, [] ++ c1, bs, Owns.join ds (Owns.of q4) o2, h2, h3, h4, h5, h6⟩
theorem dg_tup {es : List Expr} {k n : Nat} {vs : List Nat} {gs : MGs} (hc : X.calm = true) (h : DGs X ios vs es gs) (hn : (assignEach es X.env).length = n := by rfl) (hst : (assignEach es X.env).findIdx? (·.1) = none := by rfl) :
    DG X ios vs (.Tuple es k pos) (mgTup n gs) := by
  obtain ⟨t, p, s⟩ := h
  refine ⟨_, pg_tup hc p hn hst, fun Y H0 io T τ en s' H d v e' Q hi hm r q => ?_⟩
  cases d <;> simp only [mgTup, reduceCtorEq] at hm
  rename_i ds
  by_cases c : ds.length = n
  · rw [if_pos c] at hm
    obtain ⟨a, us, rfl, h1, h2, r2⟩ := r.untup
    exact ⟨a, us, rfl, h1, by rw [h2, c], s Y H0 io T τ en s' H ds us e' Q hi hm h2 r2 q⟩
  · rw [if_neg c] at hm; cases hm
theorem ds_asg {tg : Expr} {g : MG} {vs : List Nat} (h : DE X W a ma) (hg : DG X ios vs tg g) (hs : swapsWithSole [tg] a pos.line X.env = pure false := by rfl) (hw : swappedStores [tg] a X.env = pure none := by rfl)
    (h1 : (assignEach [tg] X.env).map (·.2) = [assign tg X.env] := by rfl) : DS X W ios (.Assign [tg] a pos) (mAsg ma g) := by
  obtain ⟨t, p, s⟩ := h
  obtain ⟨t2, p2, s2⟩ := hg
  exact ⟨_, ps_asg p p2 hs hw h1, sim_asg s s2⟩
/-- a, b = x, y -/
def mPar (i j : Nat) (m : MA) : MS := fun e => match m e with
  | .ok ([x, y], e') => if i < e'.length ∧ j < e'.length then .nx ((e'.set i (some x)).set j (some y)) else .err
  | .ok _ => .err
  | .exc c fs e' => .exc c fs e'
  | .err => .err
theorem ds_par {i j : Nat} {x y : Str} {a b : Expr} {mas : MA} {px py pt : Pos} {kt k2 pt2} (hN : X.N.Nodup) (ha : DA X W [a, b] mas) (hc : X.calm = true := by rfl) (hni : i ∉ ios := by decide) (hnj : j ∉ ios := by decide) (hi : X.N[i]? = some x := by rfl) (hj : X.N[j]? = some y := by rfl) (hij : i ≠ j := by decide)
    (hx : X.env.scope.names.lookup x = some .local := by rfl) (hy : X.env.scope.names.lookup y = some .local := by rfl)
    (hw : swappedStores [.Tuple [.Name x px, .Name y py] kt pt] (.Tuple [a, b] k2 pt2) X.env = pure (some [x, y]) := by rfl)
    (hs : swapsWithSole [.Tuple [.Name x px, .Name y py] kt pt] (.Tuple [a, b] k2 pt2) pos.line X.env = pure false := by rfl) :
    DS X W ios (.Assign [.Tuple [.Name x px, .Name y py] kt pt] (.Tuple [a, b] k2 pt2) pos) (mPar i j mas) := by
  obtain ⟨t, p, s⟩ := ha
  refine ⟨_, ps_par hc hN hi hj hij hx hy p hw hs, fun Y H0 io T τ e s' H D hio r q => ?_⟩
  refine s Y H0 io T τ e s' H _ r ?_
  unfold mPar at q
  cases c : mas e with
  | ok z =>
    obtain ⟨ds, e'⟩ := z
    rw [c] at q
    match ds, q with
    | [], q => exact False.elim q
    | [_], q => exact False.elim q
    | _ :: _ :: _ :: _, q => exact False.elim q
    | [d1, d2], q =>
      intro vs H' hl rl
      match vs, hl with
      | [v1, v2], _ =>
        simp only at q
        by_cases g : i < e'.length ∧ j < e'.length
        · rw [if_pos g] at q
          have r1 := Rel.put (i := i) rl g.1 fun p hp z => hni (z ▸ hio p hp)
          have r2 := Rel.put (i := j) r1 (by simpa using g.2) fun p hp z => hnj (z ▸ hio p hp)
          exact ⟨v1, v2, rfl, q _ _ r2⟩
        · rw [if_neg g] at q; exact False.elim q
  | exc c fs e' => rw [c] at q; exact fun cls dd H' x rl => q cls dd s' H' x rl
  | err => rw [c] at q; exact False.elim q
/-- name += e, of ints -/
def mAug (f : D → D → Option D) (i : Nat) (m : ME) : MS := fun e => match e[i]? with
  | some (some (.int x)) => match m e with
    | .ok (d, e') => match f (.int x) d with
      | some z => if i < e'.length then .nx (e'.set i (some z)) else .err
      | none => .err
    | .exc c fs e' => .exc c fs e'
    | .err => .err
  | _ => .err
theorem ds_augAdd {i : Nat} {x : Str} {p' : Pos} (hN : X.N.Nodup) (h : DE X W a ma) (hn : i ∉ ios := by decide) (hi : X.N[i]? = some x := by rfl) (hx : Loc X.env.scope x := by first | exact Or.inl rfl | exact Or.inr rfl)
    (hf : X.fn x = true ∨ X.env.scope.names.lookup x = some .local := by first | exact .inl rfl | exact .inr rfl) : DS X W ios (.AugAssign (.Name x p') .Add a pos) (mAug dAddI i ma) := by
  obtain ⟨t, p, s⟩ := h
  refine ⟨_, ps_aug hN hi hx p ip_add hf, fun Y H0 io T τ e s' H D hio r q => ?_⟩
  unfold mAug at q
  cases c : e[i]? with
  | none => rw [c] at q; exact False.elim q
  | some o =>
    cases o with
    | none => rw [c] at q; exact False.elim q
    | some d =>
      obtain ⟨k, rfl⟩ : ∃ k, d = .int k := by cases d <;> first | exact ⟨_, rfl⟩ | (rw [c] at q; exact False.elim q)
      rw [c] at q
      simp only at q
      obtain ⟨v, hv, r1⟩ := r.get c rfl
      obtain rfl := r1.isInt
      refine ⟨_, hv, ?_⟩
      refine s Y H0 io T τ e s' H _ r ?_
      cases c2 : ma e with
      | ok z =>
        obtain ⟨d, e'⟩ := z
        rw [c2] at q
        simp only at q
        intro v H' rl
        obtain ⟨j, rfl⟩ : ∃ j, d = .int j := by cases d <;> first | exact ⟨_, rfl⟩ | exact False.elim q
        simp only [dAddI, fI, if_true] at q
        by_cases g : i < e'.length
        · rw [if_pos g] at q
          exact ⟨k, j, rfl, rl.isInt, q _ _ (Rel.put rl.pop.int g fun p hp z => hn (z ▸ hio p hp))⟩
        · rw [if_neg g] at q; exact False.elim q
      | exc c fs e' => rw [c2] at q; exact fun cls dd H' x rl => q cls dd s' H' x rl
      | err => rw [c2] at q; exact False.elim q
end
end Mi
namespace Mi
open PySem PySem.Spec PyProof.Rows L2

section
variable {K : PySem.W.Frag} {Y : Addr → Prop} {H0 H H' : Hp} {io : List (Nat × Addr)} {T : List D} {t : List V} {e : Env} {s : St} {d : D} {v : V}
/-- the top temp goes behind A -/
theorem Rel.unmid {A : List D} {va : List V} (hl : va.length = A.length) (r : Rel K Y H0 io (d :: (A ++ T)) (v :: (va ++ t)) e s H) : Rel K Y H0 io (A ++ d :: T) (va ++ v :: t) e s H := by
  obtain ⟨as, bs, h1, h2, h3, h4, h5, h6⟩ := r
  unfold Owns at h1
  obtain ⟨v', r', b1, c1, e1, o1, o2, ea⟩ := h1
  cases e1; subst ea
  obtain ⟨v1, v2, a1, a2, e1, e2, e3, q1, q2⟩ := Owns.split A o2
  obtain ⟨e4, e5⟩ := List.append_inj e1 (by rw [hl, e3])
  subst e4 e5 e2
  have pm : (a1 ++ (b1 ++ a2) ++ bs).Perm (b1 ++ (a1 ++ a2) ++ bs) := by
    refine List.Perm.append_right _ ?_
    rw [← List.append_assoc, ← List.append_assoc]
    exact List.Perm.append_right _ List.perm_append_comm
  have sub : ∀ a ∈ a1 ++ (b1 ++ a2) ++ bs, a ∈ b1 ++ (a1 ++ a2) ++ bs := fun a ha => pm.mem_iff.mp ha
  refine ⟨a1 ++ (b1 ++ a2), bs, Owns.join A (Owns.mono A ⟨mono_sub sub, fun _ _ => rfl⟩ q1) ?_, Cells.mono e ⟨mono_sub sub, fun _ _ => rfl⟩ h2, pm.nodup_iff.mpr h3, fun a ha => h4 a (sub a ha), h5, h6⟩
  unfold Owns
  exact ⟨v, t, b1, a2, rfl, Own.mono d ⟨mono_sub sub, fun _ _ => rfl⟩ o1, Owns.mono T ⟨mono_sub sub, fun _ _ => rfl⟩ q2, rfl⟩
theorem Rel.under {A : List D} {va : List V} (hl : va.length = A.length) (r : Rel K Y H0 io (d :: (A ++ T)) (v :: (va ++ t)) e s H) : Rel K Y H0 io (d :: T) (v :: t) e s H := Rel.popA hl (r.unmid hl)
end

/-! ### what a loop walks: the items in order -/
/-- J walks the items ds; A: what lies on top meanwhile -/
def Walks (K : PySem.W.Frag) (J : It) (A : List D) (va : List V) (ds : List D) : Prop := ∀ Y H0 io T τ e s H, Rel K Y H0 io (A ++ T) (va ++ τ) e s H →
  (∀ i d, ds[i]? = some d → J.go i H ∧ ∀ x H', J.yld i H x H' → Rel K Y H0 io (d :: (A ++ T)) (x :: (va ++ τ)) e s H') ∧ J.stop ds.length H
section
variable (K : PySem.W.Frag) (mg : Str → Option Value) (W : WX) (Y : Addr → Prop) (H0 : Hp) (io : List (Nat × Addr)) (T : List D) (t : List V) (s : St)
def PostI (R : It → Hp → Prop) : Rs (List D × Env) → Prop
  | .ok (ds, e') => ∀ J A va H', va.length = A.length → Rel K Y H0 io (A ++ T) (va ++ t) e' s H' → Walks K J A va ds → R J H'
  | .exc c fs e' => ∀ cls dd H', XR mg H' c fs cls dd → Rel K Y H0 io T t e' s H' → W cls dd s H'
  | .err => False
end
def SimI (K : PySem.W.Frag) (mg : Str → Option Value) (W : WX) (wi : TI) (m : MA) : Prop := ∀ Y H0 io T τ e s H R, Rel K Y H0 io T τ e s H → PostI K mg W Y H0 io T τ s R (m e) → wi s H R
def DI (X : Cx) (W : WX) (tg e : Expr) (m : MA) : Prop := ∃ wi, PI X tg e wi ∧ SimI X.K X.mg W wi m
section
variable {K : PySem.W.Frag} {mg : Str → Option Value} {W : WX}
theorem walks_seq {J : It} {d : D} {a : Addr} {ds : List D} (hp : plains ds = true) (hi : items d = some ds)
    (hg : ∀ i H vs, (SqL K H a vs ∨ SqT K H a vs) → ∀ x, vs[i]? = some x → J.go i H ∧ ∀ y H', J.yld i H y H' → H' = H ∧ y = x) (hs : ∀ i H vs, (SqL K H a vs ∨ SqT K H a vs) → vs.length ≤ i → J.stop i H) : Walks K J [d] [V.ref a] ds := by
  intro Y H0 io T τ e s H r
  obtain ⟨P, as, nd, o, g⟩ := Rel.swap1 (a := d) (va := V.ref a) r
  obtain ⟨p1, v1, a1, ev, t1, w1⟩ := o.seq hi
  cases ev
  obtain ⟨w2, _⟩ := Owns.reps hp w1
  refine ⟨fun i x hx => ?_, hs _ H v1 t1 (by rw [w1.len]; exact Nat.le_refl _)⟩
  obtain ⟨y, hy, _⟩ := Reps.get w2 hx
  obtain ⟨g1, g2⟩ := hg i H v1 t1 y hy
  refine ⟨g1, fun z H' hz => ?_⟩
  obtain ⟨rfl, rfl⟩ := g2 z H' hz
  -- the item put on top: it is plain
  obtain ⟨as, bs, h1, h2, h3, h4, h5, h6⟩ := r
  have h1' := h1
  rw [List.cons_append, List.nil_append] at h1'
  unfold Owns at h1'
  obtain ⟨v', r', b1, c1, e1, o1, o2, ea⟩ := h1'
  cases e1
  have rep : Rep K (inX Y (as ++ bs)) H' x z := by
    obtain ⟨q1, q2, q3, ev, q4, q5⟩ := o1.seq hi
    cases ev
    obtain ⟨q6, _⟩ := Owns.reps hp q5
    obtain ⟨y', hy', hr⟩ := Reps.get q6 hx
    obtain ⟨_, g2'⟩ := hg i H' q2 q4 y' hy'
    obtain ⟨_, e2⟩ := g2' z H' hz
    rw [e2]; exact hr
  refine ⟨as, bs, ?_, h2, h3, h4, h5, h6⟩
  unfold Owns
  exact ⟨z, _, [], as, rfl, Own.of rep, h1, by simp⟩
/-- over a list, over a tuple -/
def mItL (m : ME) : MA := fun e => (m e).bind fun p => Rs.of ((litems p.1).map fun ds => (frzs ds, p.2))
def mItT (m : ME) : MA := fun e => (m e).bind fun p => match p.1 with
  | .tup ds => if plains ds = true then .ok (ds, p.2) else .err
  | _ => .err
theorem litems_frz {d : D} {ds : List D} (h : litems d = some ds) : items d.frz = some (frzs ds) ∧ ∀ ds', d.frz ≠ .tup ds' := by
  cases d <;> simp only [litems, Option.some.injEq, reduceCtorEq] at h <;> subst h <;> exact ⟨rfl, fun _ z => nomatch z⟩
theorem Rel.lref {Y : Addr → Prop} {H0 H : Hp} {io : List (Nat × Addr)} {T : List D} {t : List V} {e : Env} {s : St} {d : D} {v : V} {ds : List D} (r : Rel K Y H0 io (d :: T) (v :: t) e s H) (h : litems d = some ds) : ∃ a vs, v = .ref a ∧ SqL K H a vs ∧ vs.length = ds.length := by
  obtain ⟨P, as, o⟩ := r.top
  obtain ⟨p1, v1, a1, rfl, t1, w1⟩ := o.lseq h
  exact ⟨p1, v1, rfl, t1, w1.len⟩
theorem walks_list {d : D} {a : Addr} {ds : List D} (h : litems d = some ds) : Walks K (Itl K a) [d.frz] [V.ref a] (frzs ds) := by
  intro Y H0 io T τ e s H r
  have hl : litems d.frz = some (frzs ds) := by
    cases d <;> simp only [litems, Option.some.injEq, reduceCtorEq] at h <;> subst h <;> rfl
  obtain ⟨as, bs, h1, h2, h3, h4, h5, h6⟩ := r
  have h1' := h1
  rw [List.cons_append, List.nil_append] at h1'
  unfold Owns at h1'
  obtain ⟨v', r', b1, c1, e1, o1, o2, ea⟩ := h1'
  cases e1
  obtain ⟨q1, q2, q3, ev, q4, q5⟩ := o1.lseq hl
  cases ev
  obtain ⟨q6, _⟩ := Owns.reps (plains_frz ds) q5
  refine ⟨fun i x hx => ?_, q2, q4, by rw [q5.len]; exact Nat.le_refl _⟩
  obtain ⟨y, hy, hr⟩ := Reps.get q6 hx
  refine ⟨⟨q2, y, q4, hy⟩, fun z H' hz => ?_⟩
  obtain ⟨rfl, hz⟩ := hz
  have hz := hz q2 q4
  rw [hy] at hz; cases hz
  refine ⟨as, bs, ?_, h2, h3, h4, h5, h6⟩
  unfold Owns
  exact ⟨y, _, [], as, rfl, Own.of hr, h1, by simp⟩
theorem walks_tup {a : Addr} {ds : List D} (h : plains ds = true) : Walks K (Itt K a) [.tup ds] [V.ref a] ds := by
  intro Y H0 io T τ e s H r
  obtain ⟨as, bs, h1, h2, h3, h4, h5, h6⟩ := r
  have h1' := h1
  rw [List.cons_append, List.nil_append] at h1'
  unfold Owns at h1'
  obtain ⟨v', r', b1, c1, e1, o1, o2, ea⟩ := h1'
  cases e1
  obtain ⟨q1, q2, ev, q4, q6⟩ := o1.tup
  cases ev
  refine ⟨fun i x hx => ?_, q2, q4.sq, by rw [q6.len]; exact Nat.le_refl _⟩
  obtain ⟨y, hy, hr⟩ := Reps.get q6 hx
  refine ⟨⟨q2, y, q4.sq, hy⟩, fun z H' hz => ?_⟩
  obtain ⟨rfl, hz⟩ := hz
  have hz := hz q2 q4.sq
  rw [hy] at hz; cases hz
  refine ⟨as, bs, ?_, h2, h3, h4, h5, h6⟩
  unfold Owns
  exact ⟨y, _, [], as, rfl, Own.of hr, h1, by simp⟩
theorem postI_exc {Y H0 io T τ s} {Q} : ∀ c fs e', PostI K mg W Y H0 io T τ s Q (.exc c fs e') → ∀ cls dd H', XR mg H' c fs cls dd → Rel K Y H0 io T τ e' s H' → W cls dd s H' := fun _ _ _ h => h
theorem sim_itL {t : TE} {m : ME} (h : SimE K mg W t m) : SimI K mg W (iList K t) (mItL m) := by
  intro Y H0 io T τ e s H R r p
  refine h.then r (P := PostI K mg W Y H0 io T τ s R) p id postI_exc fun d e' p v H' rl => ?_
  cases q : litems d with
  | none => simp only [q] at p; exact False.elim p
  | some ds =>
    simp only [q] at p
    obtain ⟨a, vs, rfl, h1, h2⟩ := rl.lref q
    exact ⟨a, rfl, ⟨vs, h1⟩, p _ [d.frz] [V.ref a] H' rfl rl.frz (walks_list q)⟩
theorem sim_itT {t : TE} {m : ME} (h : SimE K mg W t m) : SimI K mg W (iTup K t) (mItT m) := by
  intro Y H0 io T τ e s H R r p
  refine h.then r (P := PostI K mg W Y H0 io T τ s R) p id postI_exc fun d e' p v H' rl => ?_
  obtain ⟨ds, rfl⟩ : ∃ ds, d = .tup ds := by cases d <;> first | exact ⟨_, rfl⟩ | exact False.elim p
  simp only at p
  by_cases c : plains ds = true
  · rw [if_pos c] at p
    obtain ⟨P, as, o⟩ := rl.top
    obtain ⟨a, vs, rfl, h1, h2⟩ := o.tup
    exact ⟨a, rfl, ⟨vs, h1.sq⟩, p _ [.tup ds] [V.ref a] H' rfl rl (walks_tup c)⟩
  · rw [if_neg c] at p; exact False.elim p
/-- ranges -/
def rangeD (lo : Int) (n : Nat) : List D := (List.range n).map fun i : Nat => D.int (lo + i)
theorem walks_range {lo : Int} {n : Nat} : Walks K (Itr lo n) [] [] (rangeD lo n) := by
  intro Y H0 io T τ e s H r
  refine ⟨fun i d hd => ?_, by unfold rangeD; simp [Itr]⟩
  unfold rangeD at hd
  rw [List.getElem?_map] at hd
  obtain ⟨j, hj, rfl⟩ := Option.map_eq_some_iff.mp hd
  obtain ⟨hlt, e1⟩ := List.getElem?_eq_some_iff.mp hj
  rw [List.getElem_range] at e1
  subst e1
  refine ⟨(show i < n by simpa using hlt), fun x H' hy => ?_⟩
  obtain ⟨rfl, rfl⟩ := hy
  exact r.int
def small62 (i : Int) : Prop := -(2 ^ 62) ≤ i ∧ i < 2 ^ 62
instance (i : Int) : Decidable (small62 i) := by unfold small62; infer_instance
def mRng1 (m : MA) : MA := fun e => (m e).bind fun p => match p.1 with
  | [.int j] => if small62 j then .ok (rangeD 0 j.toNat, p.2) else .err
  | _ => .err
def mRng2 (m : MA) : MA := fun e => (m e).bind fun p => match p.1 with
  | [.int i, .int j] => if small62 i ∧ small62 j then .ok (rangeD i (j - i).toNat, p.2) else .err
  | _ => .err
theorem sim_rng1 {t : TA} {m : MA} (h : SimA K mg W t m) : SimI K mg W (iRng1 t) (mRng1 m) := by
  intro Y H0 io T τ e s H R r p
  refine h.then r (P := PostI K mg W Y H0 io T τ s R) p id postI_exc fun ds e' p vs H' hl rl => ?_
  match ds, vs, hl, p, rl with
  | [d], [v], _, p, rl =>
    obtain ⟨j, rfl⟩ : ∃ j, d = .int j := by cases d <;> first | exact ⟨_, rfl⟩ | exact False.elim p
    simp only at p
    by_cases c : small62 j
    · rw [if_pos c] at p
      obtain rfl := Rel.isInt rl
      exact ⟨j, rfl, c.1, c.2, p _ [] [] H' rfl (Rel.pop rl) walks_range⟩
    · rw [if_neg c] at p; exact False.elim p
  | [], _, _, p, _ => exact False.elim p
  | d :: _ :: _, _, _, p, _ => cases d <;> exact False.elim p
theorem sim_rng2 {t : TA} {m : MA} (h : SimA K mg W t m) : SimI K mg W (iRng2 t) (mRng2 m) := by
  intro Y H0 io T τ e s H R r p
  refine h.then r (P := PostI K mg W Y H0 io T τ s R) p id postI_exc fun ds e' p vs H' hl rl => ?_
  match ds, vs, hl, p, rl with
  | [d1, d2], [v1, v2], _, p, rl =>
    obtain ⟨i, rfl⟩ : ∃ j, d1 = .int j := by cases d1 <;> first | exact ⟨_, rfl⟩ | exact False.elim p
    obtain ⟨j, rfl⟩ : ∃ j, d2 = .int j := by cases d2 <;> first | exact ⟨_, rfl⟩ | exact False.elim p
    simp only at p
    by_cases c : small62 i ∧ small62 j
    · rw [if_pos c] at p
      obtain rfl := Rel.isInt rl
      obtain rfl := Rel.isInt (Rel.pop rl)
      exact ⟨i, j, rfl, ⟨c.1.1, c.1.2, c.2.1, c.2.2⟩, p _ [] [] H' rfl (Rel.pop (Rel.pop rl)) walks_range⟩
    · rw [if_neg c] at p; exact False.elim p
  | [], _, _, p, _ => exact False.elim p
  | [d], _, _, p, _ => cases d <;> exact False.elim p
  | d :: d2 :: _ :: _, _, _, p, _ => cases d <;> cases d2 <;> exact False.elim p
/-! ### for -/
def mLoop (g : MG) (body : MS) : List D → MS
  | [], e => .nx e
  | d :: ds, e => match g d e with
    | none => .err
    | some e1 => match body e1 with
      | .nx e2 => mLoop g body ds e2
      | .ct e2 => mLoop g body ds e2
      | .bk e2 => .nx e2
      | r => r
def mFor (mi : MA) (g : MG) (body : MS) : MS := fun e => match mi e with
  | .ok (ds, e') => mLoop g body ds e'
  | .exc c fs e' => .exc c fs e'
  | .err => .err
theorem sim_for {ios vs : List Nat} {wi : TI} {mi : MA} {g : TG} {mgt : MG} {tb : TS} {body : MS} (hi : SimI K mg W wi mi) (hg : SimG K ios vs g mgt) (hb : SimS K mg W ios tb body) : SimS K mg W ios (tFor wi g tb) (mFor mi mgt body) := by
  intro Y H0 io T τ e s H D hio r p
  refine hi Y H0 io T τ e s H _ r ?_
  unfold mFor at p
  cases q : mi e with
  | err => rw [q] at p; exact p
  | exc c fs e' => rw [q] at p; exact fun cls dd H' x rl => p cls dd s H' x rl
  | ok z =>
    obtain ⟨ds, e'⟩ := z
    rw [q] at p
    intro J A va H' hl rl wk
    refine ⟨fun i m σ H => m = ds.length - i ∧ i ≤ ds.length ∧ ∃ e, Rel K Y H0 io (A ++ T) (va ++ τ) e σ H ∧ PostS K mg W Y H0 io T τ D (mLoop mgt body (ds.drop i) e), ⟨ds.length, by simp, Nat.zero_le _, e', rl, by simpa using p⟩, ?_⟩
    rintro i m σ H1 ⟨rfl, hle, e1, rl1, p1⟩
    obtain ⟨wk1, wk2⟩ := wk Y H0 io T τ e1 σ H1 rl1
    by_cases hlt : i < ds.length
    · have ed : ds.drop i = ds[i] :: ds.drop (i + 1) := List.drop_eq_getElem_cons hlt
      obtain ⟨go, yl⟩ := wk1 i ds[i] (List.getElem?_eq_getElem hlt)
      rw [ed] at p1
      unfold mLoop at p1
      refine .inr ⟨go, fun σ' H' => ∃ e, Rel K Y H0 io (A ++ T) (va ++ τ) e σ' H' ∧ PostS K mg W Y H0 io T τ D (mLoop mgt body (ds.drop (i + 1)) e), fun σ' H' ⟨e2, r2, p2⟩ => ⟨_, by omega, rfl, hlt, e2, r2, p2⟩, fun x H2 hy => ?_⟩
      have r2 := yl x H2 hy
      cases q2 : mgt ds[i] e1 with
      | none => rw [q2] at p1; exact False.elim p1
      | some e3 =>
        rw [q2] at p1
        simp only at p1
        refine hg Y H0 io (A ++ T) (va ++ τ) e1 σ H2 ds[i] x e3 _ hio q2 r2 fun s3 H3 r3 _ => ?_
        refine hb Y H0 io (A ++ T) (va ++ τ) e3 s3 H3 _ hio r3 ?_
        cases q3 : body e3 with
        | nx e4 => rw [q3] at p1; exact fun s4 H4 r4 => ⟨e4, r4, p1⟩
        | ct e4 => rw [q3] at p1; exact fun s4 H4 r4 => ⟨e4, r4, p1⟩
        | bk e4 => rw [q3] at p1; exact fun s4 H4 r4 => p1 s4 H4 (Rel.popA hl r4)
        | rt d e4 => rw [q3] at p1; exact fun v s4 H4 r4 => p1 v s4 H4 (Rel.under hl r4)
        | exc c fs e4 => rw [q3] at p1; exact fun cls dd s4 H4 x r4 => p1 cls dd s4 H4 x (Rel.popA hl r4)
        | err => rw [q3] at p1; exact p1
    · have e2 : i = ds.length := by omega
      subst e2
      refine .inl ⟨wk2, ?_⟩
      rw [List.drop_length] at p1
      exact p1 σ H1 (Rel.popA hl rl1)
/-! ### while -/
def mWhile (c : MT) (body : MS) : Nat → MS
  | 0, _ => .err
  | n + 1, e => match c e with
    | .ok (true, e1) => match body e1 with
      | .nx e2 => mWhile c body n e2
      | .ct e2 => mWhile c body n e2
      | .bk e2 => .nx e2
      | r => r
    | .ok (false, e1) => .nx e1
    | .exc c fs e' => .exc c fs e'
    | .err => .err
theorem sim_while {ios : List Nat} {tc : TT} {c : MT} {tb : TS} {body : MS} (n : Nat) (hc : SimT K mg W tc c) (hb : SimS K mg W ios tb body) : SimS K mg W ios (tWhile tc tb) (mWhile c body n) := by
  intro Y H0 io T τ e s H D hio r p
  refine ⟨fun m σ H => ∃ e, Rel K Y H0 io T τ e σ H ∧ PostS K mg W Y H0 io T τ D (mWhile c body m e), ⟨n, e, r, p⟩, ?_⟩
  rintro m σ H1 ⟨e1, r1, p1⟩
  cases m with
  | zero => exact False.elim p1
  | succ m =>
    unfold mWhile at p1
    refine hc Y H0 io T τ e1 σ H1 _ r1 ?_
    cases q : c e1 with
    | err => rw [q] at p1; exact p1
    | exc c fs e' => rw [q] at p1; exact fun cls dd H' x rl => p1 cls dd σ H' x rl
    | ok z =>
      obtain ⟨b, e2⟩ := z
      rw [q] at p1
      intro H2 r2
      cases b with
      | false => rw [if_neg Bool.false_ne_true]; exact p1 σ H2 r2
      | true =>
        rw [if_pos rfl]
        refine ⟨fun σ' H' => ∃ e, Rel K Y H0 io T τ e σ' H' ∧ PostS K mg W Y H0 io T τ D (mWhile c body m e), fun σ' H' h => ⟨m, Nat.lt_succ_self m, h⟩, ?_⟩
        refine hb Y H0 io T τ e2 σ H2 _ hio r2 ?_
        simp only at p1
        cases q3 : body e2 with
        | nx e4 => rw [q3] at p1; exact fun s4 H4 r4 => ⟨e4, r4, p1⟩
        | ct e4 => rw [q3] at p1; exact fun s4 H4 r4 => ⟨e4, r4, p1⟩
        | bk e4 => rw [q3] at p1; exact p1
        | rt d e4 => rw [q3] at p1; exact p1
        | exc c fs e4 => rw [q3] at p1; exact p1
        | err => rw [q3] at p1; exact p1
end
section
variable {X : Cx} {W : WX} {ios vs : List Nat} {pos : Pos} {a tg : Expr} {b1 : List Stmt} {ma : ME} {mi : MA} {g : MG} {body : MS} {c : MT}
theorem di_list (h : DE X W a ma) : DI X W tg a (mItL ma) := by
  obtain ⟨t, p, s⟩ := h
  exact ⟨_, pi_list p, sim_itL s⟩
theorem di_tup (h : DE X W a ma) : DI X W tg a (mItT ma) := by
  obtain ⟨t, p, s⟩ := h
  exact ⟨_, pi_tup p, sim_itT s⟩
theorem di_rng1 {p : Pos} (B : BI X.mg) (h : DA X W [a] mi) (hg : Gl X "range" := by rfl) (hs : starEach [a] X.env = [(false, eval a X.env)] := by rfl) : DI X W tg (.Call (.Name "range" p) [a] [] pos) (mRng1 mi) := by
  obtain ⟨t, p, s⟩ := h
  exact ⟨_, pi_range1 hg B.range p hs, sim_rng1 s⟩
theorem di_rng2 {p : Pos} {b : Expr} (B : BI X.mg) (h : DA X W [a, b] mi) (hg : Gl X "range" := by rfl) (hs : starEach [a, b] X.env = [(false, eval a X.env), (false, eval b X.env)] := by rfl) (hs2 : starEach [b] X.env = [(false, eval b X.env)] := by rfl) : DI X W tg (.Call (.Name "range" p) [a, b] [] pos) (mRng2 mi) := by
  obtain ⟨t, p, s⟩ := h
  exact ⟨_, pi_range2 hg B.range p hs hs2, sim_rng2 s⟩
theorem ds_for (hp : PassesOwn (model X.prog X.w) X.A X.env X.xe) (hc : X.calm = true) (hi : DI X W tg a mi) (hg : DG X ios vs tg g) (hb : DB X W ios b1 body) (hs : ∀ x, foldedSetIterable a X.env x = pure x := by intro _; rfl) : DS X W ios (.For tg a b1 [] pos) (mFor mi g body) := by
  obtain ⟨t, p, s⟩ := hi
  obtain ⟨t1, p1, s1⟩ := hg
  obtain ⟨t2, p2, s2⟩ := hb
  exact ⟨_, ps_for hp hc p p1 p2 hs, sim_for s s1 s2⟩
theorem ds_while (n : Nat) (hp : PassesOwn (model X.prog X.w) X.A X.env X.xe) (hc : DT X W a c) (hb : DB X W ios b1 body) : DS X W ios (.While a b1 [] pos) (mWhile c body n) := by
  obtain ⟨t, p, s⟩ := hc
  obtain ⟨t1, p1, s1⟩ := hb
  exact ⟨_, ps_while hp p p1, sim_while n s s1⟩
end
end Mi
namespace Mi
open PySem PySem.Spec PyProof.Rows L2

/-! ### canonical readings: the same for every context -/
section
variable (K : PySem.W.Frag) (mg : Str → Option Value) (W : WX)
def canE (m : ME) : TE := fun s H Q => ∃ Y H0 io T τ e, Rel K Y H0 io T τ e s H ∧ PostE K mg W Y H0 io T τ s Q (m e)
def canT (m : MT) : TT := fun s H Q => ∃ Y H0 io T τ e, Rel K Y H0 io T τ e s H ∧ PostT K mg W Y H0 io T τ s Q (m e)
def canS (ios : List Nat) (m : MS) : TS := fun D s H => ∃ Y H0 io T τ e, IoIn io ios ∧ Rel K Y H0 io T τ e s H ∧ PostS K mg W Y H0 io T τ D (m e)
def canG (ios vs : List Nat) (m : MG) : TG := fun v s H Q => ∃ Y H0 io T τ e d e', IoIn io ios ∧ m d e = some e' ∧ Rel K Y H0 io (d :: T) (v :: τ) e s H ∧
  ∀ s' H', Rel K Y H0 io T τ e' s' H' → (∀ ws, (∀ i ∈ vs, i ∈ ws) → wipe s' ws = wipe s ws) → Q s' H'
end
theorem sim_canE {K mg W m} : SimE K mg W (canE K mg W m) m := fun Y H0 io T τ e s H Q r p => ⟨Y, H0, io, T, τ, e, r, p⟩
theorem sim_canT {K mg W m} : SimT K mg W (canT K mg W m) m := fun Y H0 io T τ e s H Q r p => ⟨Y, H0, io, T, τ, e, r, p⟩
theorem sim_canS {K mg W ios m} : SimS K mg W ios (canS K mg W ios m) m := fun Y H0 io T τ e s H D hi r p => ⟨Y, H0, io, T, τ, e, hi, r, p⟩
theorem sim_canG {K ios vs m} : SimG K ios vs (canG K ios vs m) m := fun Y H0 io T τ e s H d v e' Q hi hm r q => ⟨Y, H0, io, T, τ, e, d, e', hi, hm, r, q⟩
theorem DE.can {X : Cx} {W : WX} {e : Expr} {m : ME} (h : DE X W e m) : PE X e (canE X.K X.mg W m) := by
  obtain ⟨t, p, s⟩ := h
  exact ⟨fun pins st σ H Q I ⟨Y, H0, io, T, τ, en, r, q⟩ => p.run pins st σ H Q I (s Y H0 io T τ en σ H Q r q)⟩
theorem DT.can {X : Cx} {W : WX} {e : Expr} {m : MT} (h : DT X W e m) : PT X e (canT X.K X.mg W m) := by
  obtain ⟨t, p, s⟩ := h
  exact ⟨fun pins st σ H Q I ⟨Y, H0, io, T, τ, en, r, q⟩ => p.run pins st σ H Q I (s Y H0 io T τ en σ H Q r q)⟩
theorem DB.can {X : Cx} {W : WX} {ios} {sts : List Stmt} {m : MS} (h : DB X W ios sts m) : PSs X sts (canS X.K X.mg W ios m) := by
  obtain ⟨t, p, s⟩ := h
  exact ⟨fun pins st σ H D I ⟨Y, H0, io, T, τ, en, hi, r, q⟩ => p.run pins st σ H D I (s Y H0 io T τ en σ H D hi r q)⟩
theorem DG.can {X : Cx} {ios vs} {tg : Expr} {m : MG} (h : DG X ios vs tg m) : PG X tg (canG X.K ios vs m) := by
  obtain ⟨t, p, s⟩ := h
  exact ⟨fun pins st σ H v u Q I rv ⟨Y, H0, io, T, τ, en, d, e', hi, hm, r, q⟩ => p.run pins st σ H v u Q I rv (s Y H0 io T τ en σ H d v e' Q hi hm r q)⟩

/-! ### slots forgotten -/
def wipeE (e : Env) : List Nat → Env
  | [] => e
  | v :: vs => (wipeE e vs).set v none
section
variable {K : PySem.W.Frag} {Y P : Addr → Prop} {H0 H H' : Hp} {io : List (Nat × Addr)} {T : List D} {t : List V} {e : Env} {s s' : St} {d : D} {v : V}
theorem wipeE_length (e : Env) : ∀ vs : List Nat, (wipeE e vs).length = e.length
  | [] => rfl
  | v :: vs => by unfold wipeE; rw [List.length_set, wipeE_length e vs]
theorem wipeE_in (e : Env) : ∀ (vs : List Nat) (i : Nat), i ∈ vs → i < e.length → (wipeE e vs)[i]? = some none
  | [], i, h, _ => by cases h
  | v :: vs, i, h, hl => by
    unfold wipeE
    by_cases hv : v = i
    · subst hv; rw [List.getElem?_set_self (by rw [wipeE_length]; exact hl)]
    · rw [List.getElem?_set_ne hv]
      exact wipeE_in e vs i ((List.mem_cons.mp h).resolve_left fun z => hv z.symm) hl
theorem wipe_out (s : St) : ∀ (vs : List Nat) (i : Nat), i ∉ vs → (wipe s vs)[i]? = s[i]?
  | [], i, h => rfl
  | v :: vs, i, h => by
    simp only [List.mem_cons, not_or] at h
    unfold wipe
    rw [List.getElem?_set_ne (Ne.symm h.1), wipe_out s vs i h.2]
theorem Cells.unset : ∀ (e : Env) (i : Nat) {s : St} {as : List Addr}, Cells K P H e s as → ∃ bs, (∀ a ∈ bs, a ∈ as) ∧ (as.Nodup → bs.Nodup) ∧ ∀ x, Cells K P H (e.set i none) (s.set i x) bs
  | [], i, s, as, h => ⟨as, fun _ z => z, fun z => z, fun x => by unfold Cells at h; rw [h.1]; simpa [Cells] using h.2⟩
  | none :: e, 0, s, as, h => by
    unfold Cells at h
    obtain ⟨x, r, e1, h⟩ := h
    subst e1
    refine ⟨as, fun _ z => z, fun z => z, fun x => ?_⟩
    rw [List.set_cons_zero, List.set_cons_zero]; unfold Cells; exact ⟨x, r, rfl, h⟩
  | some d0 :: e, 0, s, as, h => by
    unfold Cells at h
    obtain ⟨v, r, b0, cs, e1, h1, h2, ea⟩ := h
    subst e1 ea
    refine ⟨cs, fun a z => List.mem_append_right _ z, fun z => (List.nodup_append.mp z).2.1, fun x => ?_⟩
    rw [List.set_cons_zero, List.set_cons_zero]; unfold Cells; exact ⟨x, r, rfl, h2⟩
  | none :: e, i + 1, s, as, h => by
    unfold Cells at h
    obtain ⟨y, r, e1, h⟩ := h
    subst e1
    obtain ⟨bs, s1, s2, q⟩ := Cells.unset e i h
    refine ⟨bs, s1, s2, fun x => ?_⟩
    rw [List.set_cons_succ, List.set_cons_succ]; unfold Cells; exact ⟨y, _, rfl, q x⟩
  | some d0 :: e, i + 1, s, as, h => by
    unfold Cells at h
    obtain ⟨v0, r, b0, cs0, e1, h0, h, ea⟩ := h
    subst e1 ea
    obtain ⟨bs, s1, s2, q⟩ := Cells.unset e i h
    refine ⟨b0 ++ bs, fun a z => ?_, fun z => ?_, fun x => ?_⟩
    · rcases List.mem_append.mp z with z | z
      · exact List.mem_append_left _ z
      · exact List.mem_append_right _ (s1 a z)
    · obtain ⟨n1, n2, n3⟩ := List.nodup_append.mp z
      exact List.nodup_append.mpr ⟨n1, s2 n2, fun a ha b hb => n3 a ha b (s1 b hb)⟩
    · rw [List.set_cons_succ, List.set_cons_succ]; unfold Cells; exact ⟨v0, _, b0, bs, rfl, h0, q x, rfl⟩
theorem Cells.agree : ∀ (e : Env) {s s' : St} {as : List Addr}, Cells K P H e s as → s'.length = s.length → (∀ i : Nat, e[i]? = some none ∨ s[i]? = s'[i]?) → Cells K P H e s' as
  | [], s, s', as, h, hl, ha => by
    unfold Cells at h ⊢
    rw [h.1] at hl
    exact ⟨List.eq_nil_of_length_eq_zero hl, h.2⟩
  | none :: e, s, s', as, h, hl, ha => by
    unfold Cells at h ⊢
    obtain ⟨x, r, e1, h⟩ := h
    subst e1
    cases s' with
    | nil => simp at hl
    | cons y r' => exact ⟨y, r', rfl, Cells.agree e h (by simpa using hl) fun i => by have := ha (i + 1); simpa using this⟩
  | some d :: e, s, s', as, h, hl, ha => by
    unfold Cells at h ⊢
    obtain ⟨v, r, bs, cs, e1, h1, h2, ea⟩ := h
    subst e1
    cases s' with
    | nil => simp at hl
    | cons y r' =>
      have h0 := ha 0
      simp at h0
      subst h0
      exact ⟨v, r', bs, cs, rfl, h1, Cells.agree e h2 (by simpa using hl) fun i => by have := ha (i + 1); simpa using this, ea⟩
theorem Rel.unset (i : Nat) (x : Option V) (r : Rel K Y H0 io T t e s H) (hio : ∀ p ∈ io, p.1 ≠ i) : Rel K Y H0 io T t (e.set i none) (s.set i x) H := by
  obtain ⟨as, bs, h1, h2, h3, h4, h5, h6⟩ := r
  obtain ⟨cs, s1, s2, q⟩ := Cells.unset e i h2
  have sub : ∀ a ∈ as ++ cs, a ∈ as ++ bs := fun a ha => (List.mem_append.mp ha).elim (fun z => List.mem_append_left _ z) fun z => List.mem_append_right _ (s1 a z)
  refine ⟨as, cs, Owns.mono T ⟨mono_sub sub, fun _ _ => rfl⟩ h1, Cells.mono _ ⟨mono_sub sub, fun _ _ => rfl⟩ (q x), ?_, fun a ha => h4 a (sub a ha), h5, fun p hp => ⟨(h6.1 p hp).1, ?_⟩, h6.2⟩
  · obtain ⟨x1, x2, x3⟩ := List.nodup_append.mp h3
    exact List.nodup_append.mpr ⟨x1, s2 x2, fun a ha b hb => x3 a ha b (s1 b hb)⟩
  · rw [List.getElem?_set_ne (Ne.symm (hio p hp))]; exact (h6.1 p hp).2
theorem Rel.wipe (r : Rel K Y H0 io T t e s H) : ∀ vs : List Nat, 0 ∉ vs → Rel K Y H0 io T t (wipeE e vs) (L2.wipe s vs) H
  | [], _ => r
  | v :: vs, h0 => by
    simp only [List.mem_cons, not_or] at h0
    unfold wipeE L2.wipe
    obtain ⟨as, bs, h1, h2, h3, h4, h5, h6⟩ := id (Rel.wipe r vs h0.2)
    exact (Rel.wipe r vs h0.2).unset v none fun p hp z => h0.1 (by rw [← z, (h6.1 p hp).1])
theorem Rel.agree (r : Rel K Y H0 io T t e s H) (hl : s'.length = s.length) (ha : ∀ i : Nat, e[i]? = some none ∨ s[i]? = s'[i]?) (h0 : s[0]? = s'[0]?) : Rel K Y H0 io T t e s' H := by
  obtain ⟨as, bs, h1, h2, h3, h4, h5, h6⟩ := r
  exact ⟨as, bs, h1, Cells.agree e h2 hl ha, h3, h4, h5, fun p hp => ⟨(h6.1 p hp).1, by obtain ⟨z1, z2⟩ := h6.1 p hp; rw [z1] at z2 ⊢; rw [← h0]; exact z2⟩, h6.2⟩
theorem Rel.unwipe {vs : List Nat} (h0 : 0 ∉ vs) (r : Rel K Y H0 io T t (wipeE e vs) (L2.wipe s vs) H) : Rel K Y H0 io T t (wipeE e vs) s H := by
  have hl := r.len
  rw [wipe_length, wipeE_length] at hl
  refine r.agree (by rw [wipe_length]) (fun i => ?_) (wipe_out s vs 0 h0)
  by_cases hi : i ∈ vs
  · by_cases hlt : i < e.length
    · exact .inl (wipeE_in e vs i hi hlt)
    · right
      rw [List.getElem?_eq_none (by rw [wipe_length]; omega), List.getElem?_eq_none (by omega)]
  · exact .inr (wipe_out s vs i hi)
/-- y, on top, is appended to the owned list behind A -/
theorem Rel.appT {A : List D} {va : List V} {acc : List D} {y : D} {vy u : V} (hl : va.length = A.length) (r : Rel K Y H0 io (y :: (A ++ .own acc :: T)) (vy :: (va ++ u :: t)) e s H) :
    ∃ a vs, u = V.ref a ∧ H a = some (.lst vs) ∧ vs.length = acc.length ∧ Rel K Y H0 io (A ++ .own (acc ++ [y]) :: T) (va ++ u :: t) e s (upd H a (.lst (vs ++ [vy]))) := by
  obtain ⟨a, vs, P, bs, aa, e1, ha, o1, o2, nd, g⟩ := Rel.mutT (A := y :: A) (va := vy :: va) (by simp [hl]) r
  unfold Owns at o2
  obtain ⟨v', r', b1, c1, ev, q1, q2, ea⟩ := o2
  cases ev; subst ea
  refine ⟨a, vs, e1, ha, o1.len, ?_⟩
  have pm : (c1 ++ (bs ++ b1)).Perm (b1 ++ c1 ++ bs) := by
    rw [List.perm_iff_count]
    intro x
    simp only [List.count_append]
    omega
  exact g (acc ++ [y]) (vs ++ [vy]) A va (bs ++ b1) c1 (Owns.join acc o1 (owns1 q1)) q2 (pm.nodup_iff.mpr nd) fun x hx => pm.mem_iff.mp hx
end

/-! ### list comprehensions -/
abbrev W0 : WX := fun _ _ _ _ => False
def mLcLoop (vs : List Nat) (g : MG) (tt : MT) (te : ME) : List D → List D → Env → Rs (D × Env)
  | [], acc, e => .ok (.own acc, e)
  | d :: ds, acc, e => match g d e with
    | none => .err
    | some e1 => match tt e1 with
      | .ok (true, e2) => match te e2 with
        | .ok (y, e3) => if acc.length < sizeLine then mLcLoop vs g tt te ds (acc ++ [y]) (wipeE e3 vs) else .err
        | _ => .err
      | .ok (false, e2) => mLcLoop vs g tt te ds acc (wipeE e2 vs)
      | _ => .err
def mLc (vs : List Nat) (mi : MA) (g : MG) (tt : MT) (te : ME) : ME := fun e => (mi e).bind fun p => mLcLoop vs g tt te p.1 [] (wipeE p.2 vs)
def mYes : MT := fun e => .ok (true, e)
theorem lcLoop_env {vs : List Nat} {g : MG} {tt : MT} {te : ME} : ∀ (ds acc : List D) (e : Env) (d : D) (e' : Env), (∃ e0, e = wipeE e0 vs) → mLcLoop vs g tt te ds acc e = .ok (d, e') → ∃ e0, e' = wipeE e0 vs
  | [], acc, e, d, e', h, q => by unfold mLcLoop at q; cases q; exact h
  | x :: ds, acc, e, d, e', h, q => by
    unfold mLcLoop at q
    cases q1 : g x e with
    | none => rw [q1] at q; cases q
    | some e1 =>
      rw [q1] at q
      simp only at q
      cases q2 : tt e1 with
      | err => rw [q2] at q; cases q
      | exc c fs e' => rw [q2] at q; cases q
      | ok z =>
        obtain ⟨b, e2⟩ := z
        rw [q2] at q
        cases b with
        | false => simp only at q; exact lcLoop_env ds acc _ d e' ⟨_, rfl⟩ q
        | true =>
          simp only at q
          cases q3 : te e2 with
          | err => rw [q3] at q; cases q
          | exc c fs e' => rw [q3] at q; cases q
          | ok z =>
            obtain ⟨y, e3⟩ := z
            rw [q3] at q
            simp only at q
            by_cases c : acc.length < sizeLine
            · rw [if_pos c] at q; exact lcLoop_env ds _ _ d e' ⟨_, rfl⟩ q
            · rw [if_neg c] at q; cases q
theorem lcLoop_noexc {vs : List Nat} {g : MG} {tt : MT} {te : ME} : ∀ (ds acc : List D) (e : Env) (c : Str) (fs : List (Str × Int)) (e' : Env), mLcLoop vs g tt te ds acc e ≠ .exc c fs e'
  | [], acc, e, c, fs, e', q => by unfold mLcLoop at q; cases q
  | x :: ds, acc, e, c, fs, e', q => by
    unfold mLcLoop at q
    cases q1 : g x e with
    | none => rw [q1] at q; cases q
    | some e1 =>
      rw [q1] at q
      simp only at q
      cases q2 : tt e1 with
      | err => rw [q2] at q; cases q
      | exc c fs e' => rw [q2] at q; cases q
      | ok z =>
        obtain ⟨b, e2⟩ := z
        rw [q2] at q
        cases b with
        | false => simp only at q; exact lcLoop_noexc ds acc _ c fs e' q
        | true =>
          simp only at q
          cases q3 : te e2 with
          | err => rw [q3] at q; cases q
          | exc c fs e' => rw [q3] at q; cases q
          | ok z =>
            obtain ⟨y, e3⟩ := z
            rw [q3] at q
            simp only at q
            by_cases c' : acc.length < sizeLine
            · rw [if_pos c'] at q; exact lcLoop_noexc ds _ _ c fs e' q
            · rw [if_neg c'] at q; cases q
section
variable {K : PySem.W.Frag} {mg : Str → Option Value} {W : WX}
theorem sim_lc {vs us : List Nat} {wi : TI} {mi : MA} {g : TG} {mgt : MG} {tt : TT} {mt : MT} {te : TE} {me : ME} (h0 : 0 ∉ vs) (hu : ∀ i ∈ us, i ∈ vs) (hi : SimI K mg W wi mi) (hg : SimG K [0] us g mgt) (ht : SimT K mg W0 tt mt) (he : SimE K mg W0 te me) :
    SimE K mg W (tLc wi g tt te vs) (mLc vs mi mgt mt me) := by
  intro Y H0 io T τ e s H Q r p
  refine hi Y H0 io T τ e s H _ r ?_
  unfold mLc at p
  cases q : mi e with
  | err => rw [q] at p; exact p
  | exc c fs e' => rw [q] at p; exact p
  | ok z =>
    obtain ⟨ds, e'⟩ := z
    rw [q] at p
    have p : PostE K mg W Y H0 io T τ s Q (mLcLoop vs mgt mt me ds [] (wipeE e' vs)) := p
    intro J A va H' hl rl wk D hD
    have r1 : Rel K Y H0 io (A ++ .own [] :: T) (va ++ V.ref D :: τ) (wipeE e' vs) (L2.wipe s vs) (upd H' D (.lst [])) :=
      ((Rel.list (A := []) (va := []) rfl rl hD).unmid hl).wipe vs h0
    refine ⟨fun i m H => m = ds.length - i ∧ i ≤ ds.length ∧ ∃ acc e0, Rel K Y H0 io (A ++ .own acc :: T) (va ++ V.ref D :: τ) (wipeE e0 vs) (L2.wipe s vs) H ∧ PostE K mg W Y H0 io T τ s Q (mLcLoop vs mgt mt me (ds.drop i) acc (wipeE e0 vs)),
      ⟨ds.length, by simp, Nat.zero_le _, [], e', r1, by simpa using p⟩, ?_⟩
    rintro i m H1 ⟨rfl, hle, acc, e0, rl1, p1⟩
    obtain ⟨wk1, wk2⟩ := wk Y H0 io (.own acc :: T) (V.ref D :: τ) _ _ H1 rl1
    by_cases hlt : i < ds.length
    · have ed : ds.drop i = ds[i] :: ds.drop (i + 1) := List.drop_eq_getElem_cons hlt
      obtain ⟨go, yl⟩ := wk1 i ds[i] (List.getElem?_eq_getElem hlt)
      rw [ed] at p1
      unfold mLcLoop at p1
      refine .inr ⟨go, fun H => ∃ acc e0, Rel K Y H0 io (A ++ .own acc :: T) (va ++ V.ref D :: τ) (wipeE e0 vs) (L2.wipe s vs) H ∧ PostE K mg W Y H0 io T τ s Q (mLcLoop vs mgt mt me (ds.drop (i + 1)) acc (wipeE e0 vs)), fun H' ⟨a2, e2, r2, p2⟩ => ⟨_, by omega, rfl, hlt, a2, e2, r2, p2⟩, fun x H2 hy => ?_⟩
      have r2 := yl x H2 hy
      have hio : IoIn io [0] := fun p hp => by
        obtain ⟨_, _, _, _, _, _, _, h6⟩ := r2
        rw [(h6.1 p hp).1]; simp
      cases q2 : mgt ds[i] (wipeE e0 vs) with
      | none => rw [q2] at p1; exact False.elim p1
      | some e3 =>
        rw [q2] at p1
        simp only at p1
        refine hg Y H0 io (A ++ .own acc :: T) (va ++ V.ref D :: τ) _ _ H2 ds[i] x e3 _ hio q2 r2 fun s3 H3 r3 w3 => ?_
        have w4 : L2.wipe s3 vs = L2.wipe s vs := by
          rw [w3 vs hu]
          -- wiped twice
          apply List.ext_getElem?
          intro j
          by_cases hj : j ∈ vs
          · have key : ∀ (us : St), j < us.length → (L2.wipe us vs)[j]? = some none := by
              intro us hlen
              have : ∀ ws : List Nat, j ∈ ws → (L2.wipe us ws)[j]? = some none := by
                intro ws
                induction ws with
                | nil => intro h; cases h
                | cons w ws ih =>
                  intro h
                  unfold L2.wipe
                  by_cases hw : w = j
                  · subst hw; rw [List.getElem?_set_self (by rw [wipe_length]; exact hlen)]
                  · rw [List.getElem?_set_ne hw]; exact ih ((List.mem_cons.mp h).resolve_left fun z => hw z.symm)
              exact this vs hj
            by_cases hlen : j < s.length
            · rw [key _ (by rw [wipe_length]; exact hlen), key _ hlen]
            · rw [List.getElem?_eq_none (by rw [wipe_length, wipe_length]; omega), List.getElem?_eq_none (by rw [wipe_length]; omega)]
          · rw [wipe_out _ vs j hj]
        refine ⟨w4, ?_⟩
        refine ht Y H0 io _ _ e3 s3 H3 _ r3 ?_
        cases q4 : mt e3 with
        | err => rw [q4] at p1; exact p1
        | exc c fs e' => rw [q4] at p1; exact False.elim p1
        | ok z =>
          obtain ⟨b, e4⟩ := z
          rw [q4] at p1
          intro H4 r4
          cases b with
          | false =>
            rw [if_neg Bool.false_ne_true]
            exact ⟨acc, e4, w4 ▸ r4.wipe vs h0, p1⟩
          | true =>
            rw [if_pos rfl]
            simp only at p1
            refine he Y H0 io _ _ e4 s3 H4 _ r4 ?_
            cases q5 : me e4 with
            | err => rw [q5] at p1; exact p1
            | exc c fs e' => rw [q5] at p1; exact False.elim p1
            | ok z =>
              obtain ⟨y, e5⟩ := z
              rw [q5] at p1
              simp only at p1
              intro vy H5 r5
              by_cases c : acc.length < sizeLine
              · rw [if_pos c] at p1
                obtain ⟨a, ws, ea, hD5, hlw, r6⟩ := r5.appT hl
                cases ea
                exact ⟨ws, hD5, by rw [hlw]; exact c, acc ++ [y], e5, w4 ▸ r6.wipe vs h0, p1⟩
              · rw [if_neg c] at p1; exact False.elim p1
    · have e2 : i = ds.length := by omega
      subst e2
      refine .inl ⟨wk2, ?_⟩
      rw [List.drop_length] at p1
      exact p1 _ H1 ((Rel.popA hl rl1).unwipe h0)
end
section
variable {X : Cx} {W : WX} {pos : Pos} {elt tg iter : Expr} {scope : Scope} {own : List (Str × Nat)} {us : List Nat} {mi : MA} {g : MG} {mt : MT} {me : ME}
theorem de_lc (hN : X.N.Nodup) (hi : DI X W tg iter mi) (hb : blkC X.N X.env.scope scope own = true) (h0 : 0 ∉ own.map (·.2)) (hu : ∀ i ∈ us, i ∈ own.map (·.2))
    (hg : ∀ (s : Shared) (H : Hp) (C : Addr) (cl : List (Str × Addr)) (fp : List Addr), DG (X.blk s H scope (compEnvC scope cl C X.env) fp) [0] us tg g)
    (he : ∀ (s : Shared) (H : Hp) (C : Addr) (cl : List (Str × Addr)) (fp : List Addr), DE (X.blk s H scope (compEnvC scope cl C X.env) fp) W0 elt me) (hc : X.calm = true := by rfl) (hs : ∀ x, foldedSetIterable iter X.env x = pure x := by intro _; rfl) :
    DE X W (.ListComp elt [⟨tg, iter, [], 0⟩] scope pos) (mLc (own.map (·.2)) mi g mYes me) := by
  obtain ⟨t, p, s⟩ := hi
  refine ⟨_, pe_lc (own := own) (g := canG X.K [0] us g) (te := canE X.K X.mg W0 me) hc hN p (blkOk_by hb) (fun s H C cl fp => (hg s H C cl fp).can) (fun _ _ _ _ _ => pts_nil) (fun s H C cl fp => (he s H C cl fp).can) hs, ?_⟩
  exact sim_lc h0 hu s sim_canG (fun Y H0 io T τ e s H Q r p => p H r) sim_canE
theorem de_lcIf {cond : Expr} (hN : X.N.Nodup) (hi : DI X W tg iter mi) (hb : blkC X.N X.env.scope scope own = true) (h0 : 0 ∉ own.map (·.2)) (hu : ∀ i ∈ us, i ∈ own.map (·.2))
    (hg : ∀ (s : Shared) (H : Hp) (C : Addr) (cl : List (Str × Addr)) (fp : List Addr), DG (X.blk s H scope (compEnvC scope cl C X.env) fp) [0] us tg g)
    (ht : ∀ (s : Shared) (H : Hp) (C : Addr) (cl : List (Str × Addr)) (fp : List Addr), DT (X.blk s H scope (compEnvC scope cl C X.env) fp) W0 cond mt)
    (he : ∀ (s : Shared) (H : Hp) (C : Addr) (cl : List (Str × Addr)) (fp : List Addr), DE (X.blk s H scope (compEnvC scope cl C X.env) fp) W0 elt me) (hc : X.calm = true := by rfl) (hs : ∀ x, foldedSetIterable iter X.env x = pure x := by intro _; rfl) :
    DE X W (.ListComp elt [⟨tg, iter, [cond], 0⟩] scope pos) (mLc (own.map (·.2)) mi g mt me) := by
  obtain ⟨t, p, s⟩ := hi
  refine ⟨_, pe_lc (own := own) (g := canG X.K [0] us g) (te := canE X.K X.mg W0 me) hc hN p (blkOk_by hb) (fun s H C cl fp => (hg s H C cl fp).can) (fun s H C cl fp => pts_one (t := canT X.K X.mg W0 mt) (ht s H C cl fp).can) (fun s H C cl fp => (he s H C cl fp).can) hs, ?_⟩
  exact sim_lc h0 hu s sim_canG sim_canT sim_canE
/-- name = [..] -/
theorem ds_setLc {ios : List Nat} {i : Nat} {y : Str} {py spos : Pos} (hN : X.N.Nodup) (hi : DI X W tg iter mi) (hb : blkC X.N X.env.scope scope own = true) (h0 : 0 ∉ own.map (·.2)) (hu : ∀ i ∈ us, i ∈ own.map (·.2))
    (hg : ∀ (s : Shared) (H : Hp) (C : Addr) (cl : List (Str × Addr)) (fp : List Addr), DG (X.blk s H scope (compEnvC scope cl C X.env) fp) [0] us tg g)
    (he : ∀ (s : Shared) (H : Hp) (C : Addr) (cl : List (Str × Addr)) (fp : List Addr), DE (X.blk s H scope (compEnvC scope cl C X.env) fp) W0 elt me)
    (hsw : swapsWith (.ListComp elt [⟨tg, iter, [], 0⟩] scope pos) (some (.Name y py)) spos.line X.env = pure true)
    (hn : i ∉ ios := by decide) (hy : X.N[i]? = some y := by rfl) (hyl : X.env.scope.names.lookup y = some .local := by rfl) (hc : X.calm = true := by rfl) (hs : ∀ x, foldedSetIterable iter X.env x = pure x := by intro _; rfl) :
    DS X W ios (.Assign [.Name y py] (.ListComp elt [⟨tg, iter, [], 0⟩] scope pos) spos) (mAsg (mLc (own.map (·.2)) mi g mYes me) (mgName i)) := by
  obtain ⟨t, p, s⟩ := hi
  refine ⟨_, ps_setLc (own := own) (g := canG X.K [0] us g) (te := canE X.K X.mg W0 me) hc hN hy hyl hsw p (blkOk_by hb) (fun s H C cl fp => (hg s H C cl fp).can) (fun _ _ _ _ _ => pts_nil) (fun s H C cl fp => (he s H C cl fp).can) hs, ?_⟩
  exact sim_asg (sim_lc h0 hu s sim_canG (fun Y H0 io T τ e s H Q r p => p H r) sim_canE) (sim_gName hn)
theorem ds_setLcIf {ios : List Nat} {i : Nat} {y : Str} {py spos : Pos} {cond : Expr} (hN : X.N.Nodup) (hi : DI X W tg iter mi) (hb : blkC X.N X.env.scope scope own = true) (h0 : 0 ∉ own.map (·.2)) (hu : ∀ i ∈ us, i ∈ own.map (·.2))
    (hg : ∀ (s : Shared) (H : Hp) (C : Addr) (cl : List (Str × Addr)) (fp : List Addr), DG (X.blk s H scope (compEnvC scope cl C X.env) fp) [0] us tg g)
    (ht : ∀ (s : Shared) (H : Hp) (C : Addr) (cl : List (Str × Addr)) (fp : List Addr), DT (X.blk s H scope (compEnvC scope cl C X.env) fp) W0 cond mt)
    (he : ∀ (s : Shared) (H : Hp) (C : Addr) (cl : List (Str × Addr)) (fp : List Addr), DE (X.blk s H scope (compEnvC scope cl C X.env) fp) W0 elt me)
    (hsw : swapsWith (.ListComp elt [⟨tg, iter, [cond], 0⟩] scope pos) (some (.Name y py)) spos.line X.env = pure true)
    (hn : i ∉ ios := by decide) (hy : X.N[i]? = some y := by rfl) (hyl : X.env.scope.names.lookup y = some .local := by rfl) (hc : X.calm = true := by rfl) (hs : ∀ x, foldedSetIterable iter X.env x = pure x := by intro _; rfl) :
    DS X W ios (.Assign [.Name y py] (.ListComp elt [⟨tg, iter, [cond], 0⟩] scope pos) spos) (mAsg (mLc (own.map (·.2)) mi g mt me) (mgName i)) := by
  obtain ⟨t, p, s⟩ := hi
  refine ⟨_, ps_setLc (own := own) (g := canG X.K [0] us g) (te := canE X.K X.mg W0 me) hc hN hy hyl hsw p (blkOk_by hb) (fun s H C cl fp => (hg s H C cl fp).can) (fun s H C cl fp => pts_one (t := canT X.K X.mg W0 mt) (ht s H C cl fp).can) (fun s H C cl fp => (he s H C cl fp).can) hs, ?_⟩
  exact sim_asg (sim_lc h0 hu s sim_canG sim_canT sim_canE) (sim_gName hn)
end
end Mi
namespace Mi
open PySem PySem.Spec PyProof.Rows L2

/-! ### defs -/
inductive Fr where
  | ok (d : D) | exc (c : Str) (fs : List (Str × Int)) | err
inductive Fo where
  | ok (d : D) (xs : List D) | err
abbrev MF := List D → Fr
abbrev MO := List D → List D → Fo
/-- neither tuple: may be changed by others -/
def Mut' (P : Addr → Prop) (H : Hp) : Prop := ∀ a, P a → ∃ o, H a = some o ∧ ∀ xs, o ≠ .tup xs
def RetOk (K : PySem.W.Frag) (P : Addr → Prop) (H : Hp) (d : D) (v : V) (H' : Hp) : Prop := ∃ as : List Addr, as.Nodup ∧ (∀ a ∈ as, H a = none) ∧ Own K (inX P as) H' d v as
/-- the promise of a def that comes to F -/
def spF (K : PySem.W.Frag) (mg : Str → Option Value) (n : Nat) (F : MF) : Sp := fun vs H Q E => ∃ ds P, ds.length = n ∧ Reps K P H ds vs ∧ Mut' P H ∧ match F ds with
  | .ok d => ∀ v H', Same H H' → RetOk K P H d v H' → Q v H'
  | .exc c fs => ∀ cls dd H', Same H H' → XR mg H' c fs cls dd → E cls dd H'
  | .err => False
/-- .. and the list ys that the first argument holds behind it -/
def RetO (K : PySem.W.Frag) (P : Addr → Prop) (H : Hp) (d : D) (v : V) (ys : List D) (ws : List V) (H' : Hp) : Prop := ∃ as : List Addr, as.Nodup ∧ (∀ a ∈ as, H a = none) ∧ Own K (inX P as) H' d v as ∧ Reps K (inX P as) H' ys ws
/-- .. of a def whose first argument is a list that it changes -/
def spO (K : PySem.W.Frag) (n : Nat) (F : MO) : Sp := fun vs H Q E => ∃ a ws us xs ds P, vs = V.ref a :: us ∧ ds.length + 1 = n ∧ H a = some (.lst ws) ∧ ¬ P a ∧ Reps K (fun b => b = a ∨ P b) H xs ws ∧ Reps K (fun b => b = a ∨ P b) H ds us ∧ Mut' P H ∧ match F xs ds with
  | .ok d xs' => ∀ v H' ws', (∀ b o, H b = some o → b ≠ a → H' b = some o) → H' a = some (.lst ws') → RetO K (fun b => b = a ∨ P b) H d v xs' ws' H' → Q v H'
  | .err => False
def envOf (n : Nat) (ds : List D) : Env := ds.map some ++ List.replicate (n - ds.length) none
def fnM (n : Nat) (body : MS) : MF := fun ds => match body (envOf n ds) with
  | .nx _ => .ok .non
  | .rt d _ => .ok d
  | .exc c fs _ => .exc c fs
  | _ => .err
def fnO (n : Nat) (body : MS) : MO := fun xs ds => match body (envOf n (.own xs :: ds)) with
  | .nx e => match (e : List (Option D))[0]? with
    | some (some (D.own ys)) => if plains ys = true then .ok .non ys else .err
    | _ => .err
  | .rt d e => match (e : List (Option D))[0]? with
    | some (some (D.own ys)) => if plains ys = true then .ok d ys else .err
    | _ => .err
  | _ => .err
section
variable {K : PySem.W.Frag} {mg : Str → Option Value} {Y P : Addr → Prop} {H0 H H' : Hp} {io : List (Nat × Addr)} {T : List D} {t : List V} {e : Env} {s : St} {d : D} {v : V}
theorem Cells.args : ∀ {ds : List D} {vs : List V} (k : Nat), Reps K P H ds vs → Cells K P H (ds.map some ++ List.replicate k none) (vs.map some ++ List.replicate k none) []
  | [], vs, 0, h => by unfold Reps at h; subst h; simp [Cells]
  | [], vs, k + 1, h => by
    have h' := h
    unfold Reps at h; subst h
    have := Cells.args (ds := []) (vs := []) k h'
    simp only [List.map_nil, List.nil_append, List.replicate_succ] at this ⊢
    unfold Cells
    exact ⟨none, _, rfl, this⟩
  | d :: ds, vs, k, h => by
    unfold Reps at h
    obtain ⟨v, r, e, h1, h2⟩ := h
    subst e
    rw [List.map_cons, List.map_cons, List.cons_append, List.cons_append]
    unfold Cells
    exact ⟨v, _, [], [], rfl, Own.of h1, Cells.args k h2, rfl⟩
theorem mono_to {P P' : Addr → Prop} (h : ∀ a, P' a → P a) : Mono P H P' H := ⟨fun a o e n => ⟨e, fun z => n (h a z)⟩, fun a o u e => e⟩
theorem Rel.start {ds : List D} {vs : List V} {N : List Str} (h : Reps K P H ds vs) (hm : Mut' P H) : Rel K P H [] [] [] (envOf N.length ds) (L2.start N vs) H := by
  refine ⟨[], [], by unfold Owns; exact ⟨rfl, rfl⟩, ?_, by simp, (fun _ z => nomatch z), fun b o e => ⟨fun _ => e, o, e⟩, (fun _ z => nomatch z), fun a ha => ⟨hm a ha, by simp⟩⟩
  unfold envOf L2.start
  rw [h.len]
  exact Cells.args _ (Reps.mono (mono_to fun a z => z.elim (fun z => nomatch z) id) ds h)
theorem Rel.ret (r : Rel K Y H0 [] [d] [v] e s H) : Same H0 H ∧ RetOk K Y H0 d v H := by
  obtain ⟨as, bs, h1, h2, h3, h4, h5, h6⟩ := r
  refine ⟨fun b o e => (h5 b o e).1 (by simp), ?_⟩
  unfold Owns at h1
  obtain ⟨v', r', b1, c1, e1, o1, o2, ea⟩ := h1
  cases e1
  unfold Owns at o2
  rw [o2.2, List.append_nil] at ea
  subst ea
  refine ⟨as, (List.nodup_append.mp h3).1, fun a ha => (h4 a (List.mem_append_left _ ha)).resolve_right (by simp), Own.mono d ⟨mono_to fun a z => z.imp (fun z => List.mem_append_left _ z) id, fun _ _ => rfl⟩ o1⟩
/-- what the caller has behind a call -/
theorem Rel.call {ds : List D} {vs : List V} (hl : vs.length = ds.length) (r : Rel K Y H0 io (ds ++ T) (vs ++ t) e s H) :
    ∃ P, Reps K P H (frzs ds) vs ∧ Mut' P H ∧ ∀ d v H', Same H H' → RetOk K P H d v H' → Rel K Y H0 io (d :: T) (v :: t) e s H' := by
  obtain ⟨as, bs, h1, h2, h3, h4, h5, h6⟩ := r.frzA hl
  obtain ⟨v1, v2, a1, a2, e1, e2, e3, q1, q2⟩ := Owns.split (frzs ds) h1
  obtain ⟨e4, e5⟩ := List.append_inj e1 (by rw [hl, e3, frzs_length])
  subst e4 e5
  obtain ⟨q3, q4⟩ := Owns.reps (plains_frz ds) q1
  have e6 : as = a2 := by rw [e2, q4]; rfl
  subst e6
  have there : ∀ a ∈ as ++ bs, ∃ ws, H a = some (.lst ws) := fun a ha => (List.mem_append.mp ha).elim (Owns.there _ h1 a) (Cells.there _ h2 a)
  refine ⟨inX Y (as ++ bs), q3, fun a ha => ?_, fun d v H' hs ⟨cs, c1, c2, c3⟩ => ?_⟩
  · rcases ha with ha | ha
    · obtain ⟨ws, q⟩ := there a ha
      exact ⟨_, q, fun xs z => nomatch z⟩
    · obtain ⟨⟨o, q, nt⟩, ni⟩ := h6.2 a ha
      exact ⟨o, (h5 a o q).1 ni, nt⟩
  · have m : Mono (inX Y (as ++ bs)) H (inX Y (cs ++ as ++ bs)) H' := ⟨fun a o e n => ⟨hs a o e, fun z => by
      rcases z with z | z
      · rw [List.append_assoc] at z
        rcases List.mem_append.mp z with z | z
        · rw [c2 a z] at e; cases e
        · exact n (.inl z)
      · exact n (.inr z)⟩, fun a o u e => hs a _ e⟩
    have st : ∀ a ∈ as ++ bs, H' a = H a := fun a ha => by
      obtain ⟨ws, q⟩ := there a ha
      rw [q, hs a _ q]
    refine ⟨cs ++ as, bs, ?_, Cells.mono e ⟨m, fun a ha => st a (List.mem_append_right _ ha)⟩ h2, ?_, fun a ha => ?_, fun b o e1 => ⟨fun e2 => hs b o ((h5 b o e1).1 e2), let ⟨o', q⟩ := (h5 b o e1).2; ⟨o', hs b o' q⟩⟩, h6⟩
    · unfold Owns
      refine ⟨v, t, cs, as, rfl, Own.mono d ⟨mono_to fun a z => ?_, fun _ _ => rfl⟩ c3, Owns.mono T ⟨m, fun a ha => st a (List.mem_append_left _ ha)⟩ q2, rfl⟩
      rcases z with z | z
      · rw [List.append_assoc] at z
        rcases List.mem_append.mp z with z | z
        · exact .inl z
        · exact .inr (.inl z)
      · exact .inr (.inr z)
    · rw [List.append_assoc]
      refine List.nodup_append.mpr ⟨c1, h3, fun a ha b hb z => ?_⟩
      subst z
      obtain ⟨ws, q⟩ := there a hb
      rw [c2 a ha] at q; cases q
    · rw [List.append_assoc] at ha
      rcases List.mem_append.mp ha with z | z
      · refine .inl ?_
        cases q : H0 a with
        | none => rfl
        | some o =>
          obtain ⟨o', q'⟩ := (h5 a o q).2
          rw [c2 a z] at q'; cases q'
      · exact h4 a z
end
/-- a def is what it comes to -/
theorem fn_ok {P : Program} {w : World} {K : PySem.W.Frag} {mg : Str → Option Value} {base : Heap} {x qual : Str} {st : Stmt} {f : Addr} {fd : FuncData} {N ps : List Str} {k : Nat} {m : MS} (F : Fun K x qual st f fd) (S : FnScope N ps (defScope st))
    (h : ∀ (cdv : Value) (A : Around) (outer : List PySem.Env) (s : Shared) (H : Hp) (E : XK), Room k (A.deeper (envOfC qual (defScope st) s.heap.objs.size f cdv)) →
      L2N.Takes (cxOf (L2N.CX P w) P w K mg base N qual (defScope st) f cdv A outer s H E) (fun cls d _ H => E cls d H) →
      DB (cxOf (L2N.CX P w) P w K mg base N qual (defScope st) f cdv A outer s H E) (fun cls d _ H => E cls d H) [] (defBody st) m) :
    FnOk P w K mg base (L2N.CX P w) (k + 1) f fd ps (spF K mg ps.length (fnM N.length m)) := by
  obtain ⟨oc, od, kV, doc, pm, an, cdv, ct, osl, rfl, lk, hcd⟩ := F.ex
  refine fn_of lk hcd S (fun vs H Q E ⟨ds, P, hl, hr, _⟩ => by rw [hr.len, hl]) fun A outer s H vs Q E hr ⟨ds, P', hl, hrep, hm, hF⟩ => ?_
  obtain ⟨t, p, sm⟩ := h cdv A outer s H E hr (L2N.takes_of rfl rfl rfl rfl)
  refine ⟨t, p, sm P' H [] [] [] (envOf N.length ds) (L2.start N vs) H _ (fun _ z => nomatch z) (Rel.start hrep hm) ?_⟩
  unfold fnM at hF
  cases q : m (envOf N.length ds) with
  | nx e' =>
    rw [q] at hF
    exact fun s' H' r => let ⟨h1, h2⟩ := r.non.ret; hF _ H' h1 h2
  | rt d e' =>
    rw [q] at hF
    exact fun v s' H' r => let ⟨h1, h2⟩ := r.ret; hF _ H' h1 h2
  | exc c fs e' =>
    rw [q] at hF
    exact fun cls dd s' H' x r => hF cls dd H' (let ⟨h1, h2⟩ := r.non.ret; h1) x
  | bk e' => rw [q] at hF; exact hF.elim
  | ct e' => rw [q] at hF; exact hF.elim
  | err => rw [q] at hF; exact hF.elim
def mCall (F : MF) (ma : MA) : ME := fun e => (ma e).bind fun p => match F (frzs p.1) with
  | .ok d => .ok (d, p.2)
  | .exc c fs => .exc c fs p.2
  | .err => .err
section
variable {X : Cx} {W : WX} {pos p : Pos} {a : Expr} {es : List Expr} {mas : MA}
theorem sim_call {K : PySem.W.Frag} {mg : Str → Option Value} {n : Nat} {F : MF} {t : TA} {ma : MA} (h : SimA K mg W t ma) (hn : ∀ e ds e', ma e = .ok (ds, e') → ds.length = n) : SimE K mg W (tCallS (spF K mg n F) (WE W) t) (mCall F ma) := by
  intro Y H0 io T τ e s H Q r q
  refine h Y H0 io T τ e s H _ r ?_
  unfold mCall at q
  cases c : ma e with
  | err => rw [c] at q; exact q
  | exc c fs e' => rw [c] at q; exact q
  | ok z =>
    obtain ⟨ds, e'⟩ := z
    rw [c] at q
    have q : PostE K mg W Y H0 io T τ s Q (match F (frzs ds) with | .ok d => .ok (d, e') | .exc c fs => .exc c fs e' | .err => .err) := q
    intro vs H' hl rl
    obtain ⟨P, h1, h2, h3⟩ := rl.call hl
    refine ⟨frzs ds, P, by rw [frzs_length]; exact hn e ds e' c, h1, h2, ?_⟩
    cases hf : F (frzs ds) with
    | err => rw [hf] at q; exact q
    | ok d => rw [hf] at q; exact fun v H2 hs hr => q v H2 (h3 d v H2 hs hr)
    | exc c fs =>
      rw [hf] at q
      refine fun cls dd H2 hs x => q cls dd H2 x ?_
      have r2 : Rel K Y H0 io T τ e' s H' := Rel.popA hl rl
      exact r2.same hs
theorem de_call {k n : Nat} {f : Addr} {fd : FuncData} {ps : List Str} {F : MF} {x : Str} (hF : FnOk X.prog X.w X.K X.mg X.base (L2N.CX X.prog X.w) k f fd ps (spF X.K X.mg n F)) (hr : Room k X.A) (hm : X.mg x = some (.ref f)) (hk : PySem.W.keepIn X.K (.ref f) = true) (hb : Binds X.K fd ps [])
    (tk : L2N.Takes X W) (ha : DA X W (a :: es) mas) (hn : ∀ e ds e', mas e = .ok (ds, e') → ds.length = n) (hg : Gl X x := by rfl)
    (hdb : (x == ("__debug__" : Str)) = false := by decide) (he : starEach (a :: es) X.env = (false, eval a X.env) :: starEach es X.env := by rfl) (hpl : (backTo pos (starEach es X.env)).any (·.1) = false := by rfl) :
    DE X W (.Call (.Name x p) (a :: es) [] pos) (mCall F mas) := by
  obtain ⟨t, pa, s⟩ := ha
  exact ⟨_, pe_callS hF hr hg hm hk hb (fun σ => L2N.passAt tk σ) pa hdb he hpl, sim_call s hn⟩
theorem cons_len {m : ME} {ms : MA} {n : Nat} (h : ∀ e ds e', ms e = .ok (ds, e') → ds.length = n) : ∀ e ds e', mCons m ms e = .ok (ds, e') → ds.length = n + 1 := fun e ds e' q => by
  unfold mCons at q
  cases q1 : m e with
  | err => rw [q1] at q; cases q
  | exc c fs e' => rw [q1] at q; cases q
  | ok z =>
    obtain ⟨d, e1⟩ := z
    rw [q1] at q
    have q : (ms e1).bind (fun q => Rs.ok (d :: q.1, q.2)) = .ok (ds, e') := q
    cases q2 : ms e1 with
    | err => rw [q2] at q; cases q
    | exc c fs e' => rw [q2] at q; cases q
    | ok z =>
      obtain ⟨ds2, e2⟩ := z
      rw [q2] at q
      cases q
      rw [List.length_cons, h e1 ds2 _ q2]
theorem nil_len : ∀ e ds e', mNil e = .ok (ds, e') → ds.length = 0 := fun e ds e' q => by unfold mNil at q; cases q; rfl
end
/-- nothing is let out of a comprehension's block -/
theorem takes0N {X : Cx} : L2N.Takes X W0 := fun _ _ x => by
  obtain ⟨_, _, _, _, _, _, _, _, _, _, _, _, _, _, _, _, z⟩ := x
  exact z.elim
end Mi
namespace Mi
open PySem PySem.Spec PyProof.Rows L2
section
variable {K : PySem.W.Frag} {mg : Str → Option Value} {W : WX} {Y : Addr → Prop} {H0 H H' : Hp} {io : List (Nat × Addr)} {T : List D} {t : List V} {e : Env} {s : St} {d : D} {v : V}
theorem atI_any {α β : Type} {xs : List α} {i : Int} {x : α} (h : atI xs i = some x) : ∃ j : Nat, xs[j]? = some x ∧ ∀ ys : List β, ys.length = xs.length → ∀ y : β, ys[j]? = some y → atI ys i = some y := by
  unfold atI at h ⊢
  obtain ⟨j, h1, h2⟩ := Option.bind_eq_some_iff.mp h
  exact ⟨j, h2, fun ys hl y hy => by rw [hl, h1]; exact hy⟩
/-- an item of what a slot holds, put on top -/
theorem Rel.item {i j : Nat} {ds : List D} {x : D} (r : Rel K Y H0 io T t e s H) (hi : e[i]? = some (some d)) (h : items d = some ds) (hj : ds[j]? = some x) (hp : x.plain = true) :
    ∃ a vs v, s[i]? = some (some (V.ref a)) ∧ (SqL K H a vs ∨ SqT K H a vs) ∧ vs.length = ds.length ∧ vs[j]? = some v ∧ Rel K Y H0 io (x :: T) (v :: t) e s H := by
  obtain ⟨as, bs, h1, h2, h3, h4, h5, h6⟩ := r
  obtain ⟨u, pre, b, post, q1, q2, q3, _⟩ := Cells.focus e i h2 hi
  obtain ⟨a, vs, cs, rfl, w1, w2⟩ := q2.seq h
  obtain ⟨y, b1, c1, z1, z2, _⟩ := Owns.at w2 hj
  obtain ⟨z3, _⟩ := z2.plain hp
  refine ⟨a, vs, y, q1, w1, w2.len, z1, as, bs, ?_, h2, h3, h4, h5, h6⟩
  unfold Owns
  exact ⟨y, t, [], as, rfl, Own.of z3, h1, rfl⟩
/-- name[..]: the name's list may be owned -/
def dIxS (d k : D) : Option D := match d, k with
  | .own ds, .int k => (atI ds k).bind fun x => if x.plain = true then some x else none
  | d, k => if d.plain = true then dIx d k else none
def mSlotIx (i : Nat) (mb : ME) : ME := fun e => match e[i]? with
  | some (some _) => (mb e).bind fun p => match (p.2 : List (Option D))[i]? with
    | some (some d) => Rs.of ((dIxS d p.1).map fun x => (x, p.2))
    | _ => .err
  | _ => .err
theorem sim_slotIx {i : Nat} {tb : TE} {mb : ME} (hb : SimE K mg W tb mb) : SimE K mg W (tOp (rIx K) (tVar i) tb) (mSlotIx i mb) := by
  intro Y H0 io T τ e s H Q r p
  unfold mSlotIx at p
  cases c : e[i]? with
  | none => rw [c] at p; exact False.elim p
  | some o =>
    cases o with
    | none => rw [c] at p; exact False.elim p
    | some d0 =>
      rw [c] at p
      obtain ⟨u, hu, _⟩ := r.view c
      refine ⟨u, hu, ?_⟩
      refine hb.then r (P := PostE K mg W Y H0 io T τ s Q) p id postE_exc fun k e1 p v H1 r1 => ?_
      cases c1 : (e1 : List (Option D))[i]? with
      | none => simp only [c1] at p; exact False.elim p
      | some o =>
        cases o with
        | none => simp only [c1] at p; exact False.elim p
        | some d =>
          simp only [c1] at p
          cases c2 : dIxS d k with
          | none => rw [c2] at p; exact False.elim p
          | some x =>
            rw [c2] at p
            by_cases hp : d.plain = true
            · have hx : dIx d k = some x := by
                unfold dIxS at c2
                cases d <;> first | (simp only [hp, if_true] at c2; exact c2) | (unfold D.plain at hp; cases hp)
              obtain ⟨v2, q1, r2⟩ := r1.get c1 hp
              rw [hu] at q1; cases q1
              exact ok_ix Y H0 io T τ e1 s H1 d k u v x Q hx r2.swap p
            · obtain ⟨ds, rfl⟩ : ∃ ds, d = .own ds := by
                cases d <;> first | exact ⟨_, rfl⟩ | (simp only [dIxS, if_neg hp, reduceCtorEq] at c2)
              obtain ⟨j, rfl⟩ : ∃ j, k = .int j := by
                cases k <;> first | exact ⟨_, rfl⟩ | (simp [dIxS, D.plain] at c2)
              obtain rfl := r1.isInt
              obtain ⟨y, hy, c2⟩ := Option.bind_eq_some_iff.mp (show (atI ds j).bind (fun x => if x.plain = true then some x else none) = some x from c2)
              by_cases hyp : y.plain = true
              · rw [if_pos hyp] at c2; cases c2
                obtain ⟨m, hm, hv⟩ := atI_any (β := V) hy
                obtain ⟨a, vs, w, z1, z2, z3, z4, z5⟩ := r1.pop.item c1 rfl hm hyp
                rw [hu] at z1; cases z1
                rcases z2 with z2 | z2
                · exact .inl ⟨a, vs, j, w, rfl, rfl, z2, hv vs z3 w z4, p w H1 z5⟩
                · exact .inr (.inl ⟨a, vs, j, w, rfl, rfl, z2, hv vs z3 w z4, p w H1 z5⟩)
              · rw [if_neg hyp] at c2; cases c2


/-- an item of the owned list in a slot taken out: its place is told by its value alone -/
theorem Rel.takeOut {i j : Nat} {ds : List D} {x : D} (r : Rel K Y H0 io T t e s H) (hi : e[i]? = some (some (.own ds))) (hj : ds[j]? = some x) :
    ∃ a vs u, s[i]? = some (some (V.ref a)) ∧ H a = some (.lst vs) ∧ vs.length = ds.length ∧ vs[j]? = some u ∧ Rel K Y H0 io (x :: T) (u :: t) (e.set i (some (.own (ds.set j (.raw u))))) s H := by
  obtain ⟨as, cs, h1, h2, h3, h4, h5, h6⟩ := r
  obtain ⟨v, pre, b0, post, q1, q2, q3, q4⟩ := Cells.focus e i h2 hi
  subst q3
  unfold Own at q2
  obtain ⟨a, vs, bs0, ev, qa, qo, eb⟩ := q2
  subst ev eb
  obtain ⟨u, b1, c1, u1, u2, u3, u4, u5⟩ := Owns.at qo hj
  obtain ⟨es, x1, x2⟩ := u5 (.raw u) u [] (Own.of (by unfold Rep; rfl))
  rw [set_same u1] at x1
  have pm : (b1 ++ as ++ (pre ++ (a :: es) ++ post)).Perm (as ++ (pre ++ (a :: bs0) ++ post)) := by
    rw [List.perm_iff_count] at u4 x2 ⊢
    intro z
    have g1 := u4 z
    have g2 := x2 z
    simp only [List.count_append, List.count_cons, List.cons_append, List.nil_append] at g1 g2 ⊢
    omega
  have m : Mono (inX Y (as ++ (pre ++ (a :: bs0) ++ post))) H (inX Y (b1 ++ as ++ (pre ++ (a :: es) ++ post))) H := mono_sub fun z hz => pm.mem_iff.mp hz
  have q5 := (q4 _ _ m fun _ _ => rfl).2 (.own (ds.set j (.raw u))) (V.ref a) (a :: es) (by
    unfold Own
    exact ⟨a, vs, es, rfl, qa, Owns.mono _ ⟨m, fun _ _ => rfl⟩ x1, rfl⟩)
  rw [set_same q1] at q5
  refine ⟨a, vs, u, q1, qa, qo.len, u1, b1 ++ as, pre ++ (a :: es) ++ post, ?_, q5, pm.nodup_iff.mpr h3, fun z hz => h4 z (pm.mem_iff.mp hz), h5, h6⟩
  unfold Owns
  exact ⟨u, t, b1, as, rfl, Own.mono x ⟨m, fun _ _ => rfl⟩ u2, Owns.mono T ⟨m, fun _ _ => rfl⟩ h1, rfl⟩
/-- .. and put back -/
theorem Rel.putBack {i j : Nat} {ds : List D} {x : D} {u : V} (r : Rel K Y H0 io (x :: T) (u :: t) e s H) (hi : e[i]? = some (some (.own ds))) (hj : ds[j]? = some (.raw u)) : Rel K Y H0 io T t (e.set i (some (.own (ds.set j x)))) s H := by
  obtain ⟨as0, cs, h1, h2, h3, h4, h5, h6⟩ := r
  unfold Owns at h1
  obtain ⟨v', r', b1, as, e1, o1, o2, ea⟩ := h1
  cases e1; subst ea
  obtain ⟨v, pre, b0, post, q1, q2, q3, q4⟩ := Cells.focus e i h2 hi
  subst q3
  unfold Own at q2
  obtain ⟨a, vs, bs0, ev, qa, qo, eb⟩ := q2
  subst ev eb
  obtain ⟨w, b2, c1, u1, u2, u3, u4, u5⟩ := Owns.at qo hj
  obtain ⟨u6, u7⟩ := u2.rep (fun _ z => nomatch z)
  unfold Rep at u6
  subst u6 u7
  obtain ⟨es, x1, x2⟩ := u5 x w b1 o1
  rw [set_same u1] at x1
  have pm : (as ++ (pre ++ (a :: es) ++ post)).Perm (b1 ++ as ++ (pre ++ (a :: bs0) ++ post)) := by
    rw [List.perm_iff_count] at u4 x2 ⊢
    intro z
    have g1 := u4 z
    have g2 := x2 z
    simp only [List.count_append, List.count_cons, List.cons_append, List.nil_append] at g1 g2 ⊢
    omega
  have m : Mono (inX Y (b1 ++ as ++ (pre ++ (a :: bs0) ++ post))) H (inX Y (as ++ (pre ++ (a :: es) ++ post))) H := mono_sub fun z hz => pm.mem_iff.mp hz
  have q5 := (q4 _ _ m fun _ _ => rfl).2 (.own (ds.set j x)) (V.ref a) (a :: es) (by
    unfold Own
    exact ⟨a, vs, es, rfl, qa, Owns.mono _ ⟨m, fun _ _ => rfl⟩ x1, rfl⟩)
  rw [set_same q1] at q5
  exact ⟨as, pre ++ (a :: es) ++ post, Owns.mono T ⟨m, fun _ _ => rfl⟩ o2, q5, pm.nodup_iff.mpr h3, fun z hz => h4 z (pm.mem_iff.mp hz), h5, h6⟩
/-- the top temp appended to the list in a slot -/
theorem Rel.app {i : Nat} {ds : List D} {y : D} {vy : V} (r : Rel K Y H0 io (y :: T) (vy :: t) e s H) (hi : e[i]? = some (some (.own ds))) :
    ∃ a vs, s[i]? = some (some (V.ref a)) ∧ H a = some (.lst vs) ∧ vs.length = ds.length ∧ Rel K Y H0 io T t (e.set i (some (.own (ds ++ [y])))) s (upd H a (.lst (vs ++ [vy]))) := by
  obtain ⟨a, vs, P, bs, aa, e1, ha, o1, o2, nd, g⟩ := Rel.mut (A := [y]) (va := [vy]) rfl r hi
  obtain ⟨w, ew, q1⟩ := owns1' o2
  cases ew
  exact ⟨a, vs, e1, ha, o1.len, g (ds ++ [y]) (vs ++ [vy]) [] [] (bs ++ aa) [] (Owns.join ds o1 (owns1 q1)) (by unfold Owns; exact ⟨rfl, rfl⟩) (by simpa using (List.perm_append_comm.nodup_iff).mp nd) fun x hx => by
    simp at hx ⊢; exact hx.symm⟩
/-- .. put at a place of it -/
theorem Rel.setAt {i j : Nat} {ds : List D} {y : D} {vy : V} (r : Rel K Y H0 io (y :: T) (vy :: t) e s H) (hi : e[i]? = some (some (.own ds))) (hj : j < ds.length) :
    ∃ a vs, s[i]? = some (some (V.ref a)) ∧ H a = some (.lst vs) ∧ vs.length = ds.length ∧ Rel K Y H0 io T t (e.set i (some (.own (ds.set j y)))) s (upd H a (.lst (vs.set j vy))) := by
  obtain ⟨a, vs, P, bs, aa, e1, ha, o1, o2, nd, g⟩ := Rel.mut (A := [y]) (va := [vy]) rfl r hi
  obtain ⟨w, ew, q1⟩ := owns1' o2
  cases ew
  obtain ⟨u, b1, c1, u1, u2, u3, u4, u5⟩ := Owns.at o1 (List.getElem?_eq_getElem hj)
  obtain ⟨es, x1, x2⟩ := u5 y vy aa q1
  have sub : ∀ x ∈ es, x ∈ aa ++ bs := fun x hx => by
    have := x2.mem_iff.mp hx
    simp at this ⊢
    rcases this with z | z
    · exact .inl z
    · exact .inr (u4.mem_iff.mpr (by simp [z]))
  have nd2 : es.Nodup := by
    refine x2.nodup_iff.mpr ?_
    obtain ⟨n1, n2, n3⟩ := List.nodup_append.mp nd
    have n4 := (List.nodup_append.mp (u4.nodup_iff.mp n2)).2.1
    exact List.nodup_append.mpr ⟨n1, n4, fun x hx z hz => n3 x hx z (u4.mem_iff.mpr (by simp [hz]))⟩
  exact ⟨a, vs, e1, ha, o1.len, g (ds.set j y) (vs.set j vy) [] [] es [] x1 (by unfold Owns; exact ⟨rfl, rfl⟩) (by simpa using nd2) fun x hx => by simp at hx; exact sub x hx⟩
/-- an item taken away, on top -/
theorem Rel.erase {i j : Nat} {ds : List D} {y : D} (r : Rel K Y H0 io T t e s H) (hi : e[i]? = some (some (.own ds))) (hj : ds[j]? = some y) :
    ∃ a vs vy, s[i]? = some (some (V.ref a)) ∧ H a = some (.lst vs) ∧ vs.length = ds.length ∧ vs[j]? = some vy ∧ Rel K Y H0 io (y :: T) (vy :: t) (e.set i (some (.own (ds.eraseIdx j)))) s (upd H a (.lst (vs.eraseIdx j))) := by
  obtain ⟨a, vs, P, bs, aa, e1, ha, o1, o2, nd, g⟩ := Rel.mut (A := []) (va := []) rfl r hi
  unfold Owns at o2
  rw [o2.2] at g nd
  obtain ⟨u, b1, c1, u1, u2, u3, u4, u5⟩ := Owns.at o1 hj
  exact ⟨a, vs, u, e1, ha, o1.len, u1, g (ds.eraseIdx j) (vs.eraseIdx j) [y] [u] c1 b1 u3 (owns1 u2) (u4.nodup_iff.mp (by simpa using nd)) fun x hx => by simpa using u4.mem_iff.mpr hx⟩
/-- the items of the owned list on top appended -/
theorem Rel.ext {i : Nat} {ds zs : List D} {u : V} (r : Rel K Y H0 io (.own zs :: T) (u :: t) e s H) (hi : e[i]? = some (some (.own ds))) :
    ∃ a vs b ws, u = V.ref b ∧ H b = some (.lst ws) ∧ ws.length = zs.length ∧ s[i]? = some (some (V.ref a)) ∧ H a = some (.lst vs) ∧ vs.length = ds.length ∧ Rel K Y H0 io T t (e.set i (some (.own (ds ++ zs)))) s (upd H a (.lst (vs ++ ws))) := by
  obtain ⟨a, vs, P, bs, aa, e1, ha, o1, o2, nd, g⟩ := Rel.mut (A := [.own zs]) (va := [u]) rfl r hi
  obtain ⟨w, ew, q1⟩ := owns1' o2
  cases ew
  obtain ⟨b, ws, cs, rfl, hb, q2, rfl⟩ := q1.own
  refine ⟨a, vs, b, ws, rfl, hb, q2.len, e1, ha, o1.len, g (ds ++ zs) (vs ++ ws) [] [] (bs ++ cs) [] (Owns.join ds o1 q2) (by unfold Owns; exact ⟨rfl, rfl⟩) ?_ fun x hx => ?_⟩
  · rw [List.nil_append]
    rw [List.cons_append] at nd
    exact (List.perm_append_comm.nodup_iff).mp (List.nodup_cons.mp nd).2
  · simp at hx ⊢
    rcases hx with z | z <;> simp [z]
/-! ### statements and expressions that change a slot's list -/
def ownAt (e : Env) (i : Nat) : Option (List D) := match e[i]? with
  | some (some (.own ds)) => some ds
  | _ => none
theorem ownAt_eq {i : Nat} {ds : List D} (h : ownAt e i = some ds) : e[i]? = some (some (.own ds)) := by
  unfold ownAt at h
  cases q : e[i]? with
  | none => rw [q] at h; cases h
  | some o =>
    cases o with
    | none => rw [q] at h; cases h
    | some d => cases d <;> rw [q] at h <;> first | (cases h; rfl) | cases h
theorem Rel.slotL {i : Nat} {ds : List D} (r : Rel K Y H0 io T t e s H) (h : ownAt e i = some ds) : ∃ a vs, s[i]? = some (some (V.ref a)) ∧ H a = some (.lst vs) ∧ vs.length = ds.length := by
  obtain ⟨a, vs, P, bs, aa, e1, ha, o1, _⟩ := Rel.mut (A := []) (va := []) rfl r (ownAt_eq h)
  exact ⟨a, vs, e1, ha, o1.len⟩
/-- name.append(e) -/
def mAppend (i : Nat) (m : ME) : ME := fun e => match ownAt e i with
  | none => .err
  | some _ => (m e).bind fun p => match ownAt p.2 i with
    | none => .err
    | some ds => if ds.length < sizeLine then .ok (.non, p.2.set i (some (.own (ds ++ [p.1])))) else .err
theorem sim_append {i : Nat} {te : TE} {m : ME} (h : SimE K mg W te m) : SimE K mg W (tBM K "list" rAppend (tVar i) (tCons te tNil)) (mAppend i m) := by
  intro Y H0 io T τ e s H Q r p
  unfold mAppend at p
  cases c : ownAt e i with
  | none => rw [c] at p; exact False.elim p
  | some ds0 =>
    rw [c] at p
    obtain ⟨a, vs, hs, ha, _⟩ := r.slotL c
    refine ⟨V.ref a, hs, .inl ⟨rfl, vs, SqL.of ha⟩, ?_⟩
    refine h.then r (P := PostE K mg W Y H0 io T τ s Q) p id postE_exc fun d e1 p v H1 r1 => ?_
    cases c1 : ownAt e1 i with
    | none => simp only [c1] at p; exact False.elim p
    | some ds =>
      simp only [c1] at p
      by_cases z : ds.length < sizeLine
      · rw [if_pos z] at p
        obtain ⟨a', vs', hs', ha', hl', r2⟩ := r1.app (ownAt_eq c1)
        rw [hs] at hs'; cases hs'
        exact ⟨a, vs', v, rfl, rfl, ha', by rw [hl']; exact z, p _ _ r2.non⟩
      · rw [if_neg z] at p; exact False.elim p
/-- name.pop() , name.pop(k) -/
def mPop (i : Nat) : ME := fun e => match ownAt e i with
  | none => .err
  | some ds => match ds[ds.length - 1]? with
    | none => .err
    | some y => .ok (y, e.set i (some (.own (ds.eraseIdx (ds.length - 1)))))
theorem eraseIdx_last {α : Type} (l : List α) : l.eraseIdx (l.length - 1) = l.dropLast := by
  rw [List.eraseIdx_eq_take_drop_succ, List.dropLast_eq_take, List.drop_eq_nil_of_le (by omega), List.append_nil]
theorem sim_pop {i : Nat} : SimE K mg W (tBM0 K "list" rPop (tVar i)) (mPop i) := by
  intro Y H0 io T τ e s H Q r p
  unfold mPop at p
  cases c : ownAt e i with
  | none => rw [c] at p; exact False.elim p
  | some ds =>
    rw [c] at p
    simp only at p
    cases c1 : ds[ds.length - 1]? with
    | none => rw [c1] at p; exact False.elim p
    | some y =>
      rw [c1] at p
      obtain ⟨a, vs, vy, hs, ha, hl, hy, r2⟩ := r.erase (ownAt_eq c) c1
      refine ⟨V.ref a, hs, .inl ⟨rfl, vs, SqL.of ha⟩, a, vs, vy, rfl, rfl, ha, by rw [hl]; exact hy, ?_⟩
      rw [← eraseIdx_last, hl]
      exact p _ _ r2
def mPopAt (i : Nat) (m : ME) : ME := fun e => match ownAt e i with
  | none => .err
  | some _ => (m e).bind fun p => match p.1, ownAt p.2 i with
    | .int k, some ds => match ixN ds.length k with
      | some j => match ds[j]? with
        | some y => if ds.length < 2 ^ 62 then .ok (y, p.2.set i (some (.own (ds.eraseIdx j)))) else .err
        | none => .err
      | none => .err
    | _, _ => .err
theorem sim_popAt {i : Nat} {te : TE} {m : ME} (h : SimE K mg W te m) : SimE K mg W (tBM K "list" rPopAt (tVar i) (tCons te tNil)) (mPopAt i m) := by
  intro Y H0 io T τ e s H Q r p
  unfold mPopAt at p
  cases c : ownAt e i with
  | none => rw [c] at p; exact False.elim p
  | some ds0 =>
    rw [c] at p
    obtain ⟨a, vs, hs, ha, _⟩ := r.slotL c
    refine ⟨V.ref a, hs, .inl ⟨rfl, vs, SqL.of ha⟩, ?_⟩
    refine h.then r (P := PostE K mg W Y H0 io T τ s Q) p id postE_exc fun d e1 p v H1 r1 => ?_
    obtain ⟨k, rfl⟩ : ∃ k, d = .int k := by cases d <;> first | exact ⟨_, rfl⟩ | exact False.elim p
    obtain rfl := r1.isInt
    cases c1 : ownAt e1 i with
    | none => simp only [c1] at p; exact False.elim p
    | some ds =>
      simp only [c1] at p
      cases c2 : ixN ds.length k with
      | none => simp only [c2] at p; exact False.elim p
      | some j =>
        simp only [c2] at p
        cases c3 : ds[j]? with
        | none => simp only [c3] at p; exact False.elim p
        | some y =>
          simp only [c3] at p
          by_cases z : ds.length < 2 ^ 62
          · rw [if_pos z] at p
            obtain ⟨a', vs', vy, hs', ha', hl, hy, r2⟩ := r1.pop.erase (ownAt_eq c1) c3
            rw [hs] at hs'; cases hs'
            obtain ⟨g1, g2, g3, g4⟩ := ixN_seq c2
            exact ⟨a, vs', k, j, vy, rfl, rfl, ha', by omega, by omega, by rw [hl]; exact g1, hy, p _ _ r2⟩
          · rw [if_neg z] at p; exact False.elim p
/-- name.extend(e), e a new list -/
def mExtend (i : Nat) (m : ME) : ME := fun e => match ownAt e i with
  | none => .err
  | some _ => (m e).bind fun p => match p.1, ownAt p.2 i with
    | .own zs, some ds => if ds.length + zs.length ≤ sizeLine then .ok (.non, p.2.set i (some (.own (ds ++ zs)))) else .err
    | _, _ => .err
theorem sim_extend {i : Nat} {te : TE} {m : ME} (h : SimE K mg W te m) : SimE K mg W (tBM K "list" rExtend (tVar i) (tCons te tNil)) (mExtend i m) := by
  intro Y H0 io T τ e s H Q r p
  unfold mExtend at p
  cases c : ownAt e i with
  | none => rw [c] at p; exact False.elim p
  | some ds0 =>
    rw [c] at p
    obtain ⟨a, vs, hs, ha, _⟩ := r.slotL c
    refine ⟨V.ref a, hs, .inl ⟨rfl, vs, SqL.of ha⟩, ?_⟩
    refine h.then r (P := PostE K mg W Y H0 io T τ s Q) p id postE_exc fun d e1 p v H1 r1 => ?_
    obtain ⟨zs, rfl⟩ : ∃ k, d = .own k := by cases d <;> first | exact ⟨_, rfl⟩ | exact False.elim p
    cases c1 : ownAt e1 i with
    | none => simp only [c1] at p; exact False.elim p
    | some ds =>
      simp only [c1] at p
      by_cases z : ds.length + zs.length ≤ sizeLine
      · rw [if_pos z] at p
        obtain ⟨a', vs', b, ws, rfl, hb, hlw, hs', ha', hl', r2⟩ := r1.ext (ownAt_eq c1)
        rw [hs] at hs'; cases hs'
        exact ⟨a, b, vs', ws, rfl, rfl, ha', hb, by rw [hl', hlw]; exact z, p _ _ r2.non⟩
      · rw [if_neg z] at p; exact False.elim p
/-- name[k] = e -/
def mSetIx (i : Nat) (m mk : ME) : MS := fun e => match m e with
  | .ok (d, e1) => match ownAt e1 i with
    | none => .err
    | some _ => match mk e1 with
      | .ok (.int k, e2) => match ownAt e2 i with
        | some ds => match ixN ds.length k with
          | some j => if j < ds.length then .nx (e2.set i (some (.own (ds.set j d)))) else .err
          | none => .err
        | none => .err
      | .exc c fs e' => .exc c fs e'
      | _ => .err
  | .exc c fs e' => .exc c fs e'
  | .err => .err
theorem sim_setIx {ios : List Nat} {i : Nat} {te tk : TE} {m mk : ME} (h : SimE K mg W te m) (hk : SimE K mg W tk mk) : SimS K mg W ios (tAsg te (gSub (tVar i) tk rSetL)) (mSetIx i m mk) := by
  intro Y H0 io T τ e s H D hio r p
  refine h Y H0 io T τ e s H _ r ?_
  unfold mSetIx at p
  cases c : m e with
  | err => rw [c] at p; exact p
  | exc c fs e' => rw [c] at p; exact fun cls dd H' x rl => p cls dd s H' x rl
  | ok z =>
    obtain ⟨d, e1⟩ := z
    rw [c] at p
    simp only at p
    intro v H1 r1
    cases c0 : ownAt e1 i with
    | none => rw [c0] at p; exact False.elim p
    | some ds0 =>
      rw [c0] at p
      simp only at p
      obtain ⟨a, vs0, hs, _, _⟩ := r1.slotL c0
      refine ⟨V.ref a, hs, ?_⟩
      refine hk Y H0 io _ _ e1 s H1 _ r1 ?_
      cases c2 : mk e1 with
      | err => rw [c2] at p; exact False.elim p
      | exc c fs e' => rw [c2] at p; exact fun cls dd H' x rl => p cls dd s H' x rl.pop
      | ok z =>
        obtain ⟨k, e2⟩ := z
        rw [c2] at p
        obtain ⟨k, rfl⟩ : ∃ j, k = .int j := by cases k <;> first | exact ⟨_, rfl⟩ | exact False.elim p
        simp only at p
        intro vk H2 r2
        obtain rfl := r2.isInt
        cases c3 : ownAt e2 i with
        | none => rw [c3] at p; exact False.elim p
        | some ds =>
          rw [c3] at p
          simp only at p
          cases c4 : ixN ds.length k with
          | none => rw [c4] at p; exact False.elim p
          | some j =>
            rw [c4] at p
            simp only at p
            by_cases hj : j < ds.length
            · rw [if_pos hj] at p
              obtain ⟨a', vs, hs', ha', hl', r3⟩ := r2.pop.setAt (ownAt_eq c3) hj
              rw [hs] at hs'; cases hs'
              exact ⟨a, vs, k, j, rfl, rfl, ha', by rw [hl']; exact c4, p _ _ r3⟩
            · rw [if_neg hj] at p; exact False.elim p
end
section
variable {X : Cx} {W : WX} {ios : List Nat} {pos p p2 : Pos} {a b : Expr} {ma mb : ME} {x : Str}
theorem de_slotIx (i : Nat) (hb : DE X W b mb) (hs : PlainIx b := by exact fun _ _ => rfl) (hN : X.N[i]? = some x := by rfl) (hv : Vis X.env.scope x := by first | exact Or.inl rfl | exact Or.inr (Or.inl rfl) | exact Or.inr (Or.inr rfl)) (hd : (x == ("__debug__" : Str)) = false := by decide)
    (hcd : (x == ("__classdict__" : Str)) = false := by decide) : DE X W (.Subscript (.Name x p) b pos) (mSlotIx i mb) := by
  obtain ⟨t, pb, s⟩ := hb
  exact ⟨_, pe_ix ix_seq (pe_var hN hv hd hcd) pb hs, sim_slotIx s⟩
theorem de_append (i : Nat) {apos : Pos} (ha : DE X W a ma) (hN : X.N[i]? = some x := by rfl) (hv : Vis X.env.scope x := by first | exact Or.inl rfl | exact Or.inr (Or.inl rfl) | exact Or.inr (Or.inr rfl)) (hd : (x == ("__debug__" : Str)) = false := by decide)
    (hcd : (x == ("__classdict__" : Str)) = false := by decide)
    (hbase : attributeBase (.Name x p) "append" X.env (eval (.Name x p) X.env) = eval (.Name x p) X.env := by rfl)
    (hfew : ((backTo pos (starEach (a :: []) X.env)).all (fun x => !x.1) && (backToKw pos (keywordEach [] X.env)).all (fun x => x.1.isSome)
      && decide ((a :: ([] : List Expr)).length + ([] : List Keyword).length + (if ([] : List Keyword).isEmpty then 0 else 1) < 30)) = true := by rfl)
    (hline : (apos.endLine == pos.line) = true := by rfl) (hs : starEach (a :: []) X.env = (false, eval a X.env) :: starEach [] X.env := by rfl) (hplain : (backTo pos (starEach [] X.env)).any (·.1) = false := by rfl) :
    DE X W (.Call (.Attribute (.Name x p) "append" apos) [a] [] pos) (mAppend i ma) := by
  obtain ⟨t, pa, s⟩ := ha
  exact ⟨_, pe_bm PySem.F.plainAttrs_list PySem.F.slot_list_append PySem.F.type_list_append mt_append (pe_var hN hv hd hcd) (pa_cons pa pa_nil hs) hbase hfew hline hs hplain, sim_append s⟩
theorem de_extend (i : Nat) {apos : Pos} (ha : DE X W a ma) (hN : X.N[i]? = some x := by rfl) (hv : Vis X.env.scope x := by first | exact Or.inl rfl | exact Or.inr (Or.inl rfl) | exact Or.inr (Or.inr rfl)) (hd : (x == ("__debug__" : Str)) = false := by decide)
    (hcd : (x == ("__classdict__" : Str)) = false := by decide)
    (hbase : attributeBase (.Name x p) "extend" X.env (eval (.Name x p) X.env) = eval (.Name x p) X.env := by rfl)
    (hfew : ((backTo pos (starEach (a :: []) X.env)).all (fun x => !x.1) && (backToKw pos (keywordEach [] X.env)).all (fun x => x.1.isSome)
      && decide ((a :: ([] : List Expr)).length + ([] : List Keyword).length + (if ([] : List Keyword).isEmpty then 0 else 1) < 30)) = true := by rfl)
    (hline : (apos.endLine == pos.line) = true := by rfl) (hs : starEach (a :: []) X.env = (false, eval a X.env) :: starEach [] X.env := by rfl) (hplain : (backTo pos (starEach [] X.env)).any (·.1) = false := by rfl) :
    DE X W (.Call (.Attribute (.Name x p) "extend" apos) [a] [] pos) (mExtend i ma) := by
  obtain ⟨t, pa, s⟩ := ha
  exact ⟨_, pe_bm PySem.F.plainAttrs_list PySem.F.slot_list_extend PySem.F.type_list_extend mt_extend (pe_var hN hv hd hcd) (pa_cons pa pa_nil hs) hbase hfew hline hs hplain, sim_extend s⟩
theorem de_popAt (i : Nat) {apos : Pos} (ha : DE X W a ma) (hN : X.N[i]? = some x := by rfl) (hv : Vis X.env.scope x := by first | exact Or.inl rfl | exact Or.inr (Or.inl rfl) | exact Or.inr (Or.inr rfl)) (hd : (x == ("__debug__" : Str)) = false := by decide)
    (hcd : (x == ("__classdict__" : Str)) = false := by decide)
    (hbase : attributeBase (.Name x p) "pop" X.env (eval (.Name x p) X.env) = eval (.Name x p) X.env := by rfl)
    (hfew : ((backTo pos (starEach (a :: []) X.env)).all (fun x => !x.1) && (backToKw pos (keywordEach [] X.env)).all (fun x => x.1.isSome)
      && decide ((a :: ([] : List Expr)).length + ([] : List Keyword).length + (if ([] : List Keyword).isEmpty then 0 else 1) < 30)) = true := by rfl)
    (hline : (apos.endLine == pos.line) = true := by rfl) (hs : starEach (a :: []) X.env = (false, eval a X.env) :: starEach [] X.env := by rfl) (hplain : (backTo pos (starEach [] X.env)).any (·.1) = false := by rfl) :
    DE X W (.Call (.Attribute (.Name x p) "pop" apos) [a] [] pos) (mPopAt i ma) := by
  obtain ⟨t, pa, s⟩ := ha
  exact ⟨_, pe_bm PySem.F.plainAttrs_list PySem.F.slot_list_pop PySem.F.type_list_pop mt_popAt (pe_var hN hv hd hcd) (pa_cons pa pa_nil hs) hbase hfew hline hs hplain, sim_popAt s⟩
theorem de_pop (i : Nat) {apos : Pos} (hN : X.N[i]? = some x := by rfl) (hv : Vis X.env.scope x := by first | exact Or.inl rfl | exact Or.inr (Or.inl rfl) | exact Or.inr (Or.inr rfl)) (hd : (x == ("__debug__" : Str)) = false := by decide)
    (hcd : (x == ("__classdict__" : Str)) = false := by decide)
    (hbase : attributeBase (.Name x p) "pop" X.env (eval (.Name x p) X.env) = eval (.Name x p) X.env := by rfl) (hline : (apos.endLine == pos.line) = true := by rfl) :
    DE X W (.Call (.Attribute (.Name x p) "pop" apos) [] [] pos) (mPop i) :=
  ⟨_, pe_bm0 PySem.F.plainAttrs_list PySem.F.slot_list_pop PySem.F.type_list_pop mt_pop (pe_var hN hv hd hcd) hbase hline, sim_pop⟩
theorem ds_setIx (i : Nat) (ha : DE X W a ma) (hb : DE X W b mb) (hN : X.N[i]? = some x := by rfl) (hv : Vis X.env.scope x := by first | exact Or.inl rfl | exact Or.inr (Or.inl rfl) | exact Or.inr (Or.inr rfl)) (hd : (x == ("__debug__" : Str)) = false := by decide)
    (hcd : (x == ("__classdict__" : Str)) = false := by decide)
    (hasg : ∀ v, assign (.Subscript (.Name x p) b p2) X.env v = (do
      let ov ← holding [v] (eval (.Name x p) X.env)
      let iv ← holding [v, ov] (eval b X.env)
      standAt p2
      holding [v, ov, iv] (setItem ov iv v)
      release [v, ov, iv] []) := by intro _; rfl)
    (hs : swapsWithSole [.Subscript (.Name x p) b p2] a pos.line X.env = pure false := by rfl) (hw : swappedStores [.Subscript (.Name x p) b p2] a X.env = pure none := by rfl)
    (h1 : (assignEach [.Subscript (.Name x p) b p2] X.env).map (·.2) = [assign (.Subscript (.Name x p) b p2) X.env] := by rfl) :
    DS X W ios (.Assign [.Subscript (.Name x p) b p2] a pos) (mSetIx i ma mb) := by
  obtain ⟨t, pa, s⟩ := ha
  obtain ⟨t2, pb, s2⟩ := hb
  exact ⟨_, ps_asg pa (pg_sub (pe_var hN hv hd hcd) pb set_list hasg) hs hw h1, sim_setIx s s2⟩
end
end Mi
namespace Mi
open PySem PySem.Spec PyProof.Rows L2

/-! ### defs that change their first argument, a list -/
section
variable {K : PySem.W.Frag} {mg : Str → Option Value} {W : WX} {Y P : Addr → Prop} {H0 H H' : Hp} {io : List (Nat × Addr)} {T : List D} {t : List V} {e : Env} {s : St} {d : D} {v : V}
theorem Rel.startO {a : Addr} {ws us : List V} {xs ds : List D} {N : List Str} (ha : H a = some (.lst ws)) (np : ¬ P a) (hx : Reps K (fun b => b = a ∨ P b) H xs ws) (h : Reps K (fun b => b = a ∨ P b) H ds us) (hm : Mut' P H) :
    Rel K P H [(0, a)] [] [] (envOf N.length (.own xs :: ds)) (L2.start N (V.ref a :: us)) H := by
  have m : Mono (fun b => b = a ∨ P b) H (inX P ([] ++ [a])) H := mono_to fun b z => z.imp (fun z => by simpa using z) id
  refine ⟨[], [a], by unfold Owns; exact ⟨rfl, rfl⟩, ?_, by simp, fun b hb => .inr (by simpa using hb), fun b o e => ⟨fun _ => e, o, e⟩, fun p hp => ?_, fun b hb => ⟨hm b hb, fun z => ?_⟩⟩
  · unfold envOf L2.start
    rw [List.map_cons, List.map_cons, List.cons_append, List.cons_append]
    unfold Cells
    refine ⟨V.ref a, _, [a], [], rfl, ?_, ?_, by simp⟩
    · unfold Own
      exact ⟨a, ws, [], rfl, ha, Owns.of (Reps.mono m xs hx), rfl⟩
    · have e1 : N.length - (V.ref a :: us).length = N.length - (D.own xs :: ds).length := by rw [List.length_cons, List.length_cons, h.len]
      rw [e1]
      exact Cells.args _ (Reps.mono m ds h)
  · obtain rfl : p = (0, a) := by simpa using hp
    exact ⟨rfl, by unfold L2.start; simp⟩
  · obtain rfl : b = a := by simpa using z
    exact np hb
theorem Rel.retO {a : Addr} {ys : List D} (r : Rel K P H0 [(0, a)] [d] [v] e s H) (he : e[0]? = some (some (.own ys))) (hy : plains ys = true) :
    (∀ b o, H0 b = some o → b ≠ a → H b = some o) ∧ ∃ ws, H a = some (.lst ws) ∧ RetO K (fun b => b = a ∨ P b) H0 d v ys ws H := by
  obtain ⟨as, bs, h1, h2, h3, h4, h5, h6⟩ := r
  obtain ⟨hs0, hs⟩ := h6.1 (0, a) (by simp)
  obtain ⟨u, pre, b, post, q1, q2, q3, _⟩ := Cells.focus e 0 h2 he
  rw [hs] at q1
  cases q1
  unfold Own at q2
  obtain ⟨a', ws, cs, ea, qa, qo, eb⟩ := q2
  cases ea
  obtain ⟨w1, w2⟩ := Owns.reps hy qo
  subst w2 eb
  have hab : a ∈ bs := by rw [q3]; simp
  unfold Owns at h1
  obtain ⟨v', r', b1, c1, e1, o1, o2, ea⟩ := h1
  cases e1
  unfold Owns at o2
  rw [o2.2, List.append_nil] at ea
  subst ea
  have m : Mono (inX P (as ++ bs)) H (inX (fun b => b = a ∨ P b) as) H := mono_to fun z hz => by
    rcases hz with z | z | z
    · exact .inl (List.mem_append_left _ z)
    · exact .inl (List.mem_append_right _ (z ▸ hab))
    · exact .inr z
  refine ⟨fun b o eb nb => (h5 b o eb).1 (by simpa using nb), ws, qa, as, (List.nodup_append.mp h3).1, fun x hx => (h4 x (List.mem_append_left _ hx)).resolve_right fun z => ?_, Own.mono d ⟨m, fun _ _ => rfl⟩ o1, Reps.mono m ys w1⟩
  obtain rfl : x = a := by simpa using z
  exact (List.nodup_append.mp h3).2.2 x hx x hab rfl
theorem Rel.callO {i : Nat} {ds xs : List D} {us : List V} (hl : us.length = ds.length) (r : Rel K Y H0 io (ds ++ T) (us ++ t) e s H) (hi : e[i]? = some (some (.own xs))) (hx : plains xs = true) :
    ∃ a ws P, s[i]? = some (some (V.ref a)) ∧ H a = some (.lst ws) ∧ ¬ P a ∧ Reps K (fun b => b = a ∨ P b) H xs ws ∧ Reps K (fun b => b = a ∨ P b) H (frzs ds) us ∧ Mut' P H ∧
      ∀ d v H' ys ws', (∀ b o, H b = some o → b ≠ a → H' b = some o) → H' a = some (.lst ws') → RetO K (fun b => b = a ∨ P b) H d v ys ws' H' →
        Rel K Y H0 io (d :: T) (v :: t) (e.set i (some (.own ys))) s H' := by
  obtain ⟨as, bs, h1, h2, h3, h4, h5, h6⟩ := r.frzA hl
  obtain ⟨v1, v2, a1, a2, e1, e2, e3, q1, q2⟩ := Owns.split (frzs ds) h1
  obtain ⟨e4, e5⟩ := List.append_inj e1 (by rw [hl, e3, frzs_length])
  subst e4 e5
  obtain ⟨q3, q4⟩ := Owns.reps (plains_frz ds) q1
  have e6 : as = a2 := by rw [e2, q4]; rfl
  subst e6
  obtain ⟨u, pre, b, post, f1, f2, f3, f4⟩ := Cells.focus e i h2 hi
  subst f3
  unfold Own at f2
  obtain ⟨a, ws, cs, ea, qa, qo, eb⟩ := f2
  subst ea
  obtain ⟨w1, w2⟩ := Owns.reps hx qo
  subst w2 eb
  have there : ∀ x ∈ as ++ (pre ++ [a] ++ post), ∃ ws, H x = some (.lst ws) := fun x hx => (List.mem_append.mp hx).elim (Owns.there _ h1 x) (Cells.there _ h2 x)
  have na : a ∉ as ++ (pre ++ post) := fun z => by
    have p0 : (as ++ (pre ++ [a] ++ post)).Perm (a :: (as ++ (pre ++ post))) := by
      rw [List.perm_iff_count]
      intro x
      simp only [List.count_append, List.count_cons, List.cons_append, List.count_nil]
      omega
    exact (List.nodup_cons.mp (p0.nodup_iff.mp h3)).1 z
  have iffP : ∀ x, inX Y (as ++ (pre ++ [a] ++ post)) x ↔ (x = a ∨ inX Y (as ++ (pre ++ post)) x) := fun x => by
    unfold inX
    simp only [List.mem_append, List.mem_singleton]
    constructor
    · rintro ((z | (z | z) | z) | z)
      · exact .inr (.inl (.inl z))
      · exact .inr (.inl (.inr (.inl z)))
      · exact .inl z
      · exact .inr (.inl (.inr (.inr z)))
      · exact .inr (.inr z)
    · rintro (z | (z | z | z) | z)
      · exact .inl (.inr (.inl (.inr z)))
      · exact .inl (.inl z)
      · exact .inl (.inr (.inl (.inl z)))
      · exact .inl (.inr (.inr z))
      · exact .inr z
  have m1 : Mono (inX Y (as ++ (pre ++ [a] ++ post))) H (fun b => b = a ∨ inX Y (as ++ (pre ++ post)) b) H := mono_to fun x z => (iffP x).mpr z
  refine ⟨a, ws, inX Y (as ++ (pre ++ post)), f1, qa, fun z => ?_, Reps.mono m1 xs w1, Reps.mono m1 _ q3, fun x hx => ?_, fun d v H' ys ws' hs ha' ⟨zs, c1, c2, c3, hy⟩ => ?_⟩
  · rcases z with z | z
    · exact na z
    · exact noX h4 h6.2 a (by simp) z
  · rcases hx with z | z
    · obtain ⟨ws, q⟩ := there x (by simp at z ⊢; rcases z with z | z | z <;> simp [z])
      exact ⟨_, q, fun xs z => nomatch z⟩
    · obtain ⟨⟨o, q, nt⟩, ni⟩ := h6.2 x z
      exact ⟨o, (h5 x o q).1 ni, nt⟩
  · have nz : ∀ x ∈ zs, ∀ y ∈ as ++ (pre ++ [a] ++ post), x ≠ y := fun x hx y hy e => by
      subst e
      obtain ⟨ws, q⟩ := there x hy
      rw [c2 x hx] at q; cases q
    have m : Mono (inX Y (as ++ (pre ++ [a] ++ post))) H (inX Y (zs ++ as ++ (pre ++ [a] ++ post))) H' := ⟨fun x o ex nx => by
      have hxa : x ≠ a := fun z => nx (.inl (by rw [z]; simp))
      refine ⟨hs x o ex hxa, fun z => ?_⟩
      rcases z with z | z
      · rw [List.append_assoc] at z
        rcases List.mem_append.mp z with z | z
        · rw [c2 x z] at ex; cases ex
        · exact nx (.inl z)
      · exact nx (.inr z), fun x o u ex => hs x _ ex fun z => by rw [z, qa] at ex; cases ex⟩
    have st : ∀ x ∈ as ++ (pre ++ [a] ++ post), x ≠ a → H' x = H x := fun x hx hn => by
      obtain ⟨ws, q⟩ := there x hx
      rw [q, hs x _ q hn]
    have neA : ∀ x ∈ as ++ (pre ++ post), x ≠ a := fun x hx z => na (z ▸ hx)
    have iff2 : ∀ x, inX Y (zs ++ as ++ (pre ++ [a] ++ post)) x → inX (fun b => b = a ∨ inX Y (as ++ (pre ++ post)) b) zs x := fun x z => by
      rcases z with z | z
      · rw [List.append_assoc] at z
        rcases List.mem_append.mp z with z | z
        · exact .inl z
        · exact .inr ((iffP x).mp (.inl z))
      · exact .inr (.inr (.inr z))
    have q5 := (f4 _ _ m fun x hx => st x (by simp at hx ⊢; rcases hx with z | z <;> simp [z]) (neA x (List.mem_append_right _ hx))).2 (.own ys) (V.ref a) [a] (by
      unfold Own
      refine ⟨a, ws', [], rfl, ha', Owns.of (Reps.mono (mono_to iff2) ys hy), rfl⟩)
    rw [set_same f1] at q5
    refine ⟨zs ++ as, pre ++ [a] ++ post, ?_, q5, ?_, fun x hx => ?_, fun b o eb => ?_, h6⟩
    · unfold Owns
      exact ⟨v, t, zs, as, rfl, Own.mono d ⟨mono_to iff2, fun _ _ => rfl⟩ c3, Owns.mono T ⟨m, fun x hx => st x (List.mem_append_left _ hx) (neA x (List.mem_append_left _ hx))⟩ q2, rfl⟩
    · rw [List.append_assoc]
      exact List.nodup_append.mpr ⟨c1, h3, fun x hx y hy => nz x hx y hy⟩
    · rw [List.append_assoc] at hx
      rcases List.mem_append.mp hx with z | z
      · refine .inl ?_
        cases q : H0 x with
        | none => rfl
        | some o =>
          obtain ⟨o', q'⟩ := (h5 x o q).2
          rw [c2 x z] at q'; cases q'
      · exact h4 x z
    · obtain ⟨z1, o', z2⟩ := h5 b o eb
      by_cases hb : b = a
      · subst hb
        refine ⟨fun ni => ?_, _, ha'⟩
        rcases h4 b (by simp) with y | y
        · rw [y] at eb; cases eb
        · exact absurd y ni
      · exact ⟨fun ni => hs b o (z1 ni) hb, o', hs b o' z2 hb⟩
end
theorem fn_okO {P : Program} {w : World} {K : PySem.W.Frag} {mg : Str → Option Value} {base : Heap} {x qual : Str} {st : Stmt} {f : Addr} {fd : FuncData} {N ps : List Str} {k : Nat} {m : MS} (F : Fun K x qual st f fd) (S : FnScope N ps (defScope st))
    (h : ∀ (cdv : Value) (A : Around) (outer : List PySem.Env) (s : Shared) (H : Hp) (E : XK), Room k (A.deeper (envOfC qual (defScope st) s.heap.objs.size f cdv)) →
      L2N.Takes (cxOf (L2N.CX P w) P w K mg base N qual (defScope st) f cdv A outer s H E) (fun cls d _ H => E cls d H) →
      DB (cxOf (L2N.CX P w) P w K mg base N qual (defScope st) f cdv A outer s H E) (fun cls d _ H => E cls d H) [0] (defBody st) m) :
    FnOk P w K mg base (L2N.CX P w) (k + 1) f fd ps (spO K ps.length (fnO N.length m)) := by
  obtain ⟨oc, od, kV, doc, pm, an, cdv, ct, osl, rfl, lk, hcd⟩ := F.ex
  refine fn_of lk hcd S (fun vs H Q E ⟨a, ws, us, xs, ds, P, e, hl, _, _, _, hr, _⟩ => by rw [e, List.length_cons, hr.len, hl]) fun A outer s H vs Q E hr ⟨a, ws, us, xs, ds, P', ev, hl, ha, np, hx, hrep, hm, hF⟩ => ?_
  subst ev
  obtain ⟨t, p, sm⟩ := h cdv A outer s H E hr (L2N.takes_of rfl rfl rfl rfl)
  refine ⟨t, p, sm P' H [(0, a)] [] [] (envOf N.length (.own xs :: ds)) (L2.start N (V.ref a :: us)) H _ (fun p hp => by simpa using congrArg Prod.fst (show p = (0, a) by simpa using hp)) (Rel.startO ha np hx hrep hm) ?_⟩
  have fin : ∀ (e' : Env) (d : D), (match (match (e' : List (Option D))[0]? with | some (some (D.own ys)) => if plains ys = true then Fo.ok d ys else .err | _ => .err) with
      | .ok d xs' => ∀ v H' ws', (∀ b o, H b = some o → b ≠ a → H' b = some o) → H' a = some (.lst ws') → RetO K (fun b => b = a ∨ P' b) H d v xs' ws' H' → Q v H'
      | .err => False) → ∀ v s' H', Rel K P' H [(0, a)] [d] [v] e' s' H' → Q v H' := fun e' d hq v s' H' r => by
    cases c : (e' : List (Option D))[0]? with
    | none => rw [c] at hq; exact hq.elim
    | some o =>
      cases o with
      | none => rw [c] at hq; exact hq.elim
      | some z =>
        cases z <;> rw [c] at hq <;> try exact hq.elim
        rename_i ys
        simp only at hq
        by_cases hy : plains ys = true
        · rw [if_pos hy] at hq
          obtain ⟨g1, ws', g2, g3⟩ := r.retO c hy
          exact hq v H' ws' g1 g2 g3
        · rw [if_neg hy] at hq; exact hq.elim
  unfold fnO at hF
  cases q : m (envOf N.length (.own xs :: ds)) with
  | nx e' =>
    rw [q] at hF
    exact fun s' H' r => fin e' .non hF _ s' H' r.non
  | rt d e' =>
    rw [q] at hF
    exact fun v s' H' r => fin e' d hF v s' H' r
  | exc c fs e' => rw [q] at hF; exact hF.elim
  | bk e' => rw [q] at hF; exact hF.elim
  | ct e' => rw [q] at hF; exact hF.elim
  | err => rw [q] at hF; exact hF.elim
def mCallO (F : MO) (i : Nat) (ma : MA) : ME := fun e => match ownAt e i with
  | none => .err
  | some _ => (ma e).bind fun p => match ownAt p.2 i with
    | none => .err
    | some xs => if plains xs = true then (match F xs (frzs p.1) with
      | .ok d ys => .ok (d, p.2.set i (some (.own ys)))
      | .err => .err) else .err
section
variable {K : PySem.W.Frag} {mg : Str → Option Value} {W : WX}
theorem sim_callO {i n : Nat} {F : MO} {t : TA} {ma : MA} (h : SimA K mg W t ma) (hn : ∀ e ds e', ma e = .ok (ds, e') → ds.length + 1 = n) : SimE K mg W (tCallS (spO K n F) (WE W) (tCons (tVar i) t)) (mCallO F i ma) := by
  intro Y H0 io T τ e s H Q r q
  unfold mCallO at q
  cases c : ownAt e i with
  | none => rw [c] at q; exact False.elim q
  | some xs0 =>
    rw [c] at q
    simp only at q
    obtain ⟨a, vs0, hs, _, _⟩ := r.slotL c
    refine ⟨V.ref a, hs, ?_⟩
    refine h Y H0 io T τ e s H _ r ?_
    cases c1 : ma e with
    | err => rw [c1] at q; exact q
    | exc c fs e' => rw [c1] at q; exact q
    | ok z =>
      obtain ⟨ds, e'⟩ := z
      rw [c1] at q
      intro us H' hl rl
      simp only [Rs.bind] at q
      cases c2 : ownAt e' i with
      | none => rw [c2] at q; exact False.elim q
      | some xs =>
        rw [c2] at q
        simp only at q
        by_cases hx : plains xs = true
        · rw [if_pos hx] at q
          obtain ⟨a', ws, P, g1, g2, g3, g4, g5, g6, g7⟩ := rl.callO hl (ownAt_eq c2) hx
          rw [hs] at g1; cases g1
          refine ⟨a, ws, us, xs, frzs ds, P, rfl, by rw [frzs_length]; exact hn e ds e' c1, g2, g3, g4, g5, g6, ?_⟩
          cases hf : F xs (frzs ds) with
          | err => rw [hf] at q; exact q
          | ok d ys =>
            rw [hf] at q
            exact fun v H2 ws' w1 w2 w3 => q v H2 (g7 d v H2 ys ws' w1 w2 w3)
        · rw [if_neg hx] at q; exact False.elim q
end
section
variable {X : Cx} {W : WX} {pos p p2 : Pos} {es : List Expr} {mas : MA}
theorem de_callO {k n : Nat} {f : Addr} {fd : FuncData} {ps : List Str} {F : MO} {x y : Str} (i : Nat) (hF : FnOk X.prog X.w X.K X.mg X.base (L2N.CX X.prog X.w) k f fd ps (spO X.K n F)) (hr : Room k X.A) (hm : X.mg x = some (.ref f)) (hk : PySem.W.keepIn X.K (.ref f) = true) (hb : Binds X.K fd ps [])
    (tk : L2N.Takes X W) (ha : DA X W es mas) (hn : ∀ e ds e', mas e = .ok (ds, e') → ds.length + 1 = n) (hN : X.N[i]? = some y := by rfl) (hv : Vis X.env.scope y := by first | exact Or.inl rfl | exact Or.inr (Or.inl rfl) | exact Or.inr (Or.inr rfl)) (hd : (y == ("__debug__" : Str)) = false := by decide)
    (hcd : (y == ("__classdict__" : Str)) = false := by decide) (hg : Gl X x := by rfl)
    (hdb : (x == ("__debug__" : Str)) = false := by decide) (he : starEach (.Name y p2 :: es) X.env = (false, eval (.Name y p2) X.env) :: starEach es X.env := by rfl) (hpl : (backTo pos (starEach es X.env)).any (·.1) = false := by rfl) :
    DE X W (.Call (.Name x p) (.Name y p2 :: es) [] pos) (mCallO F i mas) := by
  obtain ⟨t, pa, s⟩ := ha
  exact ⟨_, pe_callS hF hr hg hm hk hb (fun σ => L2N.passAt tk σ) (pa_cons (pe_var hN hv hd hcd) pa he) hdb he hpl, sim_callO s hn⟩
end
end Mi
namespace Mi
open PySem PySem.Spec PyProof.Rows L2

/-! ### raise -/
/-- an own class of error, straight or not under ValueError, without an __init__ -/
structure ExC (K : PySem.W.Frag) (mg : Str → Option Value) (x : Str) (C : Addr) : Prop where
  g : mg x = some (.ref C)
  x : PySem.W.excIn K C [.type "ValueError", .type "Exception", .type "BaseException", .type "object"] "ValueError.__new__" = true
  k : PySem.W.keepIn K (.ref C) = true
  b : PySem.W.subIn K (.ref C) (.type "BaseException") = some true
  t : PySem.W.typeIn K (.ref C) = some (.type "type")
section
variable {X : Cx} {W : WX} {ios : List Nat}
theorem ds_raise {x m : Str} {j : Nat} {C : Addr} {p p2 pos pos' : Pos} (tk : L2N.Takes X W) (E : ExC X.K X.mg x C) (hc : X.calm = true := by rfl) (hg : Gl X x := by rfl) (hdb : (x == ("__debug__" : Str)) = false := by decide) :
    DS X W ios (.Raise (some (.Call (.Name x p) [.Constant (.str m) j p2] [] pos)) none pos') (fun e => .exc x [] e) := by
  refine ⟨_, L2N.ps_raise hc tk (L2N.pmk_own PySem.F.excBase_ValueError E.x E.g E.k (raises_own E.b E.t) hg hdb), fun Y H0 io T τ e s H D hi r q => ?_⟩
  exact q (.ref C) none s H ⟨C, E.g, rfl, .inl ⟨rfl, rfl⟩⟩ r
/-- code that is never come to -/
theorem ds_never {st : Stmt} : DS X W ios st (fun _ => .err) := ⟨_, ps_never, fun _ _ _ _ _ _ _ _ _ _ _ q => q.elim⟩
theorem db_never {st : List Stmt} : DB X W ios st (fun _ => .err) := ⟨_, pss_never, fun _ _ _ _ _ _ _ _ _ _ _ q => q.elim⟩
/-! ### try -/
/-- an except suite: i is the slot of the exception's name -/
def DSu (X : Cx) (ios : List Nat) (i : Nat) (sts : List Stmt) (ms : Str → List (Str × Int) → MS) : Prop :=
  ∃ ts : Addr → Value → Option Addr → TS, (∀ (a : Addr) (oe : Obj) (cls : Value) (d : Option Addr) (pn : List (Addr × Obj)), L2N.Zn cls d oe → (∃ vs, oe.data = .fields vs) → PSs (X.suite a ((a, oe) :: pn)) sts (ts a cls d)) ∧
    ∀ a cls d c fs Y H0 io T τ e s H D, IoIn io ios → XR X.mg H c fs cls d → H a = none → e[i]? = some none → s[i]? = some (some (V.ref a)) → Rel X.K Y H0 io T τ e s H → PostS X.K X.mg W0 Y H0 io T τ D (ms c fs e) → ts a cls d D s H
def mTry (i : Nat) (names : List Str) (body : MS) (ms : Str → List (Str × Int) → MS) : MS := fun e => match body e with
  | .exc c fs e' => if names.contains c = true ∧ i < e'.length then (match ms c fs (e'.set i none) with
    | .nx e2 => .nx (e2.set i none)
    | .bk e2 => .bk (e2.set i none)
    | .ct e2 => .ct (e2.set i none)
    | .exc _ _ _ => .err
    | r => r) else .err
  | r => r
/-- every one of the names is caught by the clause's class -/
def CaughtBy (K : PySem.W.Frag) (mg : Str → Option Value) (c : Value) (names : List Str) : Prop := ∀ x ∈ names, ∀ C, mg x = some (.ref C) → PySem.W.exmOne K (.ref C) c = some true
theorem ds_try {i : Nat} {x n : Str} {c : Value} {names : List Str} {body suite : List Stmt} {b₀ : Stmt} {np pos pos' : Pos} {m : MS} {ms : Str → List (Str × Int) → MS} (hN : X.N.Nodup) (tk : L2N.Takes X W) (hc : Names X x c) (hC : CaughtBy X.K X.mg c names)
    (hb : ∀ (W : WX) (pn : List (Addr × Obj)) (xe : Value → Shared → Prop), L2N.Takes (X.tr pn xe) W → PassesOwn (model X.prog X.w) X.A X.env xe → DB (X.tr pn xe) W ios body m) (hsu : DSu X ios i (b₀ :: suite) ms)
    (hs : X.stack = X.env :: X.outer := by rfl) (hf : X.env.frame = some X.env.locals := by rfl) (h0 : i ≠ 0 := by decide) (hi : X.N[i]? = some n := by rfl) (hln : X.env.kindOf n = some .local := by rfl) :
    DS X W ios (.Try body [.ExceptHandler (some (.Name x np)) (some n) (b₀ :: suite) pos'] [] [] pos) (mTry i names m ms) := by
  obtain ⟨ts, t1, t2⟩ := hsu
  refine ⟨_, L2N.ps_try_as hs hf hN hi hln hc tk (tb := fun W => canS X.K X.mg W ios m) (fun W pn xe tk' ps => (hb W pn xe tk' ps).can) t1, fun Y H0 io T τ e s H D hio r q => ?_⟩
  refine ⟨Y, H0, io, T, τ, e, hio, r, ?_⟩
  unfold mTry at q
  cases c1 : m e with
  | nx e' => rw [c1] at q; exact q
  | rt d e' => rw [c1] at q; exact q
  | bk e' => rw [c1] at q; exact q
  | ct e' => rw [c1] at q; exact q
  | err => rw [c1] at q; exact q
  | exc k fs e' =>
    rw [c1] at q
    simp only at q
    by_cases z : names.contains k = true ∧ i < e'.length
    · rw [if_pos z] at q
      intro cls dd s' H' x r'
      obtain ⟨C, g1, g2, g3⟩ := id x
      refine ⟨true, by rw [g2]; exact hC k (by simpa using z.1) C g1, fun _ a ha => ?_, fun h => nomatch h⟩
      have r2 : Rel X.K Y H0 io T τ (e'.set i none) (s'.set i (some (V.ref a))) H' := r'.unset i _ fun p hp z => by
        obtain ⟨_, _, _, _, _, _, _, h6⟩ := r'
        rw [(h6.1 p hp).1] at z
        exact h0 z.symm
      have hlen : i < s'.length := by rw [r'.len]; exact z.2
      refine t2 a cls dd k fs Y H0 io T τ (e'.set i none) (s'.set i (some (V.ref a))) H' _ hio x ha (by rw [List.getElem?_set_self z.2]) (by rw [List.getElem?_set_self hlen]) r2 ?_
      have back : ∀ {e2 : Env} {s2 : St} {H2 : Hp} {T2 : List Mi.D} {t2 : List V}, Rel X.K Y H0 io T2 t2 e2 s2 H2 → Rel X.K Y H0 io T2 t2 (e2.set i none) (s2.set i none) H2 := fun r3 => r3.unset i none fun p hp w => by
        obtain ⟨_, _, _, _, _, _, _, h6⟩ := r3
        rw [(h6.1 p hp).1] at w
        exact h0 w.symm
      cases c2 : ms k fs (e'.set i none) with
      | nx e2 => rw [c2] at q; exact fun s2 H2 r3 => q _ _ (back r3)
      | bk e2 => rw [c2] at q; exact fun s2 H2 r3 => q _ _ (back r3)
      | ct e2 => rw [c2] at q; exact fun s2 H2 r3 => q _ _ (back r3)
      | rt d e2 => rw [c2] at q; exact q
      | exc c fs e2 => rw [c2] at q; exact q.elim
      | err => rw [c2] at q; exact q
    · rw [if_neg z] at q; exact q.elim
end

/-! ### defs called where an exception is handled -/
structure FnHx (P : Program) (w : World) (K : PySem.W.Frag) (mg : Str → Option Value) (base : Heap) (CX : CXT) (k : Nat) (f : Addr) (fd : FuncData) (ps : List Str) (sp : Addr → Value → Option Addr → Sp) : Prop where
  len : ∀ a c d vs H Q E, sp a c d vs H Q E → vs.length = ps.length
  run : ∀ (A : Around) (outer : List PySem.Env) (s : Shared) (H : Hp) (args : Args) (us : List Value) (vs : List V) (Q : VK) (E : XK) (p : Addr × Obj) (c : Value) (d : Option Addr), L2H.RoomH k A → L2H.Hot1 A p → L2H.PinOk outer H s p → L2N.Zn c d p.2 → (∃ vs, p.2.data = .fields vs) → Env0 P w K mg base A outer s H → BindsTo s fd args (ps.zip us) → Vals vs us → sp p.1 c d vs H Q E →
    codeAny (model P w) A (.call (.ref f) args) (CR CX outer P w H s Q E) s
theorem fn_ofHx {CX : CXT} {P : Program} {w : World} {K : PySem.W.Frag} {mg : Str → Option Value} {base : Heap} {k : Nat} {f : Addr} {name qual : Str} {params : Arguments} {body : List Stmt} {scope : Scope} {dV kV doc pm cdv ct oc : Value} {an od : Option Addr}
    {osl : Array (Option Value)} {N ps : List Str} {sp : Addr → Value → Option Addr → Sp} (lk : K.lookup f = some ⟨oc, od, .func (PySem.W.fnOf name qual params body scope dV kV doc pm an cdv ct), osl⟩) (hcd : PySem.W.codeIn K cdv qual = true) (S : FnScope N ps scope)
    (len : ∀ a c d vs H Q E, sp a c d vs H Q E → vs.length = ps.length)
    (hbody : ∀ (A : Around) (outer : List PySem.Env) (s : Shared) (H : Hp) (vs : List V) (Q : VK) (E : XK) (p : Addr × Obj) (c : Value) (d : Option Addr), L2H.Hot1 A p → L2N.Zn c d p.2 → (∃ vs, p.2.data = .fields vs) → L2H.RoomH k (A.deeper (envOfC qual scope s.heap.objs.size f cdv)) → sp p.1 c d vs H Q E →
      ∃ t, PSs (L2H.cxH CX P w K mg base N qual scope f cdv A outer s H E p) body t ∧ t { nx := fun _ H' => Q .non H', rt := Q } (L2.start N vs) H) :
    FnHx P w K mg base CX (k + 1) f (PySem.W.fnOf name qual params body scope dV kV doc pm an cdv ct) ps sp := by
  refine ⟨len, fun A outer s H args us vs Q E p c d hr hot hpin hz hf e0 hb r hsp => ?_⟩
  have hl := len _ _ _ _ _ _ _ hsp
  have KX : K.In s.heap := e0.mod.kin.keeps fun b o e => (e0.bs b o e).1
  have lim : s.heap.NoLimit := e0.mod.nolimit.keeps fun b o e => (e0.bs b o e).1
  have hkind : ∀ y ∈ ps.zip us, scope.names.lookup y.1 = some .local ∨ (scope.names.lookup y.1 = some .cell ∧ ((cellsFrom (s.heap.objs.size + 1) scope.names []).lookup y.1).isSome = true) := fun ⟨n, v⟩ hy => by
    rcases S.par n (List.of_mem_zip hy).1 with q | q
    · exact .inl q
    · exact .inr ⟨q, PySem.W.cellsFrom_some _ _ _ (.inl q)⟩
  refine codeAny_call_function hr.depth (KX _ _ lk) rfl S.co S.gen rfl (PySem.W.codeRec_of KX hcd) (hb _ _ _ _ ?_)
  refine wpAny_newFunctionEnv_cells S.kind hkind fun env he s1 x => ?_
  subst he
  refine ⟨lim.keeps x.toInCall.keep, codeAny_func ?_⟩
  obtain ⟨t, ht, hq⟩ := hbody A outer s H vs Q E p c d hot hz hf (hr.deeper _) hsp
  have I : Inv (L2H.cxH CX P w K mg base N qual scope f cdv A outer s H E p) [] (L2.start N vs) H s1 := L2H.inv_startH S hpin e0 hl r x
  refine wpAny_mono (ht.run [] s1 (L2.start N vs) H _ I hq) (fun fl s' hs => ?_) fun e s' hs => hs
  have fin : ∀ {σ' : L2.St} {H' : Hp} {v : V} {u : Value}, Inv (L2H.cxH CX P w K mg base N qual scope f cdv A outer s H E p) [] σ' H' s' → RelV v u → Q v H' → CE outer P w H s Q u s' :=
    fun {σ' H' v u} J rv q => ⟨v, H', J.os, J.bare, J.base, J.hok, rv, q⟩
  cases fl with
  | ret u =>
    obtain ⟨v, σ', H', J, rv, q⟩ := hs
    exact fin J rv q
  | next =>
    obtain ⟨σ', H', J, q⟩ := hs
    exact fin (v := V.non) (u := Value.none) J rfl q
  | brk =>
    obtain ⟨_, _, _, q⟩ := hs
    exact False.elim q
  | cont =>
    obtain ⟨_, _, _, q⟩ := hs
    exact False.elim q
section
variable {X : Cx} {CX : CXT} {k : Nat} {f C : Addr} {fd : FuncData} {ps : List Str} {sp : Addr → Value → Option Addr → Sp} {E : St → XK} {x m : Str} {q pos apos : Pos} {e o : Expr} {es : List Expr} {ta : TE} {t : TA}
theorem run_fnHx {pins : List (Addr × Obj)} {σ : L2.St} {H : Hp} {s : Shared} {Q : VK} {us : List Value} {vs : List V} {p : Addr × Obj} {c : Value} {d : Option Addr} (F : FnHx X.prog X.w X.K X.mg X.base CX k f fd ps sp) (hr : L2H.RoomH k X.A) (hot : L2H.Hot1 X.A p) (hp : p ∈ X.pn) (hz : L2N.Zn c d p.2) (hf : ∃ vs, p.2.data = .fields vs)
    (hb : Binds X.K fd ps []) (hx : PassesAt CX X σ (E σ))
    (I : Inv X pins σ H s) (r : Vals vs us) (h : sp p.1 c d vs H Q (E σ)) : wpAny (model X.prog X.w) X.A (call (.ref f) us) (EP X pins σ Q) X.xe s := by
  have hl : us.length = ps.length := by rw [← r.length]; exact F.len _ _ _ _ _ _ _ h
  have b := hb s us I.kIn (by rw [List.append_nil]; exact hl)
  rw [List.append_nil] at b
  have P1 := I.pin p (List.mem_append_left _ hp)
  have hpin : L2H.PinOk X.stack H s p := ⟨P1.1, P1.2.1, fun hm => (List.mem_cons.mp (I.stkSub p.1 hm)).elim P1.2.2.1 P1.2.2.2.1, P1.2.2.2.2⟩
  refine wpAny_call (codeAny_mono (F.run X.A X.stack s H ⟨us, []⟩ us vs Q (E σ) p c d hr hot hpin hz hf I.env0 b r h) fun r s' hq => ?_)
  cases r with
  | error e => exact hx pins H s e s' I hq
  | ok fl =>
    cases fl with
    | ret u => exact I.after hq
    | next => exact False.elim hq
    | brk => exact False.elim hq
    | cont => exact False.elim hq
theorem pe_callHx {p : Addr × Obj} {c : Value} {d : Option Addr} (F : FnHx X.prog X.w X.K X.mg X.base CX k f fd ps sp) (hr : L2H.RoomH k X.A) (hot : L2H.Hot1 X.A p) (hp : p ∈ X.pn) (hz : L2N.Zn c d p.2) (hf : ∃ vs, p.2.data = .fields vs) (hg : Gl X x) (hm : X.mg x = some (.ref f)) (hk : PySem.W.keepIn X.K (.ref f) = true) (hb : Binds X.K fd ps []) (hx : ∀ σ, PassesAt CX X σ (E σ))
    (ha : PA X (e :: es) t) (hdb : (x == ("__debug__" : Str)) = false := by decide) (he : starEach (e :: es) X.env = (false, eval e X.env) :: starEach es X.env := by rfl) (hpl : (backTo pos (starEach es X.env)).any (·.1) = false := by rfl) :
    PE X (.Call (.Name x q) (e :: es) [] pos) (tCallS (sp p.1 c d) E t) := by
  refine ⟨fun pins s σ H Q I h => ?_⟩
  refine wpAny_Call_Name_kw (ld_glob I hg hm ?_ hdb)
  refine PySem.W.callWith_K (h₀ := X.base) I.ok.mod.kin hk (thn (ha.run pos pins s σ H _ I h) fun us s1 ⟨vs, H1, I1, r, q⟩ => ⟨I1.kIn, ?_⟩) he hpl
  exact run_fnHx F hr hot hp hz hf hb (hx σ) I1 r q
end
/-- the promise of a def that tells the error's class: kd, by the class's name -/
def spK (K : PySem.W.Frag) (mg : Str → Option Value) (kd : Str → Option Str) : Addr → Value → Option Addr → Sp := fun a cls d vs H Q _ => vs = [V.ref a] ∧ ∃ c C r, mg c = some (.ref C) ∧ cls = .ref C ∧ d = none ∧ kd c = some r ∧ ∀ H', Same H H' → Q (.str r) H'
theorem fn_okK {P : Program} {w : World} {K : PySem.W.Frag} {mg : Str → Option Value} {base : Heap} {x qual : Str} {st : Stmt} {f : Addr} {fd : FuncData} {N ps : List Str} {k : Nat} {kd : Str → Option Str} (F : Fun K x qual st f fd) (S : FnScope N ps (defScope st)) (h1 : ps.length = 1)
    (m : Str → Addr → MS) (hm : ∀ c r a, kd c = some r → fnM N.length (m c a) [.raw (V.ref a)] = .ok (.str r))
    (h : ∀ (cdv : Value) (A : Around) (outer : List PySem.Env) (s : Shared) (H : Hp) (E : XK) (p : Addr × Obj) (c : Str) (C : Addr), L2H.RoomH k (A.deeper (envOfC qual (defScope st) s.heap.objs.size f cdv)) → L2H.Hot1 A p → mg c = some (.ref C) → (kd c).isSome = true → L2N.Zn (.ref C) none p.2 → (∃ vs, p.2.data = .fields vs) →
      DB (L2H.cxH (L2N.CX P w) P w K mg base N qual (defScope st) f cdv A outer s H E p) W0 [] (defBody st) (m c p.1)) :
    FnHx P w K mg base (L2N.CX P w) (k + 1) f fd ps (spK K mg kd) := by
  obtain ⟨oc, od, kV, doc, pm, an, cdv, ct, osl, rfl, lk, hcd⟩ := F.ex
  refine fn_ofHx lk hcd S (fun a c d vs H Q E ⟨e, _⟩ => by rw [e, h1]; rfl) fun A outer s H vs Q E p c d hot hz hf hr ⟨ev, cn, C, r, g1, g2, g3, g4, q⟩ => ?_
  subst ev g2 g3
  obtain ⟨t, pt, sm⟩ := h cdv A outer s H E p cn C hr hot g1 (by rw [g4]; rfl) hz hf
  have rp : Reps K (fun _ => False) H [D.raw (V.ref p.1)] [V.ref p.1] := by
    unfold Reps
    exact ⟨_, _, rfl, by unfold Rep; rfl, by unfold Reps; rfl⟩
  refine ⟨t, pt, sm (fun _ => False) H [] [] [] (envOf N.length [D.raw (V.ref p.1)]) (L2.start N [V.ref p.1]) H _ (fun _ z => nomatch z) (Rel.start rp fun _ z => z.elim) ?_⟩
  have hm1 := hm cn r p.1 g4
  unfold fnM at hm1
  cases c1 : m cn p.1 (envOf N.length [D.raw (V.ref p.1)]) with
  | nx e' => rw [c1] at hm1; cases hm1
  | rt d e' =>
    rw [c1] at hm1
    cases hm1
    intro v s' H' rl
    obtain ⟨h2, _⟩ := rl.ret
    rw [rl.isStr]
    exact q H' h2
  | exc c fs e' => rw [c1] at hm1; cases hm1
  | bk e' => rw [c1] at hm1; cases hm1
  | ct e' => rw [c1] at hm1; cases hm1
  | err => rw [c1] at hm1; cases hm1
/-- isinstance(e, C) of the error that is handled -/
theorem call_isEp {X : Cx} {p : Addr × Obj} {D : Addr} (hp : p ∈ X.pn) (C : L2.ExcC X.K D) (hz : Zc (.ref D) none p.2) (hf : ∃ vs, p.2.data = .fields vs) : CallR X (.builtin "isinstance") (rIsE X.K D p.1) := by
  intro pins s σ H xs us Q I r h
  obtain ⟨c, cv, b, rfl, hcv, e, q⟩ := h
  cases r with
  | cons rx rr =>
    cases rr with
    | cons rt rr =>
      cases rr
      cases rx
      have ec := hcv _ rt
      subst ec
      obtain ⟨hget, _⟩ := I.pin p (List.mem_append.mpr (.inl hp))
      obtain ⟨vs, hv⟩ := hf
      have J : PySem.W.InstAt s.heap p.1 p.2 D none := by
        obtain ⟨a, oe⟩ := p
        obtain ⟨oc, od, oda, osl⟩ := oe
        obtain ⟨h1, h2⟩ := hz
        dsimp only at h1 h2 hv
        subst h1 h2 hv
        exact ⟨hget, rfl, rfl, trivial⟩
      exact PySem.W.kia_one (PySem.W.handS_kitx_exc C.hg C.hk C.hs C.hd C.ha C.hn C.ht C.hm) I.kIn J e (fun z => nomatch z) fun tk => ⟨.bl b, H, I.kept (t' := tk) fun _ _ z => z, rfl, q⟩
def mIsE (i : Nat) (a : Addr) (b : Bool) : ME := fun e => match e[i]? with
  | some (some (.raw v)) => if v = V.ref a then .ok (.bl b, e) else .err
  | _ => .err
theorem de_isE {X : Cx} {W : WX} {pos q q2 : Pos} {p : Addr × Obj} {D : Addr} {c : Expr} {cv : Value} {cV : V} {b : Bool} {x : Str} (i : Nat) (B : BI X.mg) (hp : p ∈ X.pn) (C : L2.ExcC X.K D) (hz : Zc (.ref D) none p.2) (hf : ∃ vs, p.2.data = .fields vs)
    (hc : PE X c (tC cV)) (hcv : ∀ u, RelV cV u → u = cv) (hk : PySem.W.kitOne X.K (.ref D) cv = some b)
    (hN : X.N[i]? = some x := by rfl) (hv : Vis X.env.scope x := by first | exact Or.inl rfl | exact Or.inr (Or.inl rfl) | exact Or.inr (Or.inr rfl)) (hd : (x == ("__debug__" : Str)) = false := by decide)
    (hcd : (x == ("__classdict__" : Str)) = false := by decide) (hg : Gl X "isinstance" := by rfl) (he : starEach (.Name x q2 :: [c]) X.env = (false, eval (.Name x q2) X.env) :: starEach [c] X.env := by rfl) (he2 : starEach (c :: []) X.env = (false, eval c X.env) :: starEach [] X.env := by rfl)
    (hpl : (backTo pos (starEach [c] X.env)).any (·.1) = false := by rfl) : DE X W (.Call (.Name "isinstance" q) [.Name x q2, c] [] pos) (mIsE i p.1 b) := by
  refine ⟨_, pe_callB (call_isEp hp C hz hf) hg B.isi PyProof.Rows.boot_isinstance (pa_cons (pe_var hN hv hd hcd) (pa_cons hc pa_nil he2) he) (by decide) (by decide) he hpl, fun Y H0 io T τ e s H Q r q => ?_⟩
  unfold mIsE at q
  cases c1 : e[i]? with
  | none => rw [c1] at q; exact q.elim
  | some o =>
    cases o with
    | none => rw [c1] at q; exact q.elim
    | some z =>
      cases z <;> rw [c1] at q <;> try exact q.elim
      rename_i v
      simp only at q
      by_cases hv : v = V.ref p.1
      · rw [if_pos hv] at q
        obtain ⟨u, hu, r2⟩ := r.get c1 rfl
        obtain rfl := r2.isRaw
        subst hv
        exact ⟨_, hu, cV, cv, b, rfl, hcv, hk, q _ _ r.bl⟩
      · rw [if_neg hv] at q; exact q.elim
/-! ### x.count(y), x.index(y), flat items -/
def flatD : D → Bool
  | .non => true | .bl _ => true | .int _ => true | .str _ => true | _ => false
def eqD : D → D → Bool
  | .non, .non => true
  | .bl a, .bl b => a == b
  | .bl a, .int b => (if a then 1 else 0) == b
  | .int a, .bl b => a == (if b then 1 else 0)
  | .int a, .int b => a == b
  | .str a, .str b => a == b
  | _, _ => false
def rCountF (K : PySem.W.Frag) : V → List V → Hp → VK → Prop := fun x xs H Q => ∃ (a : Addr) (ys : List V) (y : V), x = V.ref a ∧ xs = [y] ∧ SqL K H a ys ∧ flatV y = true ∧ ys.all flatV = true ∧ Q (.int ((ys.countP fun z => eqV z y : Nat))) H
theorem count_eqU {x : V} : ∀ {xs : List V} {us : List Value}, Vals xs us → xs.all flatV = true → us.countP (eqU x) = xs.countP fun y => eqV y x
  | _, _, .nil, _ => rfl
  | y :: xs, u :: us, .cons r t, f => by
    rw [List.all_cons, Bool.and_eq_true] at f
    rw [List.countP_cons, List.countP_cons, eqU_of r f.1, count_eqU t f.2]
theorem mt_countF {X : Cx} : MtR X "list.count" (rCountF X.K) := by
  intro pins s σ H x xs v us Q I rx rxs h
  obtain ⟨p, ys, y, rfl, rfl, hs, fy, fys, q⟩ := h
  cases rx
  obtain ⟨u, rfl, ru⟩ := rxs.one
  obtain ⟨its, rv, ⟨⟨cls, dd, data, sl⟩, n, ho, hc, hdn, hd⟩, hlen⟩ := I.list hs
  simp only at hc hd
  subst hc hd
  refine call_meets PySem.F.slot_list_count ⟨_, ho, rfl⟩ PySem.F.entry_list_count (PySem.F.args_list_count_2 _ _)
    (SeqAt.list_countAt p its.toArray n dd sl u (eqU y)) ⟨ho, fun z hz => mem_eqAt ru fy rv fys z (by simpa using hz), ?_⟩
  refine ⟨.int ((ys.countP fun z => eqV z y : Nat)), H, I.tok _, ⟨s.toks, ?_⟩, q⟩
  rw [← count_eqU rv fys]
end Mi
namespace Mi
open PySem PySem.Spec PyProof.Rows L2
/-! ### a name read, its list frozen from here on -/
def mFrz (i : Nat) : ME := fun e => match e[i]? with
  | some (some d) => .ok (d.frz, e.set i (some d.frz))
  | _ => .err
theorem sim_frz {K : PySem.W.Frag} {mg : Str → Option Value} {W : WX} (i : Nat) : SimE K mg W (tVar i) (mFrz i) := by
  intro Y H0 io T τ e s H Q r p
  unfold mFrz at p
  cases q : e[i]? with
  | none => rw [q] at p; exact p.elim
  | some o =>
    cases o with
    | none => rw [q] at p; exact p.elim
    | some d =>
      rw [q] at p
      have r2 := r.freeze q
      obtain ⟨v, h1, h2⟩ := r2.get (List.getElem?_set_self (List.getElem?_eq_some_iff.mp q).1) (plain_frz d)
      exact ⟨v, h1, p v H h2⟩
theorem de_frz {X : Cx} {W : WX} {pos : Pos} (i : Nat) {x : Str} (hN : X.N[i]? = some x := by rfl) (hv : Vis X.env.scope x := by first | exact Or.inl rfl | exact Or.inr (Or.inl rfl) | exact Or.inr (Or.inr rfl)) (hd : (x == ("__debug__" : Str)) = false := by decide)
    (hcd : (x == ("__classdict__" : Str)) = false := by decide) : DE X W (.Name x pos) (mFrz i) := ⟨_, pe_var hN hv hd hcd, sim_frz i⟩
/-! ### xs.count(b), xs.index(b), truths -/
def dCountB : D → D → Option D := fun a b => match b with
  | .bl y => (litems a).bind fun ds => (blsD ds).map fun bs => .int ((bs.countP fun z => z == y : Nat))
  | _ => none
def dIndexB : D → D → Option D := fun a b => match b with
  | .bl y => (litems a).bind fun ds => (blsD ds).bind fun bs => (bs.findIdx? fun z => z == y).map fun j => .int (j : Nat)
  | _ => none
def OkM (K : PySem.W.Frag) (r : V → List V → Hp → VK → Prop) (f : D → D → Option D) : Prop := ∀ Y H0 io T τ e s H a b va vb d Q, f a b = some d → Rel K Y H0 io (b :: a :: T) (vb :: va :: τ) e s H → (∀ v H', Rel K Y H0 io (d :: T) (v :: τ) e s H' → Q v H') → r va [vb] H Q
theorem all_bls (bs : List Bool) : (bs.map V.bl).all flatV = true := by
  rw [List.all_map]
  exact List.all_eq_true.mpr fun _ _ => rfl
theorem ok_countB {K : PySem.W.Frag} : OkM K (rCountF K) dCountB := by
  intro Y H0 io T τ e s H a b va vb d Q hf r q
  obtain ⟨P, as, bs, nd, o1, o2, g⟩ := r.swap2
  unfold dCountB at hf
  obtain ⟨y, rfl⟩ : ∃ y, b = .bl y := by cases b <;> first | exact ⟨_, rfl⟩ | cases hf
  simp only at hf
  obtain rfl := o1.bl
  obtain ⟨ds, h1, hf⟩ := Option.bind_eq_some_iff.mp hf
  obtain ⟨ys, h2, rfl⟩ := Option.map_eq_some_iff.mp hf
  obtain ⟨p1, v1, a1, rfl, t1, w1⟩ := o2.lseq h1
  obtain rfl := bls_eq h2
  obtain rfl := owns_bls w1
  refine ⟨p1, _, _, rfl, rfl, t1, rfl, all_bls ys, ?_⟩
  have := q (V.int ((ys.countP fun z => z == y : Nat))) H r.pop.pop.int
  rw [List.countP_map]
  exact this
theorem ok_indexB {K : PySem.W.Frag} : OkM K (rIndex K) dIndexB := by
  intro Y H0 io T τ e s H a b va vb d Q hf r q
  obtain ⟨P, as, bs, nd, o1, o2, g⟩ := r.swap2
  unfold dIndexB at hf
  obtain ⟨y, rfl⟩ : ∃ y, b = .bl y := by cases b <;> first | exact ⟨_, rfl⟩ | cases hf
  simp only at hf
  obtain rfl := o1.bl
  obtain ⟨ds, h1, hf⟩ := Option.bind_eq_some_iff.mp hf
  obtain ⟨ys, h2, hf⟩ := Option.bind_eq_some_iff.mp hf
  obtain ⟨j, h3, rfl⟩ := Option.map_eq_some_iff.mp hf
  obtain ⟨p1, v1, a1, rfl, t1, w1⟩ := o2.lseq h1
  obtain rfl := bls_eq h2
  obtain rfl := owns_bls w1
  obtain ⟨hj, hz, hno⟩ := List.findIdx?_eq_some_iff_getElem.mp h3
  refine ⟨p1, _, _, j, .bl ys[j], rfl, rfl, t1, rfl, all_bls ys, by rw [List.getElem?_map, List.getElem?_eq_getElem hj]; rfl, hz, fun m z' hm hz' => ?_, q _ _ r.pop.pop.int⟩
  rw [List.getElem?_map] at hz'
  have hm' : m < ys.length := Nat.lt_trans hm hj
  rw [List.getElem?_eq_getElem hm'] at hz'
  cases hz'
  have := hno m hm
  have : ys[m] ≠ y := by simpa using this
  show (ys[m] == y) = false
  simpa using this
theorem dCountB_l {a b d : D} (h : dCountB a b = some d) : ∃ ds, litems a = some ds := by
  unfold dCountB at h
  cases b <;> first | cases h | skip
  obtain ⟨ds, h1, _⟩ := Option.bind_eq_some_iff.mp h
  exact ⟨ds, h1⟩
theorem dIndexB_l {a b d : D} (h : dIndexB a b = some d) : ∃ ds, litems a = some ds := by
  unfold dIndexB at h
  cases b <;> first | cases h | skip
  obtain ⟨ds, h1, _⟩ := Option.bind_eq_some_iff.mp h
  exact ⟨ds, h1⟩
/-- a method of a list; the first is read ahead: it is a list -/
def mMeth (f : D → D → Option D) (ma mb : ME) : ME := fun e => (ma e).bind fun p => match litems p.1 with
  | some _ => (mb p.2).bind fun q => Rs.of ((f p.1 q.1).map fun d => (d, q.2))
  | none => .err
theorem sim_meth {K : PySem.W.Frag} {mg : Str → Option Value} {W : WX} {r : V → List V → Hp → VK → Prop} {f : D → D → Option D} (ok : OkM K r f) {ta tb : TE} {ma mb : ME} (ha : SimE K mg W ta ma) (hb : SimE K mg W tb mb) : SimE K mg W (tBM K "list" r ta (tCons tb tNil)) (mMeth f ma mb) := by
  intro Y H0 io T τ e s H Q rl p
  refine ha.then rl (P := PostE K mg W Y H0 io T τ s Q) p id postE_exc fun a e1 p v H1 r1 => ?_
  cases c : litems a with
  | none => simp only [c] at p; exact False.elim p
  | some ds =>
    simp only [c] at p
    obtain ⟨x, vs, rfl, hs, _⟩ := r1.lref c
    refine ⟨.inl ⟨rfl, vs, hs⟩, ?_⟩
    refine hb.then r1 (P := PostE K mg W Y H0 io T τ s Q) p id (fun c fs e' h cls dd H' x r => h cls dd H' x r.pop) fun b e2 p vb H2 r2 => ?_
    cases c2 : f a b with
    | none => simp only [c2] at p; exact False.elim p
    | some d =>
      simp only [c2] at p
      exact ok _ _ _ _ _ _ _ _ _ _ _ _ _ _ c2 r2 p
section
variable {X : Cx} {W : WX} {pos apos : Pos} {a o : Expr} {ma mo : ME}
theorem de_count (ho : DE X W o mo) (ha : DE X W a ma)
    (hbase : attributeBase o "count" X.env (eval o X.env) = eval o X.env := by rfl)
    (hfew : ((backTo pos (starEach (a :: []) X.env)).all (fun x => !x.1) && (backToKw pos (keywordEach [] X.env)).all (fun x => x.1.isSome)
      && decide ((a :: ([] : List Expr)).length + ([] : List Keyword).length + (if ([] : List Keyword).isEmpty then 0 else 1) < 30)) = true := by rfl)
    (hline : (apos.endLine == pos.line) = true := by rfl) (hs : starEach (a :: []) X.env = (false, eval a X.env) :: starEach [] X.env := by rfl) (hplain : (backTo pos (starEach [] X.env)).any (·.1) = false := by rfl) :
    DE X W (.Call (.Attribute o "count" apos) [a] [] pos) (mMeth dCountB mo ma) := by
  obtain ⟨t, pa, s⟩ := ha
  obtain ⟨u, po, s2⟩ := ho
  exact ⟨_, pe_bm PySem.F.plainAttrs_list PySem.F.slot_list_count PySem.F.type_list_count mt_countF po (pa_cons pa pa_nil hs) hbase hfew hline hs hplain, sim_meth ok_countB s2 s⟩
theorem de_index (ho : DE X W o mo) (ha : DE X W a ma)
    (hbase : attributeBase o "index" X.env (eval o X.env) = eval o X.env := by rfl)
    (hfew : ((backTo pos (starEach (a :: []) X.env)).all (fun x => !x.1) && (backToKw pos (keywordEach [] X.env)).all (fun x => x.1.isSome)
      && decide ((a :: ([] : List Expr)).length + ([] : List Keyword).length + (if ([] : List Keyword).isEmpty then 0 else 1) < 30)) = true := by rfl)
    (hline : (apos.endLine == pos.line) = true := by rfl) (hs : starEach (a :: []) X.env = (false, eval a X.env) :: starEach [] X.env := by rfl) (hplain : (backTo pos (starEach [] X.env)).any (·.1) = false := by rfl) :
    DE X W (.Call (.Attribute o "index" apos) [a] [] pos) (mMeth dIndexB mo ma) := by
  obtain ⟨t, pa, s⟩ := ha
  obtain ⟨u, po, s2⟩ := ho
  exact ⟨_, pe_bm PySem.F.plainAttrs_list PySem.F.slot_list_index PySem.F.type_list_index mt_index po (pa_cons pa pa_nil hs) hbase hfew hline hs hplain, sim_meth ok_indexB s2 s⟩
end
/-! ### the suite of except: found = kind(e) -/
section
variable {X : Cx} {k : Nat} {f : Addr} {fd : FuncData} {ps : List Str} {kd : Str → Option Str} {x y z : Str} {i j : Nat} {ios : List Nat} {p1 p2 p3 p4 p5 : Pos}
def mKindS (j : Nat) (kd : Str → Option Str) : Str → List (Str × Int) → MS := fun c fs e => if fs ≠ [] then .err else match kd c with
  | some r => if j < e.length then .nx (e.set j (some (.str r))) else .err
  | none => .err
theorem hot_suite {a : Addr} {oe : Obj} {cls : Value} {d : Option Addr} {pn : List (Addr × Obj)} (hz : L2N.Zn cls d oe) (hf : ∃ vs, oe.data = .fields vs) : L2H.Hot1 (X.suite a pn).A (a, oe) := by
  obtain ⟨vs, hv⟩ := hf
  exact ⟨rfl, vs, hv, hz.2.2 vs hv⟩
theorem dsu_kind (F : FnHx X.prog X.w X.K X.mg X.base (L2N.CX X.prog X.w) k f fd ps (spK X.K X.mg kd)) (hr : Room k X.A) (hN : X.N.Nodup) (hm : X.mg x = some (.ref f)) (hk : PySem.W.keepIn X.K (.ref f) = true) (hb : Binds X.K fd ps [])
    (hg : Gl X x := by rfl) (hni : X.N[i]? = some y := by rfl) (hnj : X.N[j]? = some z := by rfl) (hn : j ∉ ios := by decide) (hv : Vis X.env.scope y := by first | exact Or.inl rfl | exact Or.inr (Or.inl rfl) | exact Or.inr (Or.inr rfl)) (hx : Loc X.env.scope z := by first | exact Or.inl rfl | exact Or.inr rfl)
    (hd : (y == ("__debug__" : Str)) = false := by decide) (hcd : (y == ("__classdict__" : Str)) = false := by decide) (hdb : (x == ("__debug__" : Str)) = false := by decide)
    (hsw : swapsWith (.Call (.Name x p2) [.Name y p1] [] p3) (some (.Name z p4)) p5.line X.env = pure false := by rfl) (hfn : X.fn z = true ∨ X.env.scope.names.lookup z = some .local := by first | exact .inl rfl | exact .inr rfl)
    (he : starEach (.Name y p1 :: []) X.env = (false, eval (.Name y p1) X.env) :: starEach [] X.env := by rfl) (hpl : (backTo p3 (starEach [] X.env)).any (·.1) = false := by rfl) :
    DSu X ios i [.Assign [.Name z p4] (.Call (.Name x p2) [.Name y p1] [] p3) p5] (mKindS j kd) := by
  refine ⟨fun a cls d => tAsg (tCallS (spK X.K X.mg kd a cls d) (fun _ => E0) (tCons (tVar i) tNil)) (gName j), fun a oe cls d pn hz hf => ?_, ?_⟩
  · have pe := pe_callHx (X := X.suite a ((a, oe) :: pn)) (CX := L2N.CX X.prog X.w) (E := fun _ => E0) (p := (a, oe)) (pos := p3) (q := p2) F ⟨hr.dp, hr.un⟩ (hot_suite hz hf) List.mem_cons_self hz hf hg hm hk hb (fun σ pins H s e s' I c => by
      obtain ⟨_, _, _, _, _, _, _, _, _, _, _, _, q⟩ := c
      exact q.elim) (pa_cons (pe_var (i := i) (x := y) (pos := p1) hni hv hd hcd) pa_nil he) hdb he hpl
    exact pss_one (ps_set (X := X.suite a ((a, oe) :: pn)) hN hnj hx pe hsw hfn)
  · intro a cls d c fs Y H0 io T τ e s H D hio xr ha hei hsi rl q
    obtain ⟨C, g1, g2, g3⟩ := id xr
    have q := id q
    unfold mKindS at q
    by_cases hfs : fs ≠ []
    · rw [if_pos hfs] at q; exact q.elim
    rw [if_neg hfs] at q
    have hfs : fs = [] := Classical.byContradiction hfs
    cases hk : kd c with
    | none => rw [hk] at q; exact q.elim
    | some r =>
      rw [hk] at q
      simp only at q
      by_cases hj : j < e.length
      · rw [if_pos hj] at q
        have q : PostS X.K X.mg W0 Y H0 io T τ D (.nx (e.set j (some (.str r)))) := q
        refine ⟨V.ref a, hsi, rfl, c, C, r, g1, g2, ?_, hk, fun H' hs => ?_⟩
        · rcases g3 with g3 | g3
          · exact g3.2
          · exact absurd hfs g3.1
        · have r2 : Rel X.K Y H0 io (.str r :: T) (V.str r :: τ) e s H' := (rl.same hs).str
          exact sim_gName (K := X.K) hn Y H0 io T τ e s H' (.str r) (V.str r) _ _ hio (by unfold mgName; rw [if_pos hj]) r2 fun s2 H2 r3 _ => q s2 H2 r3
      · rw [if_neg hj] at q; exact q.elim
end
end Mi
namespace Mi
open PySem PySem.Spec PyProof.Rows L2
theorem hu64 {k : Nat} {A : Around} (hr : Room k A) : A.units + 64 < cLine := by have := hr.un; omega
theorem hu65 {k : Nat} {A : Around} (hr : Room k A) : A.units + 65 < cLine := by have := hr.un; omega
theorem huH {k : Nat} {A : Around} (hr : L2H.RoomH k A) : A.units + 64 < cLine := by have := hr.un; omega
section
variable {X : Cx} {W : WX} {ios : List Nat} {pos : Pos}
def mPar3 (i j l : Nat) (m : MA) : MS := fun e => match m e with
  | .ok ([x, y, z], e') => if i < e'.length ∧ j < e'.length ∧ l < e'.length then .nx (((e'.set i (some x)).set j (some y)).set l (some z)) else .err
  | .ok _ => .err
  | .exc c fs e' => .exc c fs e'
  | .err => .err
theorem ds_par3 {i j l : Nat} {x y z : Str} {a b c : Expr} {mas : MA} {px py pz pt : Pos} {kt k2 pt2} (hN : X.N.Nodup) (ha : DA X W [a, b, c] mas) (hc : X.calm = true := by rfl) (hni : i ∉ ios := by decide) (hnj : j ∉ ios := by decide) (hnl : l ∉ ios := by decide)
    (hi : X.N[i]? = some x := by rfl) (hj : X.N[j]? = some y := by rfl) (hl : X.N[l]? = some z := by rfl) (hij : i ≠ j := by decide) (hil : i ≠ l := by decide) (hjl : j ≠ l := by decide)
    (hx : X.env.scope.names.lookup x = some .local := by rfl) (hy : X.env.scope.names.lookup y = some .local := by rfl) (hz : X.env.scope.names.lookup z = some .local := by rfl)
    (hw : swappedStores [.Tuple [.Name x px, .Name y py, .Name z pz] kt pt] (.Tuple [a, b, c] k2 pt2) X.env = pure (some [x, y, z]) := by rfl)
    (hs : swapsWithSole [.Tuple [.Name x px, .Name y py, .Name z pz] kt pt] (.Tuple [a, b, c] k2 pt2) pos.line X.env = pure false := by rfl) :
    DS X W ios (.Assign [.Tuple [.Name x px, .Name y py, .Name z pz] kt pt] (.Tuple [a, b, c] k2 pt2) pos) (mPar3 i j l mas) := by
  obtain ⟨t, p, s⟩ := ha
  refine ⟨_, ps_par3 hc hN hi hj hl hij hil hjl hx hy hz p hw hs, fun Y H0 io T τ e s' H D hio r q => ?_⟩
  refine s Y H0 io T τ e s' H _ r ?_
  unfold mPar3 at q
  cases c : mas e with
  | ok z =>
    obtain ⟨ds, e'⟩ := z
    rw [c] at q
    match ds, q with
    | [], q => exact False.elim q
    | [_], q => exact False.elim q
    | [_, _], q => exact False.elim q
    | _ :: _ :: _ :: _ :: _, q => exact False.elim q
    | [d1, d2, d3], q =>
      intro vs H' hl rl
      match vs, hl with
      | [v1, v2, v3], _ =>
        simp only at q
        by_cases g : i < e'.length ∧ j < e'.length ∧ l < e'.length
        · rw [if_pos g] at q
          have r1 := Rel.put (i := i) rl g.1 fun p hp z => hni (z ▸ hio p hp)
          have r2 := Rel.put (i := j) r1 (by simpa using g.2.1) fun p hp z => hnj (z ▸ hio p hp)
          have r3 := Rel.put (i := l) r2 (by simpa using g.2.2) fun p hp z => hnl (z ▸ hio p hp)
          exact ⟨v1, v2, v3, rfl, q _ _ r3⟩
        · rw [if_neg g] at q; exact False.elim q
  | exc c fs e' => rw [c] at q; exact fun cls dd H' x rl => q cls dd s' H' x rl
  | err => rw [c] at q; exact False.elim q
end
/-! ### the law's promise -/
theorem only_cst {K : PySem.W.Frag} {H : Hp} {a : Addr} {vs : List V} (h : Only H) (s : SqL K H a vs) : CqL K H a vs := by
  rcases s with (s | ⟨o, s⟩) | s
  · rcases h a with e | ⟨o, xs, e⟩
    · rw [e] at s; cases s
    · rw [e] at s; cases s
  · exact .inl ⟨o, s⟩
  · exact .inr s
theorem reps_ints {K : PySem.W.Frag} {P : Addr → Prop} {H : Hp} : ∀ ns : List Int, Reps K P H (ns.map D.int) (ns.map V.int)
  | [] => by unfold Reps; rfl
  | n :: ns => by
    rw [List.map_cons]
    unfold Reps
    exact ⟨_, _, rfl, by unfold Rep; rfl, reps_ints ns⟩
theorem end_law {K : PySem.W.Frag} {mg : Str → Option Value} {F : MF} {H : Hp} {a : Addr} {ns : List Int} (hF : F [.cst (ns.map D.int)] = .ok (.bl true)) (hO : Only H) (hS : SqL K H a (ns.map V.int)) :
    spF K mg 1 F [.ref a] H (fun v _ => v = .bl true) (fun _ _ _ => False) := by
  refine ⟨[.cst (ns.map D.int)], fun _ => False, rfl, ?_, fun _ z => z.elim, ?_⟩
  · unfold Reps
    refine ⟨_, _, rfl, ?_, by unfold Reps; rfl⟩
    unfold Rep
    exact ⟨a, _, rfl, only_cst hO hS, reps_ints ns⟩
  · rw [hF]
    intro v H' hs ⟨as, _, _, o⟩
    exact o.bl
end Mi
namespace Mi
theorem len1 {m : MA} {n : Nat} (h : ∀ e ds e', m e = .ok (ds, e') → ds.length = n) : ∀ e ds e', m e = .ok (ds, e') → ds.length + 1 = n + 1 := fun e ds e' q => by rw [h e ds e' q]
end Mi
/-! ### reckoning: one row a step -/
namespace Mi
open PySem PySem.Spec PyProof.Rows L2
section
variable {α : Type} {e e' : Env} {d d2 : D} {ds : List D} {c : Str} {fs : List (Str × Int)} {i j : Nat} {b : Bool} {f : D → Option D} {f2 : D → D → Option D} {fl : List D → Option D} {ma mb mc : ME} {mr : MA} {t n : MT} {s u : MS}
def kof : Option D → Env → Rs (D × Env)
  | some d, e => .ok (d, e)
  | none, _ => .err
theorem kof_some : kof (some d) e = .ok (d, e) := rfl
theorem kof_none : kof none e = .err := rfl
def k1 (f : D → Option D) : Rs (D × Env) → Rs (D × Env)
  | .ok p => kof (f p.1) p.2
  | .exc c fs e => .exc c fs e
  | .err => .err
theorem mOp1_ap : mOp1 f ma e = k1 f (ma e) := by
  unfold mOp1 k1 Rs.bind
  cases ma e with
  | ok p => simp only; cases f p.1 <;> rfl
  | exc _ _ _ => rfl
  | err => rfl
theorem k1_ok : k1 f (.ok (d, e)) = kof (f d) e := rfl
theorem k1_exc : k1 f (.exc c fs e) = .exc c fs e := rfl
def k2b (f : D → D → Option D) (d : D) : Rs (D × Env) → Rs (D × Env)
  | .ok p => kof (f d p.1) p.2
  | .exc c fs e => .exc c fs e
  | .err => .err
def k2a (f : D → D → Option D) (mb : ME) : Rs (D × Env) → Rs (D × Env)
  | .ok p => k2b f p.1 (mb p.2)
  | .exc c fs e => .exc c fs e
  | .err => .err
theorem mOp2_ap : mOp2 f2 ma mb e = k2a f2 mb (ma e) := by
  unfold mOp2 k2a Rs.bind
  cases ma e with
  | ok p =>
    simp only [k2b]
    cases mb p.2 with
    | ok q => simp only; cases f2 p.1 q.1 <;> rfl
    | exc _ _ _ => rfl
    | err => rfl
  | exc _ _ _ => rfl
  | err => rfl
theorem k2a_ok : k2a f2 mb (.ok (d, e)) = k2b f2 d (mb e) := rfl
theorem k2a_exc : k2a f2 mb (.exc c fs e) = .exc c fs e := rfl
theorem k2b_ok : k2b f2 d (.ok (d2, e)) = kof (f2 d d2) e := rfl
theorem k2b_exc : k2b f2 d (.exc c fs e) = .exc c fs e := rfl
def kL (f : List D → Option D) : Rs (List D × Env) → Rs (D × Env)
  | .ok p => kof (f p.1) p.2
  | .exc c fs e => .exc c fs e
  | .err => .err
theorem mOpL_ap : mOpL fl mr e = kL fl (mr e) := by
  unfold mOpL kL Rs.bind
  cases mr e with
  | ok p => simp only; cases fl p.1 <;> rfl
  | exc _ _ _ => rfl
  | err => rfl
theorem kL_ok : kL fl (.ok (ds, e)) = kof (fl ds) e := rfl
theorem kL_exc : kL fl (.exc c fs e) = .exc c fs e := rfl
def kcb (d : D) : Rs (List D × Env) → Rs (List D × Env)
  | .ok p => .ok (d :: p.1, p.2)
  | .exc c fs e => .exc c fs e
  | .err => .err
def kca (mr : MA) : Rs (D × Env) → Rs (List D × Env)
  | .ok p => kcb p.1 (mr p.2)
  | .exc c fs e => .exc c fs e
  | .err => .err
theorem mCons_ap : mCons ma mr e = kca mr (ma e) := by
  unfold mCons kca Rs.bind
  cases ma e with
  | ok p => simp only [kcb]; cases mr p.2 <;> rfl
  | exc _ _ _ => rfl
  | err => rfl
theorem kca_ok : kca mr (.ok (d, e)) = kcb d (mr e) := rfl
theorem kca_exc : kca mr (.exc c fs e) = .exc c fs e := rfl
theorem kcb_ok : kcb d (.ok (ds, e)) = .ok (d :: ds, e) := rfl
theorem kcb_exc : kcb d (.exc c fs e) = .exc c fs e := rfl
theorem mNil_ap : mNil e = .ok ([], e) := rfl
theorem mC_ap : mC d e = .ok (d, e) := rfl
def kLst : Rs (List D × Env) → Rs (D × Env)
  | .ok p => if p.1.length ≤ sizeLine then .ok (.own p.1, p.2) else .err
  | .exc c fs e => .exc c fs e
  | .err => .err
def kTup : Rs (List D × Env) → Rs (D × Env)
  | .ok p => if p.1.length ≤ sizeLine then .ok (.tup (frzs p.1), p.2) else .err
  | .exc c fs e => .exc c fs e
  | .err => .err
theorem mLst_ap : mLst mr e = kLst (mr e) := by unfold mLst kLst Rs.bind; cases mr e <;> rfl
theorem mTup_ap : mTup mr e = kTup (mr e) := by unfold mTup kTup Rs.bind; cases mr e <;> rfl
theorem kLst_ok : kLst (.ok (ds, e)) = if ds.length ≤ sizeLine then .ok (.own ds, e) else .err := rfl
theorem kTup_ok : kTup (.ok (ds, e)) = if ds.length ≤ sizeLine then .ok (.tup (frzs ds), e) else .err := rfl
/-! names -/
def kV (e : Env) : Option (Option D) → Rs (D × Env)
  | some (some d) => if d.plain then .ok (d, e) else .err
  | _ => .err
theorem mVar_ap : mVar i e = kV e e[i]? := by unfold mVar kV; rcases e[i]? with _ | _ | _ <;> rfl
theorem kV_some : kV e (some (some d)) = if d.plain then .ok (d, e) else .err := rfl
def kF (i : Nat) (e : Env) : Option (Option D) → Rs (D × Env)
  | some (some d) => .ok (d.frz, e.set i (some d.frz))
  | _ => .err
theorem mFrz_ap : mFrz i e = kF i e e[i]? := by unfold mFrz kF; rcases e[i]? with _ | _ | _ <;> rfl
theorem kF_some : kF i e (some (some d)) = .ok (d.frz, e.set i (some d.frz)) := rfl
def kM (i : Nat) (e : Env) : Option (Option D) → Rs (D × Env)
  | some (some d) => .ok (d, e.set i none)
  | _ => .err
theorem mMove_ap : mMove i e = kM i e e[i]? := by unfold mMove kM; rcases e[i]? with _ | _ | _ <;> rfl
theorem kM_some : kM i e (some (some d)) = .ok (d, e.set i none) := rfl
theorem at0 {x : α} {l : List α} : (x :: l)[0]? = some x := rfl
theorem atS {x : α} {l : List α} {k : Nat} : (x :: l)[k + 1]? = l[k]? := rfl
theorem set0 {x y : α} {l : List α} : (x :: l).set 0 y = y :: l := rfl
theorem setS {x y : α} {l : List α} {k : Nat} : (x :: l).set (k + 1) y = x :: l.set k y := rfl
/-! tests -/
def kT : Rs (D × Env) → Rs (Bool × Env)
  | .ok (.bl b, e) => .ok (b, e)
  | .ok _ => .err
  | .exc c fs e => .exc c fs e
  | .err => .err
theorem mT_ap : mT ma e = kT (ma e) := by
  unfold mT kT Rs.bind
  cases ma e with
  | ok p => obtain ⟨d, e1⟩ := p; cases d <;> rfl
  | exc _ _ _ => rfl
  | err => rfl
theorem kT_ok : kT (.ok (.bl b, e)) = .ok (b, e) := rfl
theorem kT_exc : kT (.exc c fs e) = .exc c fs e := rfl
def kN : Rs (Bool × Env) → Rs (Bool × Env)
  | .ok p => .ok (!p.1, p.2)
  | .exc c fs e => .exc c fs e
  | .err => .err
theorem mNotT_ap : mNotT t e = kN (t e) := by unfold mNotT kN Rs.bind; cases t e <;> rfl
theorem kN_ok : kN (.ok (b, e)) = .ok (!b, e) := rfl
theorem kN_exc : kN (.exc c fs e) = .exc c fs e := rfl
def kA (n : MT) : Rs (Bool × Env) → Rs (Bool × Env)
  | .ok p => if p.1 = true then n p.2 else .ok (false, p.2)
  | .exc c fs e => .exc c fs e
  | .err => .err
theorem mAndT_ap : mAndT t n e = kA n (t e) := by unfold mAndT kA Rs.bind; cases t e <;> rfl
theorem kA_ok : kA n (.ok (b, e)) = if b = true then n e else .ok (false, e) := rfl
theorem kA_exc : kA n (.exc c fs e) = .exc c fs e := rfl
def kO (n : MT) : Rs (Bool × Env) → Rs (Bool × Env)
  | .ok p => if p.1 = true then .ok (true, p.2) else n p.2
  | .exc c fs e => .exc c fs e
  | .err => .err
theorem mOrT_ap : mOrT t n e = kO n (t e) := by unfold mOrT kO Rs.bind; cases t e <;> rfl
theorem kO_ok : kO n (.ok (b, e)) = if b = true then .ok (true, e) else n e := rfl
theorem kO_exc : kO n (.exc c fs e) = .exc c fs e := rfl
def kAV (n : ME) : Rs (D × Env) → Rs (D × Env)
  | .ok (.bl b, e) => if b = true then n e else .ok (.bl false, e)
  | .ok _ => .err
  | .exc c fs e => .exc c fs e
  | .err => .err
theorem mAndV_ap : mAndV ma mb e = kAV mb (ma e) := by
  unfold mAndV kAV Rs.bind
  cases ma e with
  | ok p => obtain ⟨d, e1⟩ := p; cases d <;> first | rfl | (rename_i b; cases b <;> rfl)
  | exc _ _ _ => rfl
  | err => rfl
theorem kAV_ok : kAV mb (.ok (.bl b, e)) = if b = true then mb e else .ok (.bl false, e) := rfl
def kOV (n : ME) : Rs (D × Env) → Rs (D × Env)
  | .ok (.bl b, e) => if b = true then .ok (.bl true, e) else n e
  | .ok _ => .err
  | .exc c fs e => .exc c fs e
  | .err => .err
theorem mOrV_ap : mOrV ma mb e = kOV mb (ma e) := by
  unfold mOrV kOV Rs.bind
  cases ma e with
  | ok p => obtain ⟨d, e1⟩ := p; cases d <;> first | rfl | (rename_i b; cases b <;> rfl)
  | exc _ _ _ => rfl
  | err => rfl
theorem kOV_ok : kOV mb (.ok (.bl b, e)) = if b = true then .ok (.bl true, e) else mb e := rfl
def kIf (m n : ME) : Rs (Bool × Env) → Rs (D × Env)
  | .ok p => if p.1 = true then m p.2 else n p.2
  | .exc c fs e => .exc c fs e
  | .err => .err
theorem mIf_ap : mIf t ma mb e = kIf ma mb (t e) := by unfold mIf kIf Rs.bind; cases t e <;> rfl
theorem kIf_ok : kIf ma mb (.ok (b, e)) = if b = true then ma e else mb e := rfl
def kCh2 (g : D → D → Option D) (mc : ME) (d : D) (e : Env) : Option D → Rs (D × Env)
  | some (.bl b) => if b = true then k2b g d (mc e) else .ok (.bl false, e)
  | _ => .err
def kCh1 (f g : D → D → Option D) (mc : ME) (d : D) : Rs (D × Env) → Rs (D × Env)
  | .ok (.int j, e) => (match d with
    | .int i => kCh2 g mc (.int j) e (f (.int i) (.int j))
    | _ => .err)
  | .ok _ => .err
  | .exc c fs e => .exc c fs e
  | .err => .err
def kCh (f g : D → D → Option D) (mb mc : ME) : Rs (D × Env) → Rs (D × Env)
  | .ok (d, e) => kCh1 f g mc d (mb e)
  | .exc c fs e => .exc c fs e
  | .err => .err
theorem mChain_ap {f g : D → D → Option D} : mChain f g ma mb mc e = kCh f g mb mc (ma e) := by
  unfold mChain kCh Rs.bind
  cases ma e with
  | ok p =>
    obtain ⟨d, e1⟩ := p
    simp only [kCh1]
    cases mb e1 with
    | ok q =>
      obtain ⟨d2, e2⟩ := q
      simp only
      cases d <;> cases d2 <;> try rfl
      rename_i i j
      simp only [kCh2]
      cases f (.int i) (.int j) with
      | none => rfl
      | some z =>
        cases z <;> try rfl
        rename_i b
        cases b
        · rfl
        · simp only [if_true]
          unfold k2b
          cases mc e2 with
          | ok p => simp only; cases g (.int j) p.1 <;> rfl
          | exc _ _ _ => rfl
          | err => rfl
    | exc _ _ _ => rfl
    | err => rfl
  | exc _ _ _ => rfl
  | err => rfl
theorem kCh_ok {f g : D → D → Option D} : kCh f g mb mc (.ok (d, e)) = kCh1 f g mc d (mb e) := rfl
theorem kCh1_ok {f g : D → D → Option D} {x y : Int} : kCh1 f g mc (.int x) (.ok (.int y, e)) = kCh2 g mc (.int y) e (f (.int x) (.int y)) := rfl
theorem kCh2_ok {g : D → D → Option D} : kCh2 g mc d e (some (.bl b)) = if b = true then k2b g d (mc e) else .ok (.bl false, e) := rfl
/-! statements -/
def kS (n : MS) : Sr → Sr
  | .nx e => n e
  | r => r
theorem mSeq_ap : mSeq s u e = kS u (s e) := by unfold mSeq kS; cases s e <;> rfl
theorem kS_nx : kS u (.nx e) = u e := rfl
theorem kS_rt : kS u (.rt d e) = .rt d e := rfl
theorem kS_exc : kS u (.exc c fs e) = .exc c fs e := rfl
theorem kS_bk : kS u (.bk e) = .bk e := rfl
theorem kS_ct : kS u (.ct e) = .ct e := rfl
theorem mNext_ap : mNext e = .nx e := rfl
def kD : Rs (D × Env) → Sr
  | .ok p => .nx p.2
  | .exc c fs e' => .exc c fs e'
  | .err => .err
theorem mDrop_ap : mDrop ma e = kD (ma e) := by unfold mDrop kD; cases ma e <;> rfl
theorem kD_ok : kD (.ok (d, e)) = .nx e := rfl
theorem kD_exc : kD (.exc c fs e) = .exc c fs e := rfl
def kR : Rs (D × Env) → Sr
  | .ok p => .rt p.1 p.2
  | .exc c fs e' => .exc c fs e'
  | .err => .err
theorem mRet_ap : mRet ma e = kR (ma e) := by unfold mRet kR; cases ma e <;> rfl
theorem kR_ok : kR (.ok (d, e)) = .rt d e := rfl
theorem kR_exc : kR (.exc c fs e) = .exc c fs e := rfl
theorem mRetN_ap : mRetN e = .rt .non e := rfl
def kI (m n : MS) : Rs (Bool × Env) → Sr
  | .ok p => if p.1 = true then m p.2 else n p.2
  | .exc c fs e' => .exc c fs e'
  | .err => .err
theorem mIfS_ap : mIfS t s u e = kI s u (t e) := by unfold mIfS kI; cases t e <;> rfl
theorem kI_ok : kI s u (.ok (b, e)) = if b = true then s e else u e := rfl
theorem kI_exc : kI s u (.exc c fs e) = .exc c fs e := rfl
def kG2 : Option Env → Sr
  | some e => .nx e
  | none => .err
def kG (g : MG) : Rs (D × Env) → Sr
  | .ok p => kG2 (g p.1 p.2)
  | .exc c fs e' => .exc c fs e'
  | .err => .err
theorem mAsg_ap {g : MG} : mAsg ma g e = kG g (ma e) := by
  unfold mAsg kG
  cases ma e with
  | ok p => simp only; cases g p.1 p.2 <;> rfl
  | exc _ _ _ => rfl
  | err => rfl
theorem kG_ok {g : MG} : kG g (.ok (d, e)) = kG2 (g d e) := rfl
theorem kG_exc {g : MG} : kG g (.exc c fs e) = .exc c fs e := rfl
theorem kG2_some : kG2 (some e) = .nx e := rfl
theorem mgName_ap : mgName i d e = if i < e.length then some (e.set i (some d)) else none := rfl
def kgs (gs : MGs) (ds : List D) : Option Env → Option Env
  | some e => gs ds e
  | none => none
theorem mgTup_ap {n : Nat} {gs : MGs} : mgTup n gs (.tup ds) e = if ds.length = n then gs ds e else none := rfl
theorem mgCons_ap {g : MG} {gs : MGs} : mgCons g gs (d :: ds) e = kgs gs ds (g d e) := by
  show (g d e).bind (fun e' => gs ds e') = kgs gs ds (g d e)
  cases g d e <;> rfl
theorem kgs_some {gs : MGs} : kgs gs ds (some e) = gs ds e := rfl
theorem mgNil_ap : mgNil [] e = some e := rfl
def kP (i j : Nat) : Rs (List D × Env) → Sr
  | .ok ([x, y], e') => if i < e'.length ∧ j < e'.length then .nx ((e'.set i (some x)).set j (some y)) else .err
  | .ok _ => .err
  | .exc c fs e' => .exc c fs e'
  | .err => .err
theorem mPar_ap : mPar i j mr e = kP i j (mr e) := rfl
theorem kP_ok {x y : D} : kP i j (.ok ([x, y], e)) = if i < e.length ∧ j < e.length then .nx ((e.set i (some x)).set j (some y)) else .err := rfl
def kP3 (i j l : Nat) : Rs (List D × Env) → Sr
  | .ok ([x, y, z], e') => if i < e'.length ∧ j < e'.length ∧ l < e'.length then .nx (((e'.set i (some x)).set j (some y)).set l (some z)) else .err
  | .ok _ => .err
  | .exc c fs e' => .exc c fs e'
  | .err => .err
theorem mPar3_ap {l : Nat} : mPar3 i j l mr e = kP3 i j l (mr e) := rfl
theorem kP3_ok {x y z : D} {l : Nat} : kP3 i j l (.ok ([x, y, z], e)) = if i < e.length ∧ j < e.length ∧ l < e.length then .nx (((e.set i (some x)).set j (some y)).set l (some z)) else .err := rfl
/-! slots -/
def kw : Option (Option D) → Option (List D)
  | some (some (.own ds)) => some ds
  | _ => none
theorem ownAt_ap : ownAt e i = kw e[i]? := by unfold ownAt kw; rcases e[i]? with _ | _ | d <;> first | rfl | (cases d <;> rfl)
theorem kw_own : kw (some (some (.own ds))) = some ds := rfl
def kX2 (i : Nat) : Rs (D × Env) → Rs (D × Env)
  | .ok p => (match (p.2 : List (Option D))[i]? with
    | some (some d) => kof (dIxS d p.1) p.2
    | _ => .err)
  | .exc c fs e => .exc c fs e
  | .err => .err
def kX (i : Nat) (mb : ME) (e : Env) : Option (Option D) → Rs (D × Env)
  | some (some _) => kX2 i (mb e)
  | _ => .err
def kX3 (k : D) (e : Env) : Option (Option D) → Rs (D × Env)
  | some (some d) => kof (dIxS d k) e
  | _ => .err
theorem mSlotIx_ap : mSlotIx i mb e = kX i mb e e[i]? := by
  unfold mSlotIx kX
  rcases e[i]? with _ | _ | d
  · rfl
  · rfl
  · simp only [Rs.bind, kX2]
    cases mb e with
    | ok p =>
      simp only
      rcases (p.2 : List (Option D))[i]? with _ | _ | d
      · rfl
      · rfl
      · simp only; cases dIxS d p.1 <;> rfl
    | exc _ _ _ => rfl
    | err => rfl
theorem kX_some : kX i mb e (some (some d)) = kX2 i (mb e) := rfl
theorem kX2_ok : kX2 i (.ok (d, e)) = kX3 d e (e[i]? : Option (Option D)) := by
  show (match (e : List (Option D))[i]? with
    | some (some d') => kof (dIxS d' d) e
    | _ => .err) = kX3 d e _
  rcases (e : List (Option D))[i]? with _ | _ | _ <;> rfl
theorem kX3_some : kX3 d2 e (some (some d)) = kof (dIxS d d2) e := rfl
def kf : Fr → Env → Rs (D × Env)
  | .ok d, e => .ok (d, e)
  | .exc c fs, e => .exc c fs e
  | .err, _ => .err
def kc (F : MF) : Rs (List D × Env) → Rs (D × Env)
  | .ok p => kf (F (frzs p.1)) p.2
  | .exc c fs e => .exc c fs e
  | .err => .err
theorem mCall_ap {F : MF} : mCall F mr e = kc F (mr e) := by
  unfold mCall kc Rs.bind
  cases mr e with
  | ok p => simp only; cases F (frzs p.1) <;> rfl
  | exc _ _ _ => rfl
  | err => rfl
theorem kc_ok {F : MF} : kc F (.ok (ds, e)) = kf (F (frzs ds)) e := rfl
theorem kf_ok : kf (.ok d) e = .ok (d, e) := rfl
theorem kf_exc : kf (.exc c fs) e = .exc c fs e := rfl
def kq4 (i : Nat) (e : Env) : Fo → Rs (D × Env)
  | .ok d ys => .ok (d, e.set i (some (.own ys)))
  | .err => .err
def kq3 (F : MO) (i : Nat) (ds : List D) (e : Env) : Option (List D) → Rs (D × Env)
  | some xs => if plains xs = true then kq4 i e (F xs (frzs ds)) else .err
  | none => .err
def kq2 (F : MO) (i : Nat) : Rs (List D × Env) → Rs (D × Env)
  | .ok p => kq3 F i p.1 p.2 (ownAt p.2 i)
  | .exc c fs e => .exc c fs e
  | .err => .err
def kq (F : MO) (i : Nat) (mr : MA) (e : Env) : Option (List D) → Rs (D × Env)
  | some _ => kq2 F i (mr e)
  | none => .err
theorem mCallO_ap {F : MO} : mCallO F i mr e = kq F i mr e (ownAt e i) := by
  unfold mCallO kq
  cases ownAt e i with
  | none => rfl
  | some xs =>
    simp only [Rs.bind, kq2]
    cases mr e with
    | ok p =>
      simp only
      cases ownAt p.2 i with
      | none => rfl
      | some xs =>
        simp only [kq3]
        by_cases z : plains xs = true
        · rw [if_pos z, if_pos z]; cases F xs (frzs p.1) <;> rfl
        · rw [if_neg z, if_neg z]
    | exc _ _ _ => rfl
    | err => rfl
theorem kq_some {F : MO} : kq F i mr e (some ds) = kq2 F i (mr e) := rfl
theorem kq2_ok {F : MO} : kq2 F i (.ok (ds, e)) = kq3 F i ds e (ownAt e i) := rfl
theorem kq3_some {F : MO} {xs : List D} : kq3 F i ds e (some xs) = if plains xs = true then kq4 i e (F xs (frzs ds)) else .err := rfl
theorem kq4_ok {ys : List D} : kq4 i e (.ok d ys) = .ok (d, e.set i (some (.own ys))) := rfl
def ky4 (i : Nat) (d : D) (e : Env) (k : Int) : Option (List D) → Sr
  | some ds => (match ixN ds.length k with
    | some j => if j < ds.length then .nx (e.set i (some (.own (ds.set j d)))) else .err
    | none => .err)
  | none => .err
def ky3 (i : Nat) (d : D) : Rs (D × Env) → Sr
  | .ok (.int k, e2) => ky4 i d e2 k (ownAt e2 i)
  | .ok _ => .err
  | .exc c fs e' => .exc c fs e'
  | .err => .err
def ky2 (mk : ME) (i : Nat) (d : D) (e : Env) : Option (List D) → Sr
  | some _ => ky3 i d (mk e)
  | none => .err
def ky (mk : ME) (i : Nat) : Rs (D × Env) → Sr
  | .ok p => ky2 mk i p.1 p.2 (ownAt p.2 i)
  | .exc c fs e' => .exc c fs e'
  | .err => .err
theorem mSetIx_ap : mSetIx i ma mb e = ky mb i (ma e) := by
  unfold mSetIx ky
  cases ma e with
  | ok p =>
    obtain ⟨d, e1⟩ := p
    simp only
    cases ownAt e1 i with
    | none => rfl
    | some xs =>
      simp only [ky2]
      unfold ky3
      cases mb e1 with
      | ok q =>
        obtain ⟨k, e2⟩ := q
        cases k <;> rfl
      | exc _ _ _ => rfl
      | err => rfl
  | exc _ _ _ => rfl
  | err => rfl
theorem ky_ok : ky mb i (.ok (d, e)) = ky2 mb i d e (ownAt e i) := rfl
theorem ky2_some : ky2 mb i d e (some ds) = ky3 i d (mb e) := rfl
theorem ky3_ok {k : Int} : ky3 i d (.ok (.int k, e)) = ky4 i d e k (ownAt e i) := rfl
theorem ky4_some {k : Int} : ky4 i d e k (some ds) = match ixN ds.length k with
    | some j => if j < ds.length then .nx (e.set i (some (.own (ds.set j d)))) else .err
    | none => .err := rfl
/-! what is walked -/
def kRs : Option (List D) → Env → Rs (List D × Env)
  | some ds, e => .ok (ds, e)
  | none, _ => .err
def kIL : Rs (D × Env) → Rs (List D × Env)
  | .ok p => kRs ((litems p.1).map frzs) p.2
  | .exc c fs e => .exc c fs e
  | .err => .err
theorem mItL_ap : mItL ma e = kIL (ma e) := by
  unfold mItL kIL Rs.bind
  cases ma e with
  | ok p => simp only; cases litems p.1 <;> rfl
  | exc _ _ _ => rfl
  | err => rfl
theorem kIL_ok : kIL (.ok (d, e)) = kRs ((litems d).map frzs) e := rfl
theorem kRs_some : kRs (some ds) e = .ok (ds, e) := rfl
def kIT : Rs (D × Env) → Rs (List D × Env)
  | .ok (.tup ds, e) => if plains ds = true then .ok (ds, e) else .err
  | .ok _ => .err
  | .exc c fs e => .exc c fs e
  | .err => .err
theorem mItT_ap : mItT ma e = kIT (ma e) := by
  unfold mItT kIT Rs.bind
  cases ma e with
  | ok p => obtain ⟨d, e1⟩ := p; cases d <;> rfl
  | exc _ _ _ => rfl
  | err => rfl
theorem kIT_ok : kIT (.ok (.tup ds, e)) = if plains ds = true then .ok (ds, e) else .err := rfl
def kr1 : Rs (List D × Env) → Rs (List D × Env)
  | .ok ([.int j], e) => if small62 j then .ok (rangeD 0 j.toNat, e) else .err
  | .ok _ => .err
  | .exc c fs e => .exc c fs e
  | .err => .err
theorem mRng1_ap : mRng1 mr e = kr1 (mr e) := by
  unfold mRng1 kr1 Rs.bind
  cases mr e with
  | ok p =>
    obtain ⟨ds, e1⟩ := p
    rcases ds with _ | ⟨d, _ | ⟨d2, r⟩⟩
    · rfl
    · cases d <;> rfl
    · cases d <;> rfl
  | exc _ _ _ => rfl
  | err => rfl
theorem kr1_ok {j : Int} : kr1 (.ok ([.int j], e)) = if small62 j then .ok (rangeD 0 j.toNat, e) else .err := rfl
def kr2 : Rs (List D × Env) → Rs (List D × Env)
  | .ok ([.int i, .int j], e) => if small62 i ∧ small62 j then .ok (rangeD i (j - i).toNat, e) else .err
  | .ok _ => .err
  | .exc c fs e => .exc c fs e
  | .err => .err
theorem mRng2_ap : mRng2 mr e = kr2 (mr e) := by
  unfold mRng2 kr2 Rs.bind
  cases mr e with
  | ok p =>
    obtain ⟨ds, e1⟩ := p
    rcases ds with _ | ⟨d, _ | ⟨d2, _ | ⟨d3, r⟩⟩⟩
    · rfl
    · cases d <;> rfl
    · cases d <;> first | rfl | (cases d2 <;> rfl)
    · cases d <;> first | rfl | (cases d2 <;> rfl)
  | exc _ _ _ => rfl
  | err => rfl
theorem kr2_ok {i j : Int} : kr2 (.ok ([.int i, .int j], e)) = if small62 i ∧ small62 j then .ok (rangeD i (j - i).toNat, e) else .err := rfl
def kFo (g : MG) (body : MS) : Rs (List D × Env) → Sr
  | .ok p => mLoop g body p.1 p.2
  | .exc c fs e' => .exc c fs e'
  | .err => .err
theorem mFor_ap {g : MG} : mFor mr g s e = kFo g s (mr e) := by unfold mFor kFo; cases mr e <;> rfl
theorem kFo_ok {g : MG} : kFo g s (.ok (ds, e)) = mLoop g s ds e := rfl
def kl2 (g : MG) (body : MS) (ds : List D) : Sr → Sr
  | .nx e2 => mLoop g body ds e2
  | .ct e2 => mLoop g body ds e2
  | .bk e2 => .nx e2
  | r => r
def kl1 (g : MG) (body : MS) (ds : List D) : Option Env → Sr
  | some e => kl2 g body ds (body e)
  | none => .err
theorem mLoop_nil {g : MG} : mLoop g s [] e = .nx e := rfl
theorem mLoop_cons {g : MG} : mLoop g s (d :: ds) e = kl1 g s ds (g d e) := by
  unfold kl1
  show (match g d e with
    | none => Sr.err
    | some e1 => match s e1 with
      | .nx e2 => mLoop g s ds e2
      | .ct e2 => mLoop g s ds e2
      | .bk e2 => .nx e2
      | r => r) = _
  cases g d e with
  | none => rfl
  | some e1 => cases s e1 <;> rfl
theorem kl1_some {g : MG} : kl1 g s ds (some e) = kl2 g s ds (s e) := rfl
theorem kl2_nx {g : MG} : kl2 g s ds (.nx e) = mLoop g s ds e := rfl
theorem kl2_ct {g : MG} : kl2 g s ds (.ct e) = mLoop g s ds e := rfl
theorem kl2_bk {g : MG} : kl2 g s ds (.bk e) = .nx e := rfl
theorem kl2_rt {g : MG} : kl2 g s ds (.rt d e) = .rt d e := rfl
theorem kl2_exc {g : MG} : kl2 g s ds (.exc c fs e) = .exc c fs e := rfl
/-! comprehensions -/
def kLc (vs : List Nat) (g : MG) (tt : MT) (te : ME) : Rs (List D × Env) → Rs (D × Env)
  | .ok p => mLcLoop vs g tt te p.1 [] (wipeE p.2 vs)
  | .exc c fs e => .exc c fs e
  | .err => .err
theorem mLc_ap {vs : List Nat} {g : MG} : mLc vs mr g t ma e = kLc vs g t ma (mr e) := by unfold mLc kLc Rs.bind; cases mr e <;> rfl
theorem kLc_ok {vs : List Nat} {g : MG} : kLc vs g t ma (.ok (ds, e)) = mLcLoop vs g t ma ds [] (wipeE e vs) := rfl
def kz3 (vs : List Nat) (g : MG) (tt : MT) (te : ME) (ds acc : List D) : Rs (D × Env) → Rs (D × Env)
  | .ok p => if acc.length < sizeLine then mLcLoop vs g tt te ds (acc ++ [p.1]) (wipeE p.2 vs) else .err
  | _ => .err
def kz2 (vs : List Nat) (g : MG) (tt : MT) (te : ME) (ds acc : List D) : Rs (Bool × Env) → Rs (D × Env)
  | .ok p => if p.1 = true then kz3 vs g tt te ds acc (te p.2) else mLcLoop vs g tt te ds acc (wipeE p.2 vs)
  | _ => .err
def kz1 (vs : List Nat) (g : MG) (tt : MT) (te : ME) (ds acc : List D) : Option Env → Rs (D × Env)
  | some e => kz2 vs g tt te ds acc (tt e)
  | none => .err
theorem lc_nil {vs : List Nat} {g : MG} {acc : List D} : mLcLoop vs g t ma [] acc e = .ok (.own acc, e) := rfl
theorem lc_cons {vs : List Nat} {g : MG} {acc : List D} : mLcLoop vs g t ma (d :: ds) acc e = kz1 vs g t ma ds acc (g d e) := by
  unfold kz1
  show (match g d e with
    | none => Rs.err
    | some e1 => match t e1 with
      | .ok (true, e2) => match ma e2 with
        | .ok (y, e3) => if acc.length < sizeLine then mLcLoop vs g t ma ds (acc ++ [y]) (wipeE e3 vs) else .err
        | _ => .err
      | .ok (false, e2) => mLcLoop vs g t ma ds acc (wipeE e2 vs)
      | _ => .err) = _
  cases g d e with
  | none => rfl
  | some e1 =>
    simp only [kz2]
    cases t e1 with
    | ok p =>
      obtain ⟨b, e2⟩ := p
      cases b
      · rfl
      · simp only [kz3]; cases ma e2 <;> rfl
    | exc _ _ _ => rfl
    | err => rfl
theorem kz1_some {vs : List Nat} {g : MG} {acc : List D} : kz1 vs g t ma ds acc (some e) = kz2 vs g t ma ds acc (t e) := rfl
theorem kz2_ok {vs : List Nat} {g : MG} {acc : List D} : kz2 vs g t ma ds acc (.ok (b, e)) = if b = true then kz3 vs g t ma ds acc (ma e) else mLcLoop vs g t ma ds acc (wipeE e vs) := rfl
theorem kz3_ok {vs : List Nat} {g : MG} {acc : List D} : kz3 vs g t ma ds acc (.ok (d, e)) = if acc.length < sizeLine then mLcLoop vs g t ma ds (acc ++ [d]) (wipeE e vs) else .err := rfl
theorem mYes_ap : mYes e = .ok (true, e) := rfl
/-! the rest -/
def kU2 (f : D → D → Option D) (i : Nat) (x : Int) : Rs (D × Env) → Sr
  | .ok p => (match f (.int x) p.1 with
    | some z => if i < p.2.length then .nx (p.2.set i (some z)) else .err
    | none => .err)
  | .exc c fs e' => .exc c fs e'
  | .err => .err
def kU (f : D → D → Option D) (i : Nat) (ma : ME) (e : Env) : Option (Option D) → Sr
  | some (some (.int x)) => kU2 f i x (ma e)
  | _ => .err
theorem mAug_ap : mAug f2 i ma e = kU f2 i ma e e[i]? := by
  unfold mAug kU
  rcases e[i]? with _ | _ | d
  · rfl
  · rfl
  · cases d <;> try rfl
    simp only [kU2]
    cases ma e <;> rfl
theorem kU_some {x : Int} : kU f2 i ma e (some (some (.int x))) = kU2 f2 i x (ma e) := rfl
theorem kU2_int {x y : Int} : kU2 dAddI i x (.ok (.int y, e)) = if i < e.length then .nx (e.set i (some (.int (x + y)))) else .err := rfl
def kTr (i : Nat) (names : List Str) (ms : Str → List (Str × Int) → MS) : Sr → Sr
  | .exc c fs e' => if names.contains c = true ∧ i < e'.length then (match ms c fs (e'.set i none) with
    | .nx e2 => .nx (e2.set i none)
    | .bk e2 => .bk (e2.set i none)
    | .ct e2 => .ct (e2.set i none)
    | .exc _ _ _ => .err
    | r => r) else .err
  | r => r
theorem mTry_ap {ns : List Str} {ms : Str → List (Str × Int) → MS} : mTry i ns s ms e = kTr i ns ms (s e) := by unfold mTry kTr; cases s e <;> rfl
theorem kTr_nx {ns : List Str} {ms : Str → List (Str × Int) → MS} : kTr i ns ms (.nx e) = .nx e := rfl
theorem kTr_rt {ns : List Str} {ms : Str → List (Str × Int) → MS} : kTr i ns ms (.rt d e) = .rt d e := rfl
theorem kTr_exc {ns : List Str} {kd : Str → Option Str} {r : Str} (h : kd c = some r) (hn : ns.contains c = true) : kTr i ns (mKindS j kd) (.exc c [] e) = if i < e.length ∧ j < e.length then .nx (((e.set i none).set j (some (.str r))).set i none) else .err := by
  unfold kTr mKindS
  simp only [h, hn, true_and, ne_eq, not_true_eq_false, if_false, List.length_set]
  by_cases hi : i < e.length
  · rw [if_pos hi]
    by_cases hj : j < e.length
    · rw [if_pos hj, if_pos ⟨hi, hj⟩]
    · rw [if_neg hj, if_neg fun z => hj z.2]
  · rw [if_neg hi, if_neg fun z => hi z.1]
def kMe2 (f : D → D → Option D) (d : D) : Rs (D × Env) → Rs (D × Env) := k2b f d
def kMe (f : D → D → Option D) (mb : ME) : Rs (D × Env) → Rs (D × Env)
  | .ok p => (match litems p.1 with
    | some _ => k2b f p.1 (mb p.2)
    | none => .err)
  | .exc c fs e => .exc c fs e
  | .err => .err
theorem mMeth_ap : mMeth f2 ma mb e = kMe f2 mb (ma e) := by
  unfold mMeth kMe Rs.bind
  cases ma e with
  | ok p =>
    simp only
    cases litems p.1 with
    | none => rfl
    | some _ =>
      simp only [k2b]
      cases mb p.2 with
      | ok q => simp only; cases f2 p.1 q.1 <;> rfl
      | exc _ _ _ => rfl
      | err => rfl
  | exc _ _ _ => rfl
  | err => rfl
theorem kMe_lst {f : D → D → Option D} : kMe f mb (.ok (.lst ds, e)) = k2b f (.lst ds) (mb e) := rfl
theorem kMe_own {f : D → D → Option D} : kMe f mb (.ok (.own ds, e)) = k2b f (.own ds) (mb e) := rfl
theorem mIsE_ap {a : Addr} (h : (e : List (Option D))[i]? = some (some (.raw (V.ref a)))) : mIsE i a b e = .ok (.bl b, e) := by
  unfold mIsE
  rw [h]
  simp
def kAp3 (i : Nat) (d : D) (e : Env) : Option (List D) → Rs (D × Env)
  | some ds => if ds.length < sizeLine then .ok (.non, e.set i (some (.own (ds ++ [d])))) else .err
  | none => .err
def kAp2 (i : Nat) : Rs (D × Env) → Rs (D × Env)
  | .ok p => kAp3 i p.1 p.2 (ownAt p.2 i)
  | .exc c fs e => .exc c fs e
  | .err => .err
def kAp (i : Nat) (ma : ME) (e : Env) : Option (List D) → Rs (D × Env)
  | some _ => kAp2 i (ma e)
  | none => .err
theorem mAppend_ap : mAppend i ma e = kAp i ma e (ownAt e i) := by
  unfold mAppend kAp
  cases ownAt e i with
  | none => rfl
  | some xs =>
    simp only [Rs.bind, kAp2]
    cases ma e with
    | ok p => simp only; cases ownAt p.2 i <;> rfl
    | exc _ _ _ => rfl
    | err => rfl
theorem kAp_some : kAp i ma e (some ds) = kAp2 i (ma e) := rfl
theorem kAp2_ok : kAp2 i (.ok (d, e)) = kAp3 i d e (ownAt e i) := rfl
theorem kAp3_some : kAp3 i d e (some ds) = if ds.length < sizeLine then .ok (.non, e.set i (some (.own (ds ++ [d])))) else .err := rfl
end
/-! ### the ops of numbers -/
section
variable {i j : Int} {x y : List D} {a b : Str} {d : D} {ds : List D}
theorem dAdd_int : dAdd (.int i) (.int j) = some (.int (i + j)) := rfl
theorem dAdd_str (h : a.length + b.length ≤ sizeLine) : dAdd (.str a) (.str b) = some (.str (a ++ b)) := by
  show ((none.or (if a.length + b.length ≤ sizeLine then some (D.str (a ++ b)) else none)).or none).or _ = _
  rw [if_pos h]; rfl
theorem dAdd_tup (h : x.length + y.length ≤ sizeLine) : dAdd (.tup x) (.tup y) = some (.tup (x ++ y)) := by
  show ((none.or none).or (if x.length + y.length ≤ sizeLine then some (D.tup (x ++ y)) else none)).or _ = _
  rw [if_pos h]; rfl
theorem dAdd_ll (h : x.length + y.length ≤ sizeLine) : dAdd (.lst x) (.lst y) = some (.own (x ++ y)) := by
  show (if x.length + y.length ≤ sizeLine then some (D.own (x ++ y)) else none) = _
  rw [if_pos h]
theorem dAdd_lo (h : x.length + y.length ≤ sizeLine) : dAdd (.lst x) (.own y) = some (.own (x ++ y)) := by
  show (if x.length + y.length ≤ sizeLine then some (D.own (x ++ y)) else none) = _
  rw [if_pos h]
theorem dAdd_ol (h : x.length + y.length ≤ sizeLine) : dAdd (.own x) (.lst y) = some (.own (x ++ y)) := by
  show (if x.length + y.length ≤ sizeLine then some (D.own (x ++ y)) else none) = _
  rw [if_pos h]
theorem dAdd_oo (h : x.length + y.length ≤ sizeLine) : dAdd (.own x) (.own y) = some (.own (x ++ y)) := by
  show (if x.length + y.length ≤ sizeLine then some (D.own (x ++ y)) else none) = _
  rw [if_pos h]
theorem dSub_int : dSub (.int i) (.int j) = some (.int (i - j)) := rfl
theorem dMul_int (h : CMulX i j) : dMul (.int i) (.int j) = some (.int (i * j)) := by
  show (if CMulX i j then some (D.int (i * j)) else none).or _ = _
  rw [if_pos h]; rfl
theorem dMod_int (h : 0 < j) : dMod (.int i) (.int j) = some (.int (i % j)) := by
  show (if 0 < j then some (D.int (i % j)) else none) = _
  rw [if_pos h]
theorem dFdiv_int (h : CDivW i j) : dFdiv (.int i) (.int j) = some (.int (i / j)) := by
  show (if CDivW i j then some (D.int (i / j)) else none) = _
  rw [if_pos h]
theorem dPow_int (h : CPow i j) : dPow (.int i) (.int j) = some (.int (i ^ j.toNat)) := by
  show (if CPow i j then some (D.int (i ^ j.toNat)) else none) = _
  rw [if_pos h]
theorem dNeg_int : dNeg (.int i) = some (.int (-i)) := rfl
theorem dDivmod_int (h : CDivP i j) : dDivmod (.int i) (.int j) = some (.tup [.int (i / j), .int (i % j)]) := by
  show (if CDivP i j then some (D.tup [.int (i / j), .int (i % j)]) else none) = _
  rw [if_pos h]
theorem dGt_int : dGt (.int i) (.int j) = some (.bl (decide (j < i))) := rfl
theorem dGe_int : dGe (.int i) (.int j) = some (.bl (decide (j ≤ i))) := rfl
theorem dLe_int : dLe (.int i) (.int j) = some (.bl (decide (i ≤ j))) := rfl
theorem dLtI_int : dLtI (.int i) (.int j) = some (.bl (decide (i < j))) := rfl
theorem dLt_int : dLt (.int i) (.int j) = some (.bl (decide (i < j))) := rfl
theorem dEq_int : dEq (.int i) (.int j) = some (.bl (decide (i = j))) := by
  show some (D.bl (PyData.eqv (.int i) (.int j))) = _
  rfl
theorem dNe_int : dNe (.int i) (.int j) = some (.bl (!decide (i = j))) := by
  show some (D.bl (!PyData.eqv (.int i) (.int j))) = _
  rfl
theorem dMax2_int : dMax2 (.int i) (.int j) = some (.int (if j > i then j else i)) := rfl
theorem dMin2_int : dMin2 (.int i) (.int j) = some (.int (if j < i then j else i)) := rfl
theorem fn1_ap {f : D → Option D} : fn1 f [d] = f d := rfl
theorem fn2_ap {f : D → D → Option D} {d2 : D} : fn2 f [d, d2] = f d d2 := rfl
theorem dLen_tup : dLen (.tup ds) = some (.int ds.length) := rfl
theorem dLen_lst : dLen (.lst ds) = some (.int ds.length) := rfl
theorem dLen_cst : dLen (.cst ds) = some (.int ds.length) := rfl
theorem dLen_own : dLen (.own ds) = some (.int ds.length) := rfl
theorem cmulx_of {m n : Nat} (hi : i.natAbs < 2 ^ m) (hj : j.natAbs < 2 ^ n) (h : m + n ≤ 134217728) : CMulX i j := by
  have x := PyProof.Rows.intBits_le hi
  have y := PyProof.Rows.intBits_le hj
  unfold CMulX
  omega
theorem cmulx64 (hi : i.natAbs < 2 ^ 64) (hj : j.natAbs < 2 ^ 64) : CMulX i j := cmulx_of hi hj (by decide)
end
end Mi
namespace Mi
open PySem PySem.Spec PyProof.Rows L2
section
variable {e : Env} {d : D} {ds ys : List D} {c : Str} {fs : List (Str × Int)} {b : MS} {n : Nat}
def kfn : Sr → Fr
  | .nx _ => .ok .non
  | .rt d _ => .ok d
  | .exc c fs _ => .exc c fs
  | _ => .err
theorem fnM_ap : fnM n b ds = kfn (b (envOf n ds)) := by unfold fnM kfn; cases b (envOf n ds) <;> rfl
theorem kfn_nx : kfn (.nx e) = .ok .non := rfl
theorem kfn_rt : kfn (.rt d e) = .ok d := rfl
theorem kfn_exc : kfn (.exc c fs e) = .exc c fs := rfl
def kfo1 (d : D) : Option (Option D) → Fo
  | some (some (.own ys)) => if plains ys = true then .ok d ys else .err
  | _ => .err
def kfo : Sr → Fo
  | .nx e => kfo1 .non (e[0]? : Option (Option D))
  | .rt d e => kfo1 d (e[0]? : Option (Option D))
  | _ => .err
theorem fnO_ap {xs : List D} : fnO n b xs ds = kfo (b (envOf n (.own xs :: ds))) := by
  unfold fnO kfo
  cases b (envOf n (.own xs :: ds)) with
  | nx e => simp only; rcases (e : List (Option D))[0]? with _ | _ | d <;> first | rfl | (cases d <;> rfl)
  | rt d e => simp only; rcases (e : List (Option D))[0]? with _ | _ | d <;> first | rfl | (cases d <;> rfl)
  | exc _ _ _ => rfl
  | bk _ => rfl
  | ct _ => rfl
  | err => rfl
theorem kfo_nx : kfo (.nx (some (.own ys) :: e)) = if plains ys = true then .ok .non ys else .err := rfl
theorem kfo_rt : kfo (.rt d (some (.own ys) :: e)) = if plains ys = true then .ok d ys else .err := rfl
theorem env0 : envOf 0 [] = [] := rfl
theorem envN {n : Nat} : envOf (n + 1) [] = none :: envOf n [] := by
  unfold envOf
  simp [List.replicate_succ]
theorem envS {n : Nat} : envOf (n + 1) (d :: ds) = some d :: envOf n ds := by
  unfold envOf
  simp
theorem wipeN : wipeE e [] = e := rfl
theorem wipeS {i : Nat} {vs : List Nat} : wipeE e (i :: vs) = (wipeE e vs).set i none := rfl
theorem lit_own : litems (.own ds) = some ds := rfl
theorem lit_lst : litems (.lst ds) = some ds := rfl
theorem lit_cst : litems (.cst ds) = some ds := rfl
theorem ix_own {k : Int} : dIxS (.own ds) (.int k) = (atI ds k).bind fun x => if x.plain = true then some x else none := rfl
theorem ix_lst {k : Int} : dIxS (.lst ds) (.int k) = if plains ds = true then atI ds k else none := rfl
theorem ix_cst {k : Int} : dIxS (.cst ds) (.int k) = if plains ds = true then atI ds k else none := rfl
theorem ix_tup {k : Int} : dIxS (.tup ds) (.int k) = if plains ds = true then atI ds k else none := rfl
theorem dix_own {k : Int} : dIx (.own ds) (.int k) = atI ds k := rfl
theorem dix_lst {k : Int} : dIx (.lst ds) (.int k) = atI ds k := rfl
theorem dix_cst {k : Int} : dIx (.cst ds) (.int k) = atI ds k := rfl
theorem dix_tup {k : Int} : dIx (.tup ds) (.int k) = atI ds k := rfl
theorem rng0 {lo : Int} : rangeD lo 0 = [] := rfl
theorem rngS {lo : Int} {n : Nat} : rangeD lo (n + 1) = .int lo :: rangeD (lo + 1) n := by
  unfold rangeD
  rw [List.range_succ_eq_map, List.map_cons, List.map_map]
  congr 1
  · simp
  · refine List.map_congr_left fun i _ => ?_
    simp only [Function.comp]
    congr 1
    push_cast
    omega
end
/-- the law's promise, without errors -/
def spL (K : PySem.W.Frag) (F : MF) : Sp := fun vs H Q _ => ∃ ds P, ds.length = 1 ∧ Reps K P H ds vs ∧ Mut' P H ∧ ∃ d, F ds = .ok d ∧ ∀ v H', Same H H' → RetOk K P H d v H' → Q v H'
theorem toL {P : Program} {w : World} {K : PySem.W.Frag} {mg : Str → Option Value} {base : Heap} {CX : CXT} {k : Nat} {f : Addr} {fd : FuncData} {ps : List Str} {F : MF} (h : FnOk P w K mg base CX k f fd ps (spF K mg 1 F)) : FnOk P w K mg base CX k f fd ps (spL K F) :=
  h.imp fun vs H Q E ⟨ds, P, a, b, c, d, e, g⟩ => ⟨ds, P, a, b, c, by rw [e]; exact g⟩
theorem end_lawL {K : PySem.W.Frag} {F : MF} {H : Hp} {a : Addr} {ns : List Int} (hF : F [.cst (ns.map D.int)] = .ok (.bl true)) (hO : Only H) (hS : SqL K H a (ns.map V.int)) :
    spL K F [.ref a] H (fun v _ => v = .bl true) (fun _ _ _ => False) := by
  refine ⟨[.cst (ns.map D.int)], fun _ => False, rfl, ?_, fun _ z => z.elim, _, hF, ?_⟩
  · unfold Reps
    refine ⟨_, _, rfl, ?_, by unfold Reps; rfl⟩
    unfold Rep
    exact ⟨a, _, rfl, only_cst hO hS, reps_ints ns⟩
  · intro v H' hs ⟨as, _, _, o⟩
    exact o.bl
end Mi
namespace Mi
open PySem PySem.Spec PyProof.Rows L2
theorem atI_pos {α : Type} {xs : List α} {i : Int} (h0 : 0 ≤ i) (h1 : i.toNat < xs.length) : atI xs i = xs[i.toNat]? := by
  unfold atI ixN
  rw [if_pos h0, if_pos (by omega)]
  rfl
theorem atI_last1 {α : Type} {xs : List α} (h : xs ≠ []) : atI xs (-1) = xs.getLast? := by
  unfold atI ixN
  have : 0 < xs.length := List.length_pos_iff.mpr h
  rw [if_neg (by omega), if_pos (by omega)]
  rw [List.getLast?_eq_getElem?]
  show xs[((-1 : Int) + (xs.length : Int)).toNat]? = _
  congr 1
  omega
theorem plains_ints : ∀ ns : List Int, plains (ns.map D.int) = true
  | [] => rfl
  | n :: ns => by
    show ((D.int n).plain && plains (ns.map D.int)) = true
    rw [plains_ints ns]
    rfl
theorem frzs_ints (ns : List Int) : frzs (ns.map D.int) = ns.map D.int := frzs_plain _ (plains_ints ns)
theorem cdivp_small {i j : Int} (h : 0 < j) (h2 : j < 2 ^ 64) : CDivP i j := by
  refine ⟨h, ?_⟩
  unfold Builtin.divisionGoesByPylong
  have hl : j.natAbs.log2 < 64 := (Nat.log2_lt (by omega)).mpr (by omega)
  have h3 : (if (j == 0) = true then 0 else j.natAbs.log2 / 30 + 1) ≤ 300 := by
    by_cases z : (j == 0) = true
    · rw [if_pos z]; omega
    · rw [if_neg z]; omega
  simp only [Bool.and_eq_false_iff, decide_eq_false_iff_not]
  exact .inl (by simpa using h3)
theorem cdivw_small {i j : Int} (h : 0 < j) (h2 : j < 2 ^ 64) : CDivW i j := by
  refine ⟨h, ?_⟩
  have hl : j.natAbs.log2 < 64 := (Nat.log2_lt (by omega)).mpr (by omega)
  omega
theorem natAbs_of_bits {z : Int} {n : Nat} (h : Builtin.Int.intBits z ≤ n) : z.natAbs < 2 ^ n := by
  exact PySem.intBits_le_iff.mp h
theorem natAbs_mul_lt {i j : Int} {m n : Nat} (hi : i.natAbs < 2 ^ m) (hj : j.natAbs < 2 ^ n) : (i * j).natAbs < 2 ^ (m + n) := by
  rw [Int.natAbs_mul, Nat.pow_add]
  exact Nat.mul_lt_mul'' hi hj
theorem natAbs_add_lt {i j : Int} {m n : Nat} (hi : i.natAbs < 2 ^ m) (hj : j.natAbs < 2 ^ n) (h : n ≤ m) : (i + j).natAbs < 2 ^ (m + 1) := by
  have : (2 : Nat) ^ n ≤ 2 ^ m := Nat.pow_le_pow_right (by decide) h
  have e : (2 : Nat) ^ (m + 1) = 2 ^ m * 2 := Nat.pow_succ ..
  generalize (2 : Nat) ^ (m + 1) = q at *
  generalize (2 : Nat) ^ m = p at *
  generalize (2 : Nat) ^ n = r at *
  omega
theorem natAbs_mono {i : Int} {m n : Nat} (hi : i.natAbs < 2 ^ m) (h : m ≤ n) : i.natAbs < 2 ^ n := Nat.lt_of_lt_of_le hi (Nat.pow_le_pow_right (by decide) h)
theorem natAbs_small {i : Int} (h : i.natAbs < 2 ^ 64) {n : Nat} (hn : 64 ≤ n) : i.natAbs < 2 ^ n := natAbs_mono h hn
theorem natAbs_ediv_lt {i j : Int} {n : Nat} (h : i.natAbs < 2 ^ n) (hj : 0 < j) : (i / j).natAbs < 2 ^ n := by
  have : (i / j).natAbs ≤ i.natAbs := by
    rcases Int.le_total 0 i with hi | hi
    · have h1 : 0 ≤ i / j := Int.ediv_nonneg hi (by omega)
      have h2 : i / j ≤ i := Int.ediv_le_self j hi
      omega
    · have h2 : i ≤ i / j := by
        have e : i = -(-i) := by omega
        have h3 : i / j * j ≤ i := Int.ediv_mul_le i (by omega)
        have h4 : i < (i / j + 1) * j := Int.lt_ediv_add_one_mul_self i hj
        by_cases hc : i / j < i
        · exfalso
          have h5 : i / j + 1 ≤ i := by omega
          have h6 : (i / j + 1) * j ≤ i * j := Int.mul_le_mul_of_nonneg_right h5 (by omega)
          have h7 : i * j ≤ i * 1 := Int.mul_le_mul_of_nonpos_left hi (by omega)
          omega
        · omega
      have h1 : i / j ≤ 0 := by
        by_cases hc : 0 < i / j
        · have := Int.ediv_mul_le i (show j ≠ 0 by omega)
          have h8 : 1 * j ≤ i / j * j := Int.mul_le_mul_of_nonneg_right (by omega) (by omega)
          omega
        · omega
      omega
  exact Nat.lt_of_le_of_lt this h
/-- what may be asked of a value -/
def dat : D → Bool
  | .raw _ => false
  | .non => true | .bl _ => true | .int _ => true | .str _ => true | .own _ => false
  | .tup ds => plains ds | .lst ds => plains ds | .cst ds => plains ds
theorem dat_plain {d : D} (h : dat d = true) : d.plain = true := by cases d <;> first | exact h | rfl | cases h
theorem dat_frz {d : D} (h : dat d = true) : d.frz = d := frz_plain d (dat_plain h)
def isW : D → Bool
  | .int _ => true
  | _ => false
def btw (d : D) (lo hi : Int) : Bool := match d with
  | .int n => decide (lo ≤ n) && decide (n ≤ hi)
  | _ => false
theorem isW_int {d : D} : isW d = true → ∃ n, d = .int n := by cases d <;> intro h <;> first | exact ⟨_, rfl⟩ | cases h
theorem isi_int {d : D} (h : dat d = true) : fn2 dIsi [d, .raw (.ty "int")] = some (.bl (match d with | .int _ => true | .bl _ => true | _ => false)) := by
  cases d <;> first | rfl | cases h
theorem isi_bool {d : D} (h : dat d = true) : fn2 dIsi [d, .raw (.ty "bool")] = some (.bl (match d with | .bl _ => true | _ => false)) := by
  cases d <;> first | rfl | cases h
theorem isi_tup {d : D} (h : dat d = true) : fn2 dIsi [d, .raw (.ty "tuple")] = some (.bl (match d with | .tup _ => true | _ => false)) := by
  cases d <;> first | rfl | cases h
theorem dNot_bl {b : Bool} : dNot (.bl b) = some (.bl (!b)) := rfl
theorem kit_of {K : PySem.W.Frag} {A B : Addr} {b : Bool} (c : PySem.W.isClsIn K B = true) (t : PySem.W.typeIn K (.ref B) = some (.type "type")) (s : PySem.W.subIn K (.ref A) (.ref B) = some b) (i : PySem.W.subIn K (.ref A) (.ref A) = some true) : PySem.W.kitOne K (.ref A) (.ref B) = some b := by
  unfold PySem.W.kitOne
  by_cases z : ((Value.ref A) == (Value.ref B)) = true
  · rw [if_pos z]
    have e : Value.ref A = Value.ref B := by simpa using z
    cases e
    rw [i] at s
    exact s
  · rw [if_neg z]
    have c' : (PySem.W.clsIn K B).isSome = true := c
    have e2 : ((PySem.W.clsIn K B).isSome && PySem.W.typeIn K (.ref B) == some (.type "type")) = true := by rw [c', t] <;> rfl
    show (if ((PySem.W.clsIn K B).isSome && PySem.W.typeIn K (.ref B) == some (.type "type")) = true then PySem.W.subIn K (.ref A) (.ref B) else none) = _
    rw [if_pos e2]
    exact s
theorem kit_verr {K : PySem.W.Frag} {A : Addr} (s : PySem.W.subIn K (.ref A) (.type "ValueError") = some true) : PySem.W.kitOne K (.ref A) (.type "ValueError") = some true := by
  unfold PySem.W.kitOne
  have z : ((Value.ref A) == (Value.type "ValueError")) = false := rfl
  rw [z, if_neg Bool.false_ne_true]
  have e2 : PySem.W.kitMeta "ValueError" = true := by decide +kernel
  show (if PySem.W.kitMeta "ValueError" = true then PySem.W.subIn K (.ref A) (.type "ValueError") else none) = _
  rw [if_pos e2]
  exact s
theorem exm_of {K : PySem.W.Frag} {A B : Addr} (h1 : PySem.W.subIn K (.ref B) (.type "BaseException") = some true) (c : PySem.W.isClsIn K B = true) (t : PySem.W.typeIn K (.ref B) = some (.type "type")) (s : PySem.W.subIn K (.ref A) (.ref B) = some true) : PySem.W.exmOne K (.ref A) (.ref B) = some true := by
  have e1 : (PySem.W.subIn K (.ref B) (.type "BaseException") == some true) = true := by rw [h1] <;> rfl
  have c' : (PySem.W.clsIn K B).isSome = true := c
  have e2 : ((PySem.W.clsIn K B).isSome && PySem.W.typeIn K (.ref B) == some (.type "type")) = true := by rw [c', t] <;> rfl
  show (if (PySem.W.subIn K (.ref B) (.type "BaseException") == some true) = true then (if ((PySem.W.clsIn K B).isSome && PySem.W.typeIn K (.ref B) == some (.type "type")) = true then PySem.W.subIn K (.ref A) (.ref B) else none) else none) = some true
  rw [if_pos e1, if_pos e2]
  exact s
end Mi
namespace Mi
open PySem PySem.Spec PyProof.Rows L2
theorem loop_inv {g : MG} {body : MS} (P : Env → Prop) : ∀ (ds : List D), (∀ d ∈ ds, ∀ e, P e → ∃ e1 e2, g d e = some e1 ∧ body e1 = .nx e2 ∧ P e2) → ∀ e, P e → ∃ e', mLoop g body ds e = .nx e' ∧ P e'
  | [], h, e, p => ⟨e, rfl, p⟩
  | d :: ds, h, e, p => by
    obtain ⟨e1, e2, h1, h2, h3⟩ := h d List.mem_cons_self e p
    obtain ⟨e', h4, h5⟩ := loop_inv P ds (fun d hd => h d (List.mem_cons_of_mem _ hd)) e2 h3
    refine ⟨e', ?_, h5⟩
    rw [mLoop_cons, h1, kl1_some, h2, kl2_nx, h4]
theorem mem_range {lo : Int} {n : Nat} {d : D} (h : d ∈ rangeD lo n) : ∃ i : Nat, i < n ∧ d = .int (lo + i) := by
  unfold rangeD at h
  obtain ⟨i, h1, rfl⟩ := List.mem_map.mp h
  exact ⟨i, List.mem_range.mp h1, rfl⟩
theorem btw_int {n lo hi : Int} : btw (.int n) lo hi = (decide (lo ≤ n) && decide (n ≤ hi)) := rfl
theorem btw_bl {b : Bool} {lo hi : Int} : btw (.bl b) lo hi = false := rfl
theorem btw_non {lo hi : Int} : btw .non lo hi = false := rfl
theorem btw_str {s : Str} {lo hi : Int} : btw (.str s) lo hi = false := rfl
theorem is_non_int  : dIsi .non (.raw (.ty "int")) = some (.bl false) := rfl
theorem is_bl_int {b : Bool} : dIsi (.bl b) (.raw (.ty "int")) = some (.bl true) := rfl
theorem is_int_int {i : Int} : dIsi (.int i) (.raw (.ty "int")) = some (.bl true) := rfl
theorem is_str_int {s : Str} : dIsi (.str s) (.raw (.ty "int")) = some (.bl false) := rfl
theorem is_tup_int {ds : List D} : dIsi (.tup ds) (.raw (.ty "int")) = some (.bl false) := rfl
theorem is_lst_int {ds : List D} : dIsi (.lst ds) (.raw (.ty "int")) = some (.bl false) := rfl
theorem is_cst_int {ds : List D} : dIsi (.cst ds) (.raw (.ty "int")) = some (.bl false) := rfl
theorem is_own_int {ds : List D} : dIsi (.own ds) (.raw (.ty "int")) = some (.bl false) := rfl
theorem is_non_bool  : dIsi .non (.raw (.ty "bool")) = some (.bl false) := rfl
theorem is_bl_bool {b : Bool} : dIsi (.bl b) (.raw (.ty "bool")) = some (.bl true) := rfl
theorem is_int_bool {i : Int} : dIsi (.int i) (.raw (.ty "bool")) = some (.bl false) := rfl
theorem is_str_bool {s : Str} : dIsi (.str s) (.raw (.ty "bool")) = some (.bl false) := rfl
theorem is_tup_bool {ds : List D} : dIsi (.tup ds) (.raw (.ty "bool")) = some (.bl false) := rfl
theorem is_lst_bool {ds : List D} : dIsi (.lst ds) (.raw (.ty "bool")) = some (.bl false) := rfl
theorem is_cst_bool {ds : List D} : dIsi (.cst ds) (.raw (.ty "bool")) = some (.bl false) := rfl
theorem is_own_bool {ds : List D} : dIsi (.own ds) (.raw (.ty "bool")) = some (.bl false) := rfl
theorem is_non_tuple  : dIsi .non (.raw (.ty "tuple")) = some (.bl false) := rfl
theorem is_bl_tuple {b : Bool} : dIsi (.bl b) (.raw (.ty "tuple")) = some (.bl false) := rfl
theorem is_int_tuple {i : Int} : dIsi (.int i) (.raw (.ty "tuple")) = some (.bl false) := rfl
theorem is_str_tuple {s : Str} : dIsi (.str s) (.raw (.ty "tuple")) = some (.bl false) := rfl
theorem is_tup_tuple {ds : List D} : dIsi (.tup ds) (.raw (.ty "tuple")) = some (.bl true) := rfl
theorem is_lst_tuple {ds : List D} : dIsi (.lst ds) (.raw (.ty "tuple")) = some (.bl false) := rfl
theorem is_cst_tuple {ds : List D} : dIsi (.cst ds) (.raw (.ty "tuple")) = some (.bl false) := rfl
theorem is_own_tuple {ds : List D} : dIsi (.own ds) (.raw (.ty "tuple")) = some (.bl false) := rfl
theorem is_non_list  : dIsi .non (.raw (.ty "list")) = some (.bl false) := rfl
theorem is_bl_list {b : Bool} : dIsi (.bl b) (.raw (.ty "list")) = some (.bl false) := rfl
theorem is_int_list {i : Int} : dIsi (.int i) (.raw (.ty "list")) = some (.bl false) := rfl
theorem is_str_list {s : Str} : dIsi (.str s) (.raw (.ty "list")) = some (.bl false) := rfl
theorem is_tup_list {ds : List D} : dIsi (.tup ds) (.raw (.ty "list")) = some (.bl false) := rfl
theorem is_lst_list {ds : List D} : dIsi (.lst ds) (.raw (.ty "list")) = some (.bl true) := rfl
theorem is_cst_list {ds : List D} : dIsi (.cst ds) (.raw (.ty "list")) = some (.bl true) := rfl
theorem is_own_list {ds : List D} : dIsi (.own ds) (.raw (.ty "list")) = some (.bl true) := rfl
theorem is_non_str  : dIsi .non (.raw (.ty "str")) = some (.bl false) := rfl
theorem is_bl_str {b : Bool} : dIsi (.bl b) (.raw (.ty "str")) = some (.bl false) := rfl
theorem is_int_str {i : Int} : dIsi (.int i) (.raw (.ty "str")) = some (.bl false) := rfl
theorem is_str_str {s : Str} : dIsi (.str s) (.raw (.ty "str")) = some (.bl true) := rfl
theorem is_tup_str {ds : List D} : dIsi (.tup ds) (.raw (.ty "str")) = some (.bl false) := rfl
theorem is_lst_str {ds : List D} : dIsi (.lst ds) (.raw (.ty "str")) = some (.bl false) := rfl
theorem is_cst_str {ds : List D} : dIsi (.cst ds) (.raw (.ty "str")) = some (.bl false) := rfl
theorem is_own_str {ds : List D} : dIsi (.own ds) (.raw (.ty "str")) = some (.bl false) := rfl
theorem cast_lit {n : Nat} : ((no_index (@OfNat.ofNat Nat n _) : Nat) : Int) = @OfNat.ofNat Int n _ := rfl
end Mi
/-! ### slices -/
namespace Mi
open PySem PySem.Spec PyProof.Rows L2
def cutL {α : Type} (xs : List α) (lo hi : Option Int) : List α := (xs.drop (HT.sIx xs.length 0 lo)).take (HT.sIx xs.length xs.length hi - HT.sIx xs.length 0 lo)
section
variable {K : PySem.W.Frag} {mg : Str → Option Value} {W : WX} {P : Addr → Prop} {H : Hp}
theorem Reps.drop : ∀ (n : Nat) {ds : List D} {vs : List V}, Reps K P H ds vs → Reps K P H (ds.drop n) (vs.drop n)
  | 0, ds, vs, h => h
  | n + 1, [], vs, h => by have h' := h; unfold Reps at h'; subst h'; exact h
  | n + 1, d :: ds, vs, h => by
    unfold Reps at h
    obtain ⟨v, r, rfl, _, h2⟩ := h
    exact Reps.drop n h2
theorem Reps.take : ∀ (n : Nat) {ds : List D} {vs : List V}, Reps K P H ds vs → Reps K P H (ds.take n) (vs.take n)
  | 0, ds, vs, h => by unfold Reps; rfl
  | n + 1, [], vs, h => by have h' := h; unfold Reps at h'; subst h'; exact h
  | n + 1, d :: ds, vs, h => by
    unfold Reps at h
    obtain ⟨v, r, rfl, h1, h2⟩ := h
    show Reps K P H (d :: ds.take n) (v :: r.take n)
    unfold Reps
    exact ⟨_, _, rfl, h1, Reps.take n h2⟩
theorem Reps.cut {ds : List D} {vs : List V} (lo hi : Option Int) (h : Reps K P H ds vs) : Reps K P H (cutL ds lo hi) (cutV vs lo hi) := by
  unfold cutL cutV
  rw [h.len]
  exact Reps.take _ (Reps.drop _ h)
def dSl : D → Option Int → Option Int → Option D
  | .tup ds, lo, hi => some (.tup (cutL ds lo hi))
  | .lst ds, lo, hi => some (.own (cutL ds lo hi))
  | .cst ds, lo, hi => some (.own (cutL ds lo hi))
  | .str z, lo, hi => if z.length ≤ sizeLine then some (.str (cutS z lo hi)) else none
  | _, _, _ => none
/-- all of it -/
abbrev rSlM (K : PySem.W.Frag) : V → Option Int → Option Int → Hp → VK → Prop := fun x lo hi H Q => (rSlA K x lo hi H Q ∨ rSlL K x lo hi H Q) ∨ rSlS x lo hi H Q
theorem ok_sl {Y H0 io T τ e s H a va lo hi d} {Q : VK} (hf : dSl a lo hi = some d) (r : Rel K Y H0 io (a :: T) (va :: τ) e s H) (q : ∀ v H', Rel K Y H0 io (d :: T) (v :: τ) e s H' → Q v H') : rSlM K va lo hi H Q := by
  cases a <;> simp only [dSl, reduceCtorEq] at hf
  case str z =>
    by_cases c : z.length ≤ sizeLine
    · rw [if_pos c] at hf
      cases hf
      obtain ⟨P, as, o⟩ := r.top
      obtain rfl := o.str
      exact .inr ⟨z, rfl, c, q _ _ r.pop.str⟩
    · rw [if_neg c] at hf; cases hf
  case tup ds =>
    cases hf
    obtain ⟨P, as, nd, o, g⟩ := r.swap1
    obtain ⟨p1, v1, rfl, t1, r1⟩ := o.tup
    refine .inl (.inl ⟨p1, v1, rfl, t1.sq, fun hw => ?_, fun _ p hp => ?_⟩)
    · have e1 : cutL ds lo hi = ds := by
        unfold cutL
        rw [← r1.len, hw.1, hw.2, r1.len]
        simp
      rw [e1] at q
      exact q _ _ r
    · have hs : Same H (upd H p (.tup (cutV v1 lo hi))) := same_new hp
      refine q _ _ (g _ (.tup (cutL ds lo hi)) _ [] hs List.nodup_nil (fun _ z => nomatch z) fun P' hP hT _ => Own.of ?_)
      have m := swap_plain (as := []) hs hP
      unfold Rep
      exact ⟨p, _, rfl, .inl (.inl ⟨upd_same, fun z => hT p _ z upd_same⟩), Reps.mono m _ (r1.cut lo hi)⟩
  case lst ds =>
    cases hf
    obtain ⟨P, as, nd, o, g⟩ := r.swap1
    obtain ⟨p1, v1, rfl, t1, r1⟩ := o.lst
    refine .inl (.inr ⟨p1, v1, rfl, SqL.of t1, fun l hl => ?_⟩)
    have hs : Same H (upd H l (.lst (cutV v1 lo hi))) := same_new hl
    refine q _ _ (g _ (.own (cutL ds lo hi)) _ [l] hs (by simp) (fun z hz => ?_) fun P' hP hT _ => ?_)
    · rw [List.mem_singleton] at hz
      subst hz
      exact ⟨.inr hl, _, upd_same⟩
    · unfold Own
      have m := swap_plain (as := [l]) hs hP
      exact ⟨l, _, [], rfl, upd_same, Owns.of (Reps.mono m _ (r1.cut lo hi)), rfl⟩
  case cst ds =>
    cases hf
    obtain ⟨P, as, nd, o, g⟩ := r.swap1
    obtain ⟨p1, v1, rfl, t1, r1⟩ := o.cst
    refine .inl (.inr ⟨p1, v1, rfl, t1.sq, fun l hl => ?_⟩)
    have hs : Same H (upd H l (.lst (cutV v1 lo hi))) := same_new hl
    refine q _ _ (g _ (.own (cutL ds lo hi)) _ [l] hs (by simp) (fun z hz => ?_) fun P' hP hT _ => ?_)
    · rw [List.mem_singleton] at hz
      subst hz
      exact ⟨.inr hl, _, upd_same⟩
    · unfold Own
      have m := swap_plain (as := [l]) hs hP
      exact ⟨l, _, [], rfl, upd_same, Owns.of (Reps.mono m _ (r1.cut lo hi)), rfl⟩
/-- the two ends -/
abbrev MO2 := Env → Rs (Option Int × Env)
def mPart (m : ME) : MO2 := fun e => (m e).bind fun p => match p.1 with
  | .int i => .ok (some i, p.2)
  | _ => .err
def mNoPart : MO2 := fun e => .ok (none, e)
section
variable (K : PySem.W.Frag) (mg : Str → Option Value) (W : WX) (Y : Addr → Prop) (H0 : Hp) (io : List (Nat × Addr)) (T : List D) (t : List V) (s : St)
def PostO (Q : Option Int → Hp → Prop) : Rs (Option Int × Env) → Prop
  | .ok p => ∀ H', Rel K Y H0 io T t p.2 s H' → Q p.1 H'
  | .exc c fs e' => ∀ cls dd H', XR mg H' c fs cls dd → Rel K Y H0 io T t e' s H' → W cls dd s H'
  | .err => False
end
def SimO (K : PySem.W.Frag) (mg : Str → Option Value) (W : WX) (t : TO) (m : MO2) : Prop := ∀ Y H0 io T τ e s H Q, Rel K Y H0 io T τ e s H → PostO K mg W Y H0 io T τ s Q (m e) → t s H Q
theorem sim_part {te : TE} {m : ME} (h : SimE K mg W te m) : SimO K mg W (tPart te) (mPart m) := by
  intro Y H0 io T τ e s H Q r p
  refine h.then r (P := PostO K mg W Y H0 io T τ s Q) p id (fun c fs e' h => h) fun d e1 p v H1 r1 => ?_
  cases d <;> try exact False.elim p
  rename_i i
  obtain rfl := r1.isInt
  exact ⟨i, rfl, p H1 r1.pop⟩
theorem sim_noPart : SimO K mg W tNoPart mNoPart := fun Y H0 io T τ e s H Q r p => p H r
def mSl (ma : ME) (ml mh : MO2) : ME := fun e => (ma e).bind fun p => (ml p.2).bind fun q => (mh q.2).bind fun r => Rs.of ((dSl p.1 q.1 r.1).map fun d => (d, r.2))
theorem sim_sl {te : TE} {tl th : TO} {ma : ME} {ml mh : MO2} (ha : SimE K mg W te ma) (hl : SimO K mg W tl ml) (hh : SimO K mg W th mh) : SimE K mg W (tSl (rSlM K) te tl th) (mSl ma ml mh) := by
  intro Y H0 io T τ e s H Q r p
  refine ha.then r (P := PostE K mg W Y H0 io T τ s Q) p id postE_exc fun d e1 p v H1 r1 => ?_
  refine hl Y H0 io _ _ e1 s H1 _ r1 ?_
  simp only at p
  cases c1 : ml e1 with
  | err => rw [c1] at p; exact False.elim p
  | exc c fs e' => rw [c1] at p; exact fun cls dd H' x rl => p cls dd H' x rl.pop
  | ok z =>
    obtain ⟨lo, e2⟩ := z
    rw [c1] at p
    intro H2 r2
    refine hh Y H0 io _ _ e2 s H2 _ r2 ?_
    simp only [Rs.bind] at p
    cases c2 : mh e2 with
    | err => rw [c2] at p; exact False.elim p
    | exc c fs e' => rw [c2] at p; exact fun cls dd H' x rl => p cls dd H' x rl.pop
    | ok z =>
      obtain ⟨hi, e3⟩ := z
      rw [c2] at p
      intro H3 r3
      simp only at p
      cases c3 : dSl d lo hi with
      | none => rw [c3] at p; exact False.elim p
      | some x => rw [c3] at p; exact ok_sl c3 r3 p
end
def DO (X : Cx) (W : WX) (o : Option Expr) (m : MO2) : Prop := ∃ t, PO X o t ∧ SimO X.K X.mg W t m
section
variable {X : Cx} {W : WX} {pos p2 : Pos} {a : Expr} {lo hi : Option Expr} {ma : ME} {ml mh : MO2}
theorem do_none : DO X W none mNoPart := ⟨_, po_none, sim_noPart⟩
theorem do_some (h : DE X W a ma) : DO X W (some a) (mPart ma) := by
  obtain ⟨t, p, s⟩ := h
  exact ⟨_, po_some p, sim_part s⟩
theorem de_sl (ha : DE X W a ma) (hl : DO X W lo ml) (hh : DO X W hi mh) : DE X W (.Subscript a (.Slice lo hi none p2) pos) (mSl ma ml mh) := by
  obtain ⟨t, p, s⟩ := ha
  obtain ⟨tl, pl, sl⟩ := hl
  obtain ⟨th, ph, sh⟩ := hh
  exact ⟨_, pe_slice ((sl_tupA.or sl_list).or sl_str) p pl ph, sim_sl s sl sh⟩
end
end Mi
/-! ### a def out of a list: [f, g][i](..) -/
namespace Mi
open PySem PySem.Spec PyProof.Rows L2
/-- the def at f comes to F -/
structure FnE (X : Cx) (F : MF) (n : Nat) (f : Addr) : Prop where
  ex : ∃ (k : Nat) (fd : FuncData) (ps : List Str), FnOk X.prog X.w X.K X.mg X.base (L2N.CX X.prog X.w) k f fd ps (spF X.K X.mg n F) ∧ Room k X.A ∧ Binds X.K fd ps []
  kp : PySem.W.keepIn X.K (.ref f) = true
def tCallF (K : PySem.W.Frag) (mg : Str → Option Value) (n : Nat) (Ok : MF → Addr → Prop) (E : St → XK) (tf : TE) (t : TA) : TE := fun σ H Q => tf σ H fun x H1 => ∃ f F, x = V.ref f ∧ Ok F f ∧ t σ H1 fun vs H2 => spF K mg n F vs H2 Q (E σ)
section
variable {X : Cx} {W : WX} {pos : Pos} {fe e : Expr} {es : List Expr} {tf : TE} {t : TA} {n : Nat}
theorem pe_callF (hf : PE X fe tf) {E : St → XK} (hx : ∀ σ, PassesAt (L2N.CX X.prog X.w) X σ (E σ)) (ha : PA X (e :: es) t)
    (ht : eval (.Call fe (e :: es) [] pos) X.env = (do callWith pos (← eval fe X.env) [] (backTo pos (starEach (e :: es) X.env)) (backToKw pos (keywordEach [] X.env))) := by rfl)
    (he : starEach (e :: es) X.env = (false, eval e X.env) :: starEach es X.env := by rfl) (hpl : (backTo pos (starEach es X.env)).any (·.1) = false := by rfl) : PE X (.Call fe (e :: es) [] pos) (tCallF X.K X.mg n (fun F f => FnE X F n f) E tf t) := by
  refine ⟨fun pins s σ H Q I h => ?_⟩
  refine Call_ (thn (hf.run pins s σ H _ I h) fun u s1 ⟨y, H1, I1, ry, f, F, ey, G, q⟩ => ?_) ht
  subst ey
  obtain rfl : u = Value.ref f := ry
  obtain ⟨k, fd, ps, g1, g2, g3⟩ := G.ex
  refine PySem.W.callWith_K (h₀ := X.base) I1.ok.mod.kin G.kp (thn (ha.run pos pins s1 σ H1 _ I1 q) fun us s2 ⟨vs, H2, I2, r, q2⟩ => ⟨I2.kIn, ?_⟩) he hpl
  exact run_fnS g1 g2 g3 (hx σ) I2 r q2
end
def mRaws : List Addr → MA
  | [] => mNil
  | f :: fs => mCons (mC (.raw (.ref f))) (mRaws fs)
def mPick (Fs : List MF) (mi : ME) (ma : MA) : ME := fun e => (mi e).bind fun p => match p.1 with
  | .int j => match atI Fs j with
    | some F => mCall F ma p.2
    | none => .err
  | _ => .err
theorem mRaws_ap : ∀ (fs : List Addr) (e : Env), mRaws fs e = .ok (fs.map fun f => D.raw (.ref f), e)
  | [], e => rfl
  | f :: fs, e => by
    show mCons _ _ e = _
    unfold mCons mC Rs.bind
    simp only [mRaws_ap fs e]
    rfl
theorem sim_pick {K : PySem.W.Frag} {mg : Str → Option Value} {W : WX} {n : Nat} {Ok : MF → Addr → Prop} {fs : List Addr} {Fs : List MF} {tl ti : TE} {t : TA} {mi : ME} {ma : MA}
    (hl : SimE K mg W tl (mLst (mRaws fs))) (hz : fs.length ≤ sizeLine) (hi : SimE K mg W ti mi) (ha : SimA K mg W t ma) (hn : ∀ e ds e', ma e = .ok (ds, e') → ds.length = n)
    (hlen : fs.length = Fs.length) (hF : ∀ (j : Nat) f F, fs[j]? = some f → Fs[j]? = some F → Ok F f) : SimE K mg W (tCallF K mg n Ok (WE W) (tOp (rIx K) tl ti) t) (mPick Fs mi ma) := by
  intro Y H0 io T τ e s H Q r p
  have hc : SimE K mg W (tOp (rIx K) tl ti) (mOp2 dIx (mLst (mRaws fs)) mi) := sim_op2 ok_ix hl hi
  refine hc Y H0 io T τ e s H _ r ?_
  unfold mPick at p
  unfold mOp2 mLst
  rw [mRaws_ap]
  simp only [Rs.bind, List.length_map, if_pos hz]
  cases c1 : mi e with
  | err => rw [c1] at p; exact False.elim p
  | exc c f2 e' => rw [c1] at p; exact p
  | ok z =>
    obtain ⟨k, e1⟩ := z
    rw [c1] at p
    simp only [Rs.bind] at p ⊢
    cases k <;> try exact False.elim p
    rename_i j
    simp only at p
    cases c2 : atI Fs j with
    | none => rw [c2] at p; exact False.elim p
    | some F =>
      rw [c2] at p
      simp only at p
      obtain ⟨q, hq, hback⟩ := atI_any (β := Addr) c2
      have hql : q < fs.length := by rw [hlen]; exact (List.getElem?_eq_some_iff.mp hq).1
      have e3 : atI fs j = some fs[q] := hback fs hlen _ (List.getElem?_eq_getElem hql)
      obtain ⟨q2, hq2, hback2⟩ := atI_any (β := D) e3
      have e4 : atI (fs.map fun f => D.raw (.ref f)) j = some (.raw (.ref fs[q])) := hback2 _ (List.length_map _) _ (by rw [List.getElem?_map, hq2]; rfl)
      show PostE K mg W Y H0 io T τ s _ (Rs.of (((items (.own (fs.map fun f => D.raw (.ref f)))).bind fun ds => atI ds j).map fun d => (d, e1)))
      show PostE K mg W Y H0 io T τ s _ (Rs.of ((atI (fs.map fun f => D.raw (.ref f)) j).map fun d => (d, e1)))
      rw [e4]
      intro v H1 r1
      obtain rfl := r1.isRaw
      refine ⟨fs[q], F, rfl, hF q _ _ (List.getElem?_eq_getElem hql) hq, ?_⟩
      have sc := sim_call (F := F) (n := n) ha hn
      exact sc Y H0 io T τ e1 s H1 Q r1.pop p
section
variable {X : Cx} {W : WX} {pos p1 p2 : Pos} {i e : Expr} {ns es : List Expr} {mi : ME} {mas : MA} {n : Nat} {fs : List Addr} {Fs : List MF}
theorem de_pick (hl : DA X W ns (mRaws fs)) (hi : DE X W i mi) (ha : DA X W (e :: es) mas) (tk : L2N.Takes X W) (hn : ∀ e ds e', mas e = .ok (ds, e') → ds.length = n) (hF : ∀ (j : Nat) f F, fs[j]? = some f → Fs[j]? = some F → FnE X F n f)
    (hlen : fs.length = Fs.length := by rfl) (hz : fs.length ≤ sizeLine := by exact Nat.le_of_ble_eq_true rfl) (hs : PlainIx i := by exact fun _ _ => rfl)
    (ht : eval (.Call (.Subscript (.List ns p1) i p2) (e :: es) [] pos) X.env = (do callWith pos (← eval (.Subscript (.List ns p1) i p2) X.env) [] (backTo pos (starEach (e :: es) X.env)) (backToKw pos (keywordEach [] X.env))) := by rfl)
    (he : starEach (e :: es) X.env = (false, eval e X.env) :: starEach es X.env := by rfl) (hpl : (backTo pos (starEach es X.env)).any (·.1) = false := by rfl) :
    DE X W (.Call (.Subscript (.List ns p1) i p2) (e :: es) [] pos) (mPick Fs mi mas) := by
  obtain ⟨tl, pl, sl⟩ := de_lst (pos := p1) hl
  obtain ⟨ti, pi, si⟩ := hi
  obtain ⟨t, pa, sa⟩ := ha
  exact ⟨_, pe_callF (pe_ix ix_seq pl pi hs) (fun σ => L2N.passAt tk σ) pa ht he hpl, sim_pick sl hz si sa hn hlen hF⟩
end
end Mi
/-! ### a list walked while an exception is handled -/
namespace Mi
open PySem PySem.Spec PyProof.Rows L2
section
variable {prog : Program} {w : World} {A : Around} {E : Value → Shared → Prop} {s : Shared}
theorem next_end_hot {it l x1 : Addr} {i : Nat} {items : Array Value} {Q : Option Value → Shared → Prop} (hot : HotX.HotAt A x1 s.heap) (hit : s.heap.IsListIter it l i) (hl : s.heap.IsList l items) (hx : items[i]? = none) (hn : it ≠ x1)
    (hQ : ∀ h', Heap.ExtBut it s.heap h' → Q none { s with heap := h' }) : wpAny (model prog w) A (pyNext (.ref it)) Q E s := by
  obtain ⟨o, ho, hc, hd⟩ := id hit
  obtain ⟨ol, hol, _, nl, hdl⟩ := hl
  obtain ⟨hh, o1, vs1, h1, d1, c1⟩ := hot
  unfold pyNext
  refine wpAny_bind (wpAny_attempt (wpAny_callSpecial?_slot (name := Str.ofString "__next__") hit.typeIs slot_listiter_next
    (wpAny_call_entry slot_listiter_next hit.typeIs entry_listiter_next ?_ (args_listiter_next _))))
  show wpAny _ _ (field (.ref it) 0 >>= _) _ _ s
  refine wpAny_bind (wpAny_field ho hd (x := .ref l) rfl ?_)
  show wpAny _ _ (if (Value.ref l == Value.none) = true then _ else _) _ _ s
  rw [if_neg (show ¬ ((Value.ref l == Value.none) = true) from Bool.false_ne_true)]
  show wpAny _ _ (field (.ref it) 1 >>= _) _ _ s
  refine wpAny_bind (wpAny_field ho hd (x := .int i 0) rfl ?_)
  show wpAny _ _ (seqItems? (.ref l) >>= _) _ _ s
  refine wpAny_bind (wpAny_seqItems hol hdl ?_)
  simp only [Int.toNat_natCast, hx]
  refine wpAny_bind (wpAny_rule (wpAny_bind (wpAny_setField ho hd (by simp) ?_)))
  show wpAny _ _ (newExc (.type "StopIteration") [] >>= _) _ _ _
  refine wpAny_bind ?_
  simp only [newExc, newTuple]
  refine wpAny_bind (wpAny_newObj_type ?_ (by size_fits))
  refine wpAny_bind (m := firstArgMember _ _) (wpAny_of_eq (a := Value.none) (by first | rfl | (simp only [firstArgMember]; rfl)) ?_)
  refine wpAny_newObj_type ?_ (by size_fits)
  have k0 : ∀ b o, b ≠ it → s.heap.get? b = some o → (((s.heap.update it (Obj.mapFields (·.setIfInBounds 0 Value.none))).push { cls := .type "tuple", data := .seq ([] : List Value).toArray })).get? b = some o := fun b o hb e => Heap.get?_push_of_some _ (by rw [Heap.get?_update_other _ _ (Ne.symm hb)]; exact e)
  have h1' := k0 x1 o1 hn.symm h1
  refine HotX.raiseNew_hot ⟨hh, o1, vs1, Heap.get?_push_of_some _ h1', d1, c1⟩ (Nat.ne_of_lt (Heap.lt_size h1')) (Heap.get?_push_size _ rfl) rfl (by first | (simp; done) | (simp; omega) | (simp only [Array.size_append]; simp; omega)) ?_
  refine wpAny_bind (wpAny_isInstance (T := "StopIteration") (b := true) ⟨_, Heap.get?_update_self _ (Heap.get?_push_size _ rfl) rfl, rfl⟩ isSubtype_stop ?_)
  refine wpAny_pure (hQ _ fun b o hb e => ?_)
  have k1 := k0 b o hb e
  refine (Heap.get?_update_other _ _ (Nat.ne_of_gt (Heap.lt_size k1))).trans ?_
  exact Heap.get?_push_of_some _ k1
def Pend (x1 : Addr) (h : Heap) : Prop := ∃ (o : Obj) (vs : Array Value), h.get? x1 = some o ∧ o.data = .fields vs ∧ vs[2]? = some .none
theorem Pend.at {x1 : Addr} {h h' : Heap} (p : Pend x1 h) (k : ∀ o, h.get? x1 = some o → h'.get? x1 = some o) : Pend x1 h' := by
  obtain ⟨o, vs, e, r⟩ := p
  exact ⟨o, vs, k o e, r⟩
theorem walks_hot (I ax x1 : Addr) (hh : A.handled = some (.ref x1)) (hne : ax ≠ I) (hx : x1 ≠ I) (items : Array Value) :
    PySem.Walks prog w A I [I, ax, x1] [I] items.size (fun i v => items[i]? = some v) (fun i h => (h.IsListIter I ax i ∧ h.IsList ax items) ∧ Pend x1 h) where
  sub := fun b hb => by simp at hb; simp [hb]
  frame := fun _ _ _ st hk => ⟨⟨st.1.1.at fun o e => hk I (by simp) o e, st.1.2.at fun o e => hk ax (by simp) o e⟩, st.2.at fun o e => hk x1 (by simp) o e⟩
  item := fun i s Q E hi st hQ => by
    refine wpAny_pyNext_list_item st.1.1 st.1.2 (x := items[i]) (by simp [hi]) fun h' hit' hs' => ?_
    exact hQ _ h' s.toks (by simp [hi]) ⟨⟨hit', st.1.2.extBut hs'.extBut hne⟩, st.2.at fun o e => hs'.extBut x1 o hx e⟩ fun b o hb e => hs'.extBut b o (fun h => hb (by simp [h])) e
  done := fun s Q E st hQ => next_end_hot ⟨hh, st.2⟩ st.1.1 st.1.2 (by simp) (Ne.symm hx) fun h' he' => hQ h' s.toks fun b o hb e => he' b o (fun h => hb (by simp [h])) e
  self := fun _ _ _ _ st hQ => wpAny_pyIter_listiter st.1.1 hQ
theorem sum_rawH {x1 l : Addr} {its : List Value} {ns : List Int} {Q : Value → Shared → Prop} (hot : HotX.HotAt A x1 s.heap) (hl : s.heap.IsList l its.toArray) (hi : IntsAre its ns)
    (h : ∀ h' tk t', (∀ b o, s.heap.get? b = some o → h'.get? b = some o) → Q (.int ns.sum t') { s with heap := h', toks := tk }) : wpAny (model prog w) A (call (.builtin "sum") [.ref l]) Q E s := by
  obtain ⟨xs, e⟩ := hi.allInts.items
  have hn : numsOf (intItems xs).toList = ns := by rw [← e]; exact hi.numsOf
  rw [nums_intItems] at hn
  rw [e] at hl
  obtain ⟨hh, pe⟩ := hot
  refine call_sum_walkG (iter_intList hl fun s₂ e st hfp hlI => ?_)
  subst e
  have hx : x1 ≠ s.heap.objs.size := by obtain ⟨_, _, e, _⟩ := pe; exact Nat.ne_of_lt (Heap.lt_size e)
  refine ⟨_, _, _, _, _, _, numAt xs, rfl, walks_hot (A := A.in1) _ l x1 hh hlI hx (intItems xs), ⟨st, Pend.at pe fun o e => Heap.get?_push_of_some _ e⟩, fun b hb => ?_, (fun _ _ => intItems_at), fun h' tk t' hk => ?_⟩
  · rcases List.mem_cons.mp hb with rfl | hb
    · exact hfp _ (by simp)
    · rcases List.mem_cons.mp hb with rfl | hb
      · exact hfp _ (by simp)
      · have : b = x1 := by simpa using hb
        subst this
        obtain ⟨_, _, e, _⟩ := pe
        show b < (s.heap.push _).objs.size
        rw [Heap.size_push]
        exact Nat.lt_succ_of_lt (Heap.lt_size e)
  · have := h h' tk t' (old_kept hk)
    rw [show (intItems xs).size = xs.size by simp [intItems], preSum_eq, List.take_of_length_le (by simp), hn]
    exact this
end
theorem cr_sumH {X : Cx} (hc : L2H.HotC X) : CallR X (.builtin "sum") (rSum X.K) := by
  intro pins s σ H vs us Q I r h
  obtain ⟨a, ns, rfl, hs, q⟩ := h
  obtain ⟨its, rv, hl, _⟩ := I.list hs
  obtain ⟨x1, hot⟩ := hc.at I
  rw [Vals.ref1 r]
  exact sum_rawH hot hl.isList rv.ints fun h' tk t' hk => ⟨.int _, H, I.kept hk, ⟨_, rfl⟩, q⟩
end Mi
/-! ### [elt for name in list] while an exception is handled -/
namespace Mi
open PySem PySem.Spec PyProof.Rows L2
section
variable {X : Cx} {pins : List (Addr × Obj)} {σ : L2.St} {H : Hp} {s : Shared} {elt tg iter : Expr} {scope : Scope} {own : List (Str × Nat)} {pos : Pos} {tl : TE} {g : TG} {te : TE}
/-- what stands at each turn of the block b, made at state s0 (tracked H0): the def's own facts too -/
theorem hot_back {H0 H' : Hp} {s0 s' : Shared} {ce : PySem.Env} {fp : List Addr} {σb : L2.St} (I3 : Inv X pins σ H0 s0) (f3 : ∀ b ∈ fp, FpOk X pins H0 b) (I : Inv (X.blk s0 H0 scope ce fp) [] σb H' s') : Inv X pins σ H' s' :=
  I3.call' (ch := fp) I.os I.base I.hok I.bare fun b hb => let ⟨_, a1, _, a3, a4, a5⟩ := f3 b hb; ⟨a3, a1, a4, a5⟩
theorem pe_lcH (hot : L2H.HotC X) (hN : X.N.Nodup) (hl : PE X iter tl) (ok : BlkOk X.N X.env.scope scope own)
    (hg : ∀ (s : Shared) (H : Hp) (C : Addr) (cl : List (Str × Addr)) (fp : List Addr), PG (X.blk s H scope (compEnvC scope cl C X.env) fp) tg g)
    (he : ∀ (s : Shared) (H : Hp) (C : Addr) (cl : List (Str × Addr)) (fp : List Addr), PE (X.blk s H scope (compEnvC scope cl C X.env) fp) elt te)
    (hs : ∀ x, foldedSetIterable iter X.env x = pure x := by intro _; rfl) : PE X (.ListComp elt [⟨tg, iter, [], 0⟩] scope pos) (tLc (iList X.K tl) g tYes te (own.map (·.2))) := by
  refine ⟨fun pins s σ H Q I h => ?_⟩
  rw [eval_ListComp]
  have clo : closureFor scope X.env = pure (cloFrom X.env.cells scope.names []) := closure_ok fun y hy e => (ok.free y hy e).elim (fun k => I.ok.has _ (.inl k)) fun k => I.ok.has _ (.inr k)
  refine wpAny_comprehension_free (use := none) rfl hs clo ok.kind (fun y hy e => by rw [ok.uniq y hy, e]) ?_
  refine thn (hl.run pins s σ H _ I h) fun xv s1 ⟨x, H1, I1, rx, a, ex, ⟨xs, hxs⟩, q⟩ => ?_
  subst ex
  cases rx
  obtain ⟨its, rv, pl, hz⟩ := I1.list hxs
  refine wpAny_pyIter_list pl.isList ?_
  -- the iterator, then the new list
  generalize hit : s1.heap.objs.size = it
  generalize hs2 : ({ s1 with heap := s1.heap.push { cls := .type "list_iterator", data := .fields #[.ref a, .int 0 0] } } : Shared) = s2
  have I2 : Inv X pins σ H1 s2 := by
    rw [← hs2]
    exact I1.kept (t' := s1.toks) fun b o e => Heap.get?_push_of_some _ e
  have st2 : s2.heap.IsListIter it a 0 := by
    rw [← hs2, ← hit]
    exact ⟨_, Heap.get?_push_size _ rfl, rfl, rfl⟩
  have n2 : H1 it = none := I1.hok.fresh (Nat.le_of_eq hit)
  have lt2 : it < s2.heap.objs.size := by
    obtain ⟨o, e, _⟩ := st2
    exact Heap.lt_size e
  have f2 : FpOk X pins H1 it := I1.fpOk (Nat.le_of_eq hit) n2
  refine wpAny_newObj_type (newEnv_comp ?_) (by show 0 ≤ sizeLine; decide)
  generalize hD : s2.heap.objs.size = D
  have nD : H1 D = none := I2.hok.fresh (Nat.le_of_eq hD)
  obtain ⟨W, ⟨m0, w0⟩, turn⟩ := q D nD
  generalize hs3 : ({ s2 with heap := s2.heap.push { cls := .type "list", data := .seq ([] : List Value).toArray } } : Shared) = s3
  have up : ∀ b o, s2.heap.get? b = some o → s3.heap.get? b = some o := fun b o e => by rw [← hs3]; exact Heap.get?_push_of_some _ e
  have I3 : Inv X pins σ (upd H1 D (.lst [])) s3 := by
    rw [← hs3]
    refine I2.laid (t' := s2.toks) (fun b o e => Heap.get?_push_of_some _ e) (Nat.le_of_eq hD) ⟨Nat.zero_le _, [], 0, .nil, ?_⟩
    rw [← hD]
    exact Heap.get?_push_size _ rfl
  have itD : it ≠ D := by rw [← hD]; exact Nat.ne_of_lt lt2
  have n3 : (upd H1 D (.lst [])) it = none := by rw [upd_ne itD]; exact n2
  have f3 : ∀ b ∈ [it], FpOk X pins (upd H1 D (.lst [])) b := fun b hb => by
    obtain rfl : b = it := by simpa using hb
    exact ⟨n3, f2.2⟩
  have st3 : s3.heap.IsListIter it a 0 := st2.at fun o e => up it o e
  have sz3 : it < s3.heap.objs.size := by
    obtain ⟨o, e, _⟩ := st3
    exact Heap.lt_size e
  have I4 := block_start (fp := [it]) I3 ok hN fun b hb => ⟨f3 b hb, by obtain rfl : b = it := by simpa using hb
                                                                        exact sz3⟩
  have pg := hg s3 (upd H1 D (.lst [])) s3.heap.objs.size (cellsFrom (s3.heap.objs.size + 1) scope.names (cloFrom X.env.cells scope.names [])) [it]
  have pe := he s3 (upd H1 D (.lst [])) s3.heap.objs.size (cellsFrom (s3.heap.objs.size + 1) scope.names (cloFrom X.env.cells scope.names [])) [it]
  show codeAny _ _ (.compStart (.ListComp elt [⟨tg, iter, [], 0⟩] scope pos) 0 (.ref it) (.ref D) (compEnvC scope (cellsFrom (s3.heap.objs.size + 1) scope.names (cloFrom X.env.cells scope.names [])) s3.heap.objs.size X.env)) (compPost (model X.prog X.w) X.A X.xe none (EP X pins σ Q) (.ref D) s3.heap.objs.size) { s3 with heap := pushCells (s3.heap.push { cls := .type "dict", data := .dict #[] }) scope.names }
  generalize hce : compEnvC scope (cellsFrom (s3.heap.objs.size + 1) scope.names (cloFrom X.env.cells scope.names [])) s3.heap.objs.size X.env = ce at I4 pg pe ⊢
  have cL : ce.locals = s3.heap.objs.size := by subst hce; rfl
  generalize upd H1 D (.lst []) = H3 at I3 I4 pg pe w0 n3 f3
  have st4 : (pushCells (s3.heap.push { cls := .type "dict", data := .dict #[] }) scope.names).IsListIter it a 0 := st3.at fun o e => pushCells_keeps _ _ _ _ (Heap.get?_push_of_some _ e)
  generalize hs4 : ({ s3 with heap := pushCells (s3.heap.push { cls := .type "dict", data := .dict #[] }) scope.names } : Shared) = s4 at I4 ⊢
  have st4 : s4.heap.IsListIter it a 0 := by rw [← hs4]; exact st4
  obtain ⟨p, ⟨hh, vs, hdat, hv2⟩, hp⟩ := hot
  have itp : it ≠ p.1 := fun z => (f3 it (by simp)).2.2.2.2.2 p (List.mem_append_left _ hp) z.symm
  have blkOk : ∀ {σ' : L2.St} {H' : Hp} {s' : Shared}, Inv (X.blk s3 H3 scope ce [it]) [] σ' H' s' → H' it = none → FpOk (X.blk s3 H3 scope ce [it]) [] H' it := fun {σ' H' s'} J hn =>
    ⟨hn, (J.ok.exf it (by simp)).1, J.ok.exfs it (by simp), .inl (by simp), fun x c e => (J.ok.exf it (by simp)).2 x c e, fun p hp => absurd (show p ∈ ([] : List (Addr × Obj)) ++ [] from hp) (by simp)⟩
  have loop : codeAny (model X.prog X.w) X.A (.compLoop (.ListComp elt [⟨tg, iter, [], 0⟩] scope pos) 0 (.ref it) (.ref D) ce) (compPost (model X.prog X.w) X.A X.xe none (EP X pins σ Q) (.ref D) s3.heap.objs.size) s4 := by
    refine compLoop_any (fun n s' => ∃ i H', Inv (X.blk s3 H3 scope ce [it]) [] (wipe σ (own.map (·.2))) H' s' ∧ s'.heap.IsListIter it a i ∧ H' it = none ∧ W i n H') ?_ m0 ⟨0, H3, I4, st4, n3, w0⟩
    rintro n s5 ⟨i, H5, I5, st5, n5, w5⟩
    have I7 : Inv X pins σ H5 s5 := hot_back I3 f3 I5
    obtain ⟨f0, f1, f2', f3', f4, f5⟩ : FpOk (X.blk s3 H3 scope ce [it]) [] H5 it := blkOk I5 n5
    have F5 : FpOk X pins H5 it := ⟨n5, (f3 it (by simp)).2⟩
    rcases turn i n H5 w5 with ⟨⟨ys, hy, hle⟩, qq⟩ | ⟨⟨ys, y, hy, hat⟩, Nx, hNx, step⟩
    · obtain ⟨its', rv', pl', _⟩ := I5.list hy
      have hlen := rv'.length
      refine next_end_hot ⟨hh, p.2, vs, (I7.pin p (List.mem_append_left _ hp)).1, hdat, hv2⟩ st5 pl'.isList (by simp; omega) itp fun h' eb => ?_
      have J1 : Inv (X.blk s3 H3 scope ce [it]) [] (wipe σ (own.map (·.2))) H5 { s5 with heap := h' } := I5.turned (t' := s5.toks) (fun b o hb e => eb b o hb e) f0 f1 f3' f4 f5
      have J2 : Inv X pins σ H5 { s5 with heap := h' } := hot_back I3 f3 J1
      have nC : H5 s3.heap.objs.size = none := by
        have z : H5 ce.locals = none := J1.free
        rw [cL] at z
        exact z
      obtain ⟨m, hn, _⟩ := J1.loc
      have hn : h'.Ns ce.locals m := hn
      rw [cL] at hn
      refine ⟨m, hn, fun h2 sb => ?_⟩
      obtain ⟨g0, g1, _, g3, g4, g5⟩ : FpOk X pins H5 s3.heap.objs.size := I3.fpOk (Nat.le_refl _) nC
      exact ⟨.ref D, H5, J2.turned (t' := s5.toks) (fun b o hb e => (sb.2 b hb).trans e) g0 g1 g3 g4 g5, rfl, qq⟩
    · obtain ⟨its', rv', pl', _⟩ := I5.list hy
      obtain ⟨u, hu, ru⟩ := rv'.get hat
      refine wpAny_pyNext_list_item st5 pl'.isList (x := u) (by simpa using hu) fun h' st' sb => ?_
      have J1 : Inv (X.blk s3 H3 scope ce [it]) [] (wipe σ (own.map (·.2))) H5 { s5 with heap := h' } := I5.turned (t' := s5.toks) (fun b o hb e => (sb.2 b hb).trans e) f0 f1 f3' f4 f5
      obtain ⟨o, eo, co, do_⟩ := id st'
      refine go_of (s := { s5 with heap := h' }) eo co do_ (by decide) ?_
      have J2 := J1.pinned (fp := [it]) (fun b hb => by obtain rfl : b = it := by simpa using hb
                                                        exact blkOk J1 n5) (fun b hb => by
        obtain rfl : b = it := by simpa using hb
        exact ⟨o, eo, fun v z => by rw [do_] at z; cases z⟩)
      refine thnF (pg.run _ _ _ H5 y u _ J2 ru (step y H5 ⟨rfl, fun zs hz => by rw [I5.list_inj hz hy]; exact hat⟩)) fun _ s8 ⟨σ8, H8, I8, hw8, q8⟩ => ?_
      refine thnF ((pts_nil (X := X.blk s3 H3 scope ce [it])).run _ s8 σ8 H8 _ I8 q8) fun b s9 ⟨H9, I9, q9⟩ => ?_
      have fin : ∀ {s' : Shared} {H' : Hp}, Inv (X.blk s3 H3 scope ce [it]) ([] ++ pinsAt [it] h') σ8 H' s' → Nx H' → ∃ m, m < n ∧ ∃ i H', Inv (X.blk s3 H3 scope ce [it]) [] (wipe σ (own.map (·.2))) H' s' ∧ s'.heap.IsListIter it a i ∧ H' it = none ∧ W i m H' := fun {s' H'} J nx => by
        obtain ⟨m', hm, w'⟩ := hNx H' nx
        have z := J.pin (it, o) (List.mem_append_right _ (List.mem_append_right _ (mem_pinsAt (by simp) eo)))
        refine ⟨m', hm, i + 1, H', (J.unpinned (pins := [])).weak (by rw [← hw8, wipe_length]) (fun j v e => ?_), st'.at fun o2 e2 => ?_, z.2.1, w'⟩
        · rw [← hw8] at e
          exact (wipe_some e).1
        · have e3 : h'.get? it = some o2 := e2
          rw [eo] at e3
          cases e3
          exact z.1
      cases b with
      | false => exact fin I9 q9
      | true =>
        refine thnF (pe.run _ s9 σ8 H9 _ I9 q9) fun z s10 ⟨yv, H10, I10, r10, acc, hD10, hz10, nx⟩ => ?_
        exact app_ok (X := X.blk s3 H3 scope ce [it]) I10 hD10 hz10 r10 fun s11 I11 => fin I11 nx
  exact codeAny_compStart_list loop (wpAny_pyIter_listiter st4 loop)
end
end Mi
namespace Mi
open PySem PySem.Spec PyProof.Rows L2
section
variable {X : Cx} {W : WX} {pos : Pos} {elt tg iter : Expr} {scope : Scope} {own : List (Str × Nat)} {us : List Nat} {ma : ME} {g : MG} {me : ME}
theorem de_lcH (hot : L2H.HotC X) (hN : X.N.Nodup) (hi : DE X W iter ma) (hb : blkC X.N X.env.scope scope own = true) (h0 : 0 ∉ own.map (·.2)) (hu : ∀ i ∈ us, i ∈ own.map (·.2))
    (hg : ∀ (s : Shared) (H : Hp) (C : Addr) (cl : List (Str × Addr)) (fp : List Addr), DG (X.blk s H scope (compEnvC scope cl C X.env) fp) [0] us tg g)
    (he : ∀ (s : Shared) (H : Hp) (C : Addr) (cl : List (Str × Addr)) (fp : List Addr), DE (X.blk s H scope (compEnvC scope cl C X.env) fp) W0 elt me) (hs : ∀ x, foldedSetIterable iter X.env x = pure x := by intro _; rfl) :
    DE X W (.ListComp elt [⟨tg, iter, [], 0⟩] scope pos) (mLc (own.map (·.2)) (mItL ma) g mYes me) := by
  obtain ⟨t, p, s⟩ := hi
  refine ⟨_, pe_lcH (own := own) (g := canG X.K [0] us g) (te := canE X.K X.mg W0 me) hot hN p (blkOk_by hb) (fun s H C cl fp => (hg s H C cl fp).can) (fun s H C cl fp => (he s H C cl fp).can) hs, ?_⟩
  exact sim_lc h0 hu (sim_itL s) sim_canG (fun Y H0 io T τ e s H Q r p => p H r) sim_canE
end
/-! ### the suite: return kind(e) -/
section
variable {X : Cx} {k : Nat} {f : Addr} {fd : FuncData} {ps : List Str} {kd : Str → Option Str} {x y : Str} {i : Nat} {ios : List Nat} {p1 p2 p3 p5 : Pos}
def mKindR (kd : Str → Option Str) : Str → List (Str × Int) → MS := fun c fs e => if fs ≠ [] then .err else match kd c with
  | some r => .rt (.str r) e
  | none => .err
theorem dsu_kindR (F : FnHx X.prog X.w X.K X.mg X.base (L2N.CX X.prog X.w) k f fd ps (spK X.K X.mg kd)) (hr : Room k X.A) (hm : X.mg x = some (.ref f)) (hk : PySem.W.keepIn X.K (.ref f) = true) (hb : Binds X.K fd ps [])
    (hg : Gl X x := by rfl) (hni : X.N[i]? = some y := by rfl) (hv : Vis X.env.scope y := by first | exact Or.inl rfl | exact Or.inr (Or.inl rfl) | exact Or.inr (Or.inr rfl))
    (hd : (y == ("__debug__" : Str)) = false := by decide) (hcd : (y == ("__classdict__" : Str)) = false := by decide) (hdb : (x == ("__debug__" : Str)) = false := by decide)
    (he : starEach (.Name y p1 :: []) X.env = (false, eval (.Name y p1) X.env) :: starEach [] X.env := by rfl) (hpl : (backTo p3 (starEach [] X.env)).any (·.1) = false := by rfl) :
    DSu X ios i [.Return (some (.Call (.Name x p2) [.Name y p1] [] p3)) p5] (mKindR kd) := by
  refine ⟨fun a cls d => tRet (tCallS (spK X.K X.mg kd a cls d) (fun _ => E0) (tCons (tVar i) tNil)), fun a oe cls d pn hz hf => ?_, ?_⟩
  · have pe := pe_callHx (X := X.suite a ((a, oe) :: pn)) (CX := L2N.CX X.prog X.w) (E := fun _ => E0) (p := (a, oe)) (pos := p3) (q := p2) F ⟨hr.dp, hr.un⟩ (hot_suite hz hf) List.mem_cons_self hz hf hg hm hk hb (fun σ pins H s e s' I c => by
      obtain ⟨_, _, _, _, _, _, _, _, _, _, _, _, q⟩ := c
      exact q.elim) (pa_cons (pe_var (i := i) (x := y) (pos := p1) hni hv hd hcd) pa_nil he) hdb he hpl
    exact pss_one (ps_ret pe)
  · intro a cls d c fs Y H0 io T τ e s H D hio xr ha hei hsi rl q
    obtain ⟨C, g1, g2, g3⟩ := id xr
    have q := id q
    unfold mKindR at q
    by_cases hfs : fs ≠ []
    · rw [if_pos hfs] at q; exact q.elim
    rw [if_neg hfs] at q
    have hfs : fs = [] := Classical.byContradiction hfs
    cases hk : kd c with
    | none => rw [hk] at q; exact q.elim
    | some r =>
      rw [hk] at q
      refine ⟨V.ref a, hsi, rfl, c, C, r, g1, g2, ?_, hk, fun H' hs => ?_⟩
      · rcases g3 with g3 | g3
        · exact g3.2
        · exact absurd hfs g3.1
      · exact q _ _ _ (rl.same hs).str
end
end Mi
/-! ### zip of two lists, of two tuples -/
namespace Mi
open PySem PySem.Spec PyProof.Rows L2
def zipD (l1 l2 : List D) : List D := List.zipWith (fun p q => D.tup (frzs [p, q])) l1 l2
section
variable {K : PySem.W.Frag} {mg : Str → Option Value} {W : WX}
theorem zip_turn {Y : Addr → Prop} {H0 H : Hp} {io : List (Nat × Addr)} {T : List D} {τ : List V} {e : Env} {s : St} {d1 d2 p1 p2 : D} {va vb x y : V} {z : Addr}
    (r : Rel K Y H0 io (p2 :: d2 :: p1 :: d1 :: T) (y :: vb :: x :: va :: τ) e s H) (hz : H z = none) : Rel K Y H0 io (.tup (frzs [p1, p2]) :: d1 :: d2 :: T) (V.ref z :: va :: vb :: τ) e s (upd H z (.tup [x, y])) := by
  have r1 := Rel.mid (A := [p2, d2]) (va := [y, vb]) rfl r
  have r2 := Rel.mid (A := [p1, p2, d2]) (va := [x, y, vb]) rfl r1
  have r3 := Rel.mid (A := [d1, p1]) (va := [va, x]) rfl r2
  have r4 := Rel.mid (A := [p2, d1]) (va := [y, va]) rfl r3
  exact Rel.tuple (A := [p1, p2]) (va := [x, y]) rfl r4 hz
theorem walks_zip {Ja Jb J : It} {d1 d2 : D} {a b : Addr} {l1 l2 : List D} {S : Hp → Addr → List V → Prop}
    (ga : ∀ i H, Ja.go i H → ∃ xs x, S H a xs ∧ xs[i]? = some x) (gb : ∀ i H, Jb.go i H → ∃ xs x, S H b xs ∧ xs[i]? = some x)
    (ya : ∀ i H x, (∀ xs, S H a xs → xs[i]? = some x) → Ja.yld i H x H) (yb : ∀ i H x, (∀ xs, S H b xs → xs[i]? = some x) → Jb.yld i H x H)
    (sa : ∀ i H, Ja.stop i H → ∃ xs, S H a xs ∧ xs.length ≤ i) (sb : ∀ i H, Jb.stop i H → ∃ xs, S H b xs ∧ xs.length ≤ i)
    (hgo : ∀ i H, (∃ xs ys x y, S H a xs ∧ S H b ys ∧ xs[i]? = some x ∧ ys[i]? = some y) → J.go i H)
    (hyl : ∀ i H v H', J.yld i H v H' → ∃ z x y, v = .ref z ∧ H z = none ∧ H' = upd H z (.tup [x, y]) ∧ (∀ xs, S H a xs → xs[i]? = some x) ∧ ∀ ys, S H b ys → ys[i]? = some y)
    (hst : ∀ i H, (∃ xs ys, S H a xs ∧ S H b ys ∧ (xs.length ≤ i ∨ ys.length ≤ i)) → J.stop i H)
    (w1 : Walks K Ja [d1] [V.ref a] l1) (w2 : Walks K Jb [d2] [V.ref b] l2) : Walks K J [d1, d2] [V.ref a, V.ref b] (zipD l1 l2) := by
  intro Y H0 io T τ e s H r
  have ra := w1 Y H0 io (d2 :: T) (V.ref b :: τ) e s H r
  have rsw : Rel K Y H0 io (d2 :: d1 :: T) (V.ref b :: V.ref a :: τ) e s H := Rel.swap r
  have rb := w2 Y H0 io (d1 :: T) (V.ref a :: τ) e s H rsw
  refine ⟨fun i d hd => ?_, ?_⟩
  · unfold zipD at hd
    rw [List.getElem?_zipWith] at hd
    cases h1 : l1[i]? with
    | none => rw [h1] at hd; cases hd
    | some p1 =>
      cases h2 : l2[i]? with
      | none => rw [h1, h2] at hd; cases hd
      | some p2 =>
        rw [h1, h2] at hd
        cases hd
        obtain ⟨g1, k1⟩ := ra.1 i p1 h1
        obtain ⟨g2, _⟩ := rb.1 i p2 h2
        obtain ⟨xs, x, hx, hx2⟩ := ga i H g1
        obtain ⟨ys, y, hy, hy2⟩ := gb i H g2
        refine ⟨hgo i H ⟨xs, ys, x, y, hx, hy, hx2, hy2⟩, fun v H' hv => ?_⟩
        obtain ⟨z, x, y, rfl, hz, rfl, ux, uy⟩ := hyl i H v H' hv
        have r1 : Rel K Y H0 io (p1 :: d1 :: d2 :: T) (x :: V.ref a :: V.ref b :: τ) e s H := k1 x H (ya i H x ux)
        have r2 := Rel.mid (A := [p1, d1]) (va := [x, V.ref a]) rfl r1
        obtain ⟨_, k2⟩ := (w2 Y H0 io (p1 :: d1 :: T) (x :: V.ref a :: τ) e s H r2).1 i p2 h2
        exact zip_turn (k2 y H (yb i H y uy)) hz
  · obtain ⟨xs, hx, lx⟩ := sa _ _ ra.2
    obtain ⟨ys, hy, ly⟩ := sb _ _ rb.2
    refine hst _ _ ⟨xs, ys, hx, hy, ?_⟩
    unfold zipD
    rw [List.length_zipWith]
    by_cases c : l1.length ≤ l2.length
    · exact .inl (by omega)
    · exact .inr (by omega)
def mZip (ma : MA) : MA := fun e => (ma e).bind fun p => match p.1 with
  | [d1, d2] => match litems d1, litems d2 with
    | some a, some b => .ok (zipD (frzs a) (frzs b), p.2)
    | _, _ => match d1, d2 with
      | .tup a, .tup b => if plains a = true ∧ plains b = true then .ok (zipD a b, p.2) else .err
      | _, _ => .err
  | _ => .err
theorem sim_zip {t : TA} {ma : MA} (h : SimA K mg W t ma) : SimI K mg W (RZ.iZipA K t) (mZip ma) := by
  intro Y H0 io T τ e s H R r p
  refine h Y H0 io T τ e s H _ r ?_
  unfold mZip at p
  cases c : ma e with
  | err => rw [c] at p; exact p
  | exc c2 fs e' => rw [c] at p; exact p
  | ok zz =>
    obtain ⟨ds, e'⟩ := zz
    rw [c] at p
    intro vs H' hlen rl
    simp only [Rs.bind] at p
    match ds, p with
    | [], p => exact False.elim p
    | [_], p => exact False.elim p
    | _ :: _ :: _ :: _, p => exact False.elim p
    | [d1, d2], p =>
      match vs, hlen with
      | [v1, v2], _ =>
        simp only at p
        cases c1 : litems d1 with
        | some l1 =>
          cases c2 : litems d2 with
          | some l2 =>
            rw [c1, c2] at p
            simp only at p
            obtain ⟨a, xs, rfl, hxs, _⟩ := rl.lref c1
            obtain ⟨b, ys, rfl, hys, _⟩ := (Rel.swap rl).lref c2
            refine ⟨a, b, xs, ys, rfl, .inl ⟨hxs, hys, p _ [d1.frz, d2.frz] [V.ref a, V.ref b] H' rfl ?_ ?_⟩⟩
            · exact Rel.frzA (A := [d1, d2]) (va := [V.ref a, V.ref b]) rfl rl
            · exact walks_zip (Ja := Itl K a) (Jb := Itl K b) (J := Itz K a b) (S := fun H a xs => SqL K H a xs) (fun _ _ z => z) (fun _ _ z => z) (fun _ _ _ z => ⟨rfl, z⟩) (fun _ _ _ z => ⟨rfl, z⟩) (fun _ _ z => z) (fun _ _ z => z) (fun _ _ z => z) (fun _ _ _ _ z => z) (fun _ _ z => z) (walks_list c1) (walks_list c2)
          | none =>
            rw [c1, c2] at p
            cases d1 <;> first | (cases c1; done) | exact False.elim p
        | none =>
          rw [c1] at p
          simp only at p
          by_cases tt : ∃ x y, d1 = .tup x ∧ d2 = .tup y
          case neg => exact False.elim (by cases d1 <;> first | (cases c1; done) | exact p | (cases d2 <;> first | exact p | exact (tt ⟨_, _, rfl, rfl⟩).elim))
          obtain ⟨x, y, rfl, rfl⟩ := tt
          simp only at p
          by_cases z : plains x = true ∧ plains y = true
          · rw [if_pos z] at p
            obtain ⟨P, as, o⟩ := rl.top
            obtain ⟨a, xs, rfl, t1, _⟩ := o.tup
            obtain ⟨P2, as2, o2⟩ := (Rel.swap rl).top
            obtain ⟨b, ys, rfl, t2, _⟩ := o2.tup
            refine ⟨a, b, xs, ys, rfl, .inr ⟨t1.sq, t2.sq, p _ [.tup x, .tup y] [V.ref a, V.ref b] H' rfl rl ?_⟩⟩
            exact walks_zip (Ja := Itt K a) (Jb := Itt K b) (J := RZ.ItzT K a b) (S := fun H a xs => SqT K H a xs) (fun _ _ z => z) (fun _ _ z => z) (fun _ _ _ z => ⟨rfl, z⟩) (fun _ _ _ z => ⟨rfl, z⟩) (fun _ _ z => z) (fun _ _ z => z) (fun _ _ z => z) (fun _ _ _ _ z => z) (fun _ _ z => z) (walks_tup z.1) (walks_tup z.2)
          · rw [if_neg z] at p; exact False.elim p
end
theorem di_zip {X : Cx} {W : WX} {e e2 : Expr} {mi : MA} {p pos tpos : Pos} {elts : List Expr} {kk : Nat} (B : BI X.mg) (ha : DA X W [e, e2] mi) (hg : Gl X "zip" := by rfl)
    (hs : starEach [e, e2] X.env = (false, eval e X.env) :: starEach [e2] X.env := by rfl) (hpl : (backTo pos (starEach [e2] X.env)).any (·.1) = false := by rfl) :
    DI X W (.Tuple elts kk tpos) (.Call (.Name "zip" p) [e, e2] [] pos) (mZip mi) := by
  obtain ⟨t, pa, s⟩ := ha
  exact ⟨_, RZ.pi_zipA hg B.zip pa hs hpl, sim_zip s⟩
end Mi
/-! ### isinstance with a tuple of types, wherever it stands -/
namespace Mi
open PySem PySem.Spec PyProof.Rows L2
def rIsiA (K : PySem.W.Frag) : List V → Hp → VK → Prop := fun vs H Q => ∃ (v : V) (tp : Addr) (cs : List V) (t : Value) (ws : List Value) (b : Bool), vs = [v, .ref tp] ∧ SqT K H tp cs ∧ Paired ClsV cs ws ∧ TyX K H v t ∧ PySem.W.kitAny K t ws = some b ∧ Q (.bl b) H
theorem call_isiA {X : Cx} : CallR X (.builtin "isinstance") (rIsiA X.K) := by
  intro pins s σ H vs us Q I r ⟨v, tp, cs, t, ws, b, ev, hT, k, ty, e, q⟩
  subst ev
  obtain ⟨u1, u2, eu, r1, r2⟩ := vals2 r
  subst eu
  obtain rfl : u2 = Value.ref tp := r2
  obtain ⟨P, Z, p, hx⟩ := L2.kit_of I r1 ty
  have main : ∃ (dd : Option Addr) (n : Nat) (sl : Array (Option Value)), s.heap.get? tp = some ⟨.type "tuple", dd, .seq ws.toArray n, sl⟩ := by
    rcases hT with (hT | ⟨ob, hT⟩) | ⟨o, its, n, hk, h2, h3, _, rv⟩
    · obtain ⟨_, its, rv, o, h1, h2, n, h3⟩ := (I.hok tp _ hT : ObjOk X.prog X.w H s.heap tp (.tup cs))
      obtain rfl := ClsV.all k rv
      obtain ⟨oc, od, dt, sl⟩ := o
      cases h2; cases h3
      exact ⟨_, _, _, h1⟩
    · obtain ⟨_, _, its, rv, o, h1, h2, n, h3⟩ := (I.hok tp _ hT : ObjOk X.prog X.w H s.heap tp (.frz ob (.tup cs)))
      obtain rfl := ClsV.all k rv
      obtain ⟨oc, od, dt, sl⟩ := o
      cases h2; cases h3
      exact ⟨_, _, _, h1⟩
    · obtain rfl := ClsV.all k rv
      obtain ⟨oc, od, dt, sl⟩ := o
      cases h2; cases h3
      exact ⟨_, _, _, I.kIn _ _ hk⟩
  obtain ⟨dd, n, sl, hg⟩ := main
  exact PySem.W.kia_tup Z I.kIn p hg e hx fun tk => ⟨.bl b, H, I.tok tk, rfl, q⟩
section
variable {K : PySem.W.Frag}
def tyNames : List D → Option (List String)
  | [] => some []
  | .raw (.ty n) :: ds => (tyNames ds).map (n :: ·)
  | _ => none
def isiAny (k : String) : List String → Option Bool
  | [] => some false
  | n :: ns => (isiT k n).bind fun b => (isiAny k ns).map (b || ·)
def dIsiT : D → D → Option D
  | a, .tup ds => (kindOf a).bind fun k => (tyNames ds).bind fun ns => (isiAny k ns).map D.bl
  | _, _ => none
theorem tys_pair {P : Addr → Prop} {H : Hp} : ∀ (ds : List D) {ns : List String} {vs : List V}, tyNames ds = some ns → Reps K P H ds vs → Paired ClsV vs (ns.map Value.type)
  | [], _, _, h, r => by cases h; unfold Reps at r; subst r; exact .nil
  | .raw (.ty n) :: ds, ns, vs, h, r => by
    obtain ⟨ms, h1, rfl⟩ := Option.map_eq_some_iff.mp (show (tyNames ds).map (n :: ·) = some ns from h)
    unfold Reps at r
    obtain ⟨v, us, rfl, r1, r2⟩ := r
    unfold Rep at r1
    subst r1
    exact .cons (.ty n) (tys_pair ds h1 r2)
theorem isiAny_ok {k : String} : ∀ {ns : List String} {b : Bool}, isiAny k ns = some b → PySem.W.kitAny K (.type k) (ns.map Value.type) = some b
  | [], b, h => by cases h; exact kitAny_nil
  | n :: ns, b, h => by
    obtain ⟨c, h1, h2⟩ := Option.bind_eq_some_iff.mp (show (isiT k n).bind (fun b => (isiAny k ns).map (b || ·)) = some b from h)
    obtain ⟨d, h3, rfl⟩ := Option.map_eq_some_iff.mp h2
    refine kitAny_cons (kit_ty (isiT_ok h1)) (fun z => ?_) fun z => ?_
    · subst z; exact isiAny_ok h3
    · subst z; rfl
theorem ok_isiA : OkL K (rIsiA K) (fn2 dIsiT) := by
  refine okL2 dIsiT (fn2_of _) fun Y H0 io T τ e s H a b va vb d Q hf r q => ?_
  obtain ⟨P, as, bs, o1, o2⟩ := r.top2
  obtain ⟨ds, rfl⟩ : ∃ ds, b = .tup ds := by
    cases b <;> first | exact ⟨_, rfl⟩ | (simp [dIsiT] at hf)
  unfold dIsiT at hf
  obtain ⟨k, h1, hf⟩ := Option.bind_eq_some_iff.mp hf
  obtain ⟨ns, h2, hf⟩ := Option.bind_eq_some_iff.mp hf
  obtain ⟨c, h3, rfl⟩ := Option.map_eq_some_iff.mp hf
  obtain ⟨tp, cs, rfl, t1, w1⟩ := o1.tup
  exact ⟨va, tp, cs, .type k, ns.map Value.type, c, rfl, t1.sq, tys_pair ds h2 w1, o2.tyx h1, isiAny_ok h3, q _ _ r.pop.pop.bl⟩
end
end Mi
/-! ### reckoning: slices, zip, picks, while, kinds -/
namespace Mi
open PySem PySem.Spec PyProof.Rows L2
section
variable {e : Env} {d d2 : D} {ds es : List D} {c : Str} {fs : List (Str × Int)} {ma : ME} {mr : MA} {ml mh : MO2} {lo hi : Option Int} {i : Nat} {j : Int}
def kPt : Rs (D × Env) → Rs (Option Int × Env)
  | .ok (.int i, e) => .ok (some i, e)
  | .ok _ => .err
  | .exc c fs e => .exc c fs e
  | .err => .err
theorem mPart_ap : mPart ma e = kPt (ma e) := by
  unfold mPart kPt Rs.bind
  cases ma e with
  | ok p => obtain ⟨d, e1⟩ := p; cases d <;> rfl
  | exc _ _ _ => rfl
  | err => rfl
theorem kPt_ok : kPt (.ok (.int j, e)) = .ok (some j, e) := rfl
theorem mNoPart_ap : mNoPart e = .ok (none, e) := rfl
def kSl3 (d : D) (lo : Option Int) : Rs (Option Int × Env) → Rs (D × Env)
  | .ok p => kof (dSl d lo p.1) p.2
  | .exc c fs e => .exc c fs e
  | .err => .err
def kSl2 (d : D) (mh : MO2) : Rs (Option Int × Env) → Rs (D × Env)
  | .ok p => kSl3 d p.1 (mh p.2)
  | .exc c fs e => .exc c fs e
  | .err => .err
def kSl1 (ml mh : MO2) : Rs (D × Env) → Rs (D × Env)
  | .ok p => kSl2 p.1 mh (ml p.2)
  | .exc c fs e => .exc c fs e
  | .err => .err
theorem mSl_ap : mSl ma ml mh e = kSl1 ml mh (ma e) := by
  unfold mSl kSl1 Rs.bind
  cases ma e with
  | ok p =>
    simp only [kSl2]
    cases ml p.2 with
    | ok q =>
      simp only [kSl3]
      cases mh q.2 with
      | ok r => simp only; cases dSl p.1 q.1 r.1 <;> rfl
      | exc _ _ _ => rfl
      | err => rfl
    | exc _ _ _ => rfl
    | err => rfl
  | exc _ _ _ => rfl
  | err => rfl
theorem kSl1_ok : kSl1 ml mh (.ok (d, e)) = kSl2 d mh (ml e) := rfl
theorem kSl2_ok : kSl2 d mh (.ok (lo, e)) = kSl3 d lo (mh e) := rfl
theorem kSl3_ok : kSl3 d lo (.ok (hi, e)) = kof (dSl d lo hi) e := rfl
theorem dSl_tup : dSl (.tup ds) lo hi = some (.tup (cutL ds lo hi)) := rfl
theorem dSl_lst : dSl (.lst ds) lo hi = some (.own (cutL ds lo hi)) := rfl
theorem dSl_cst : dSl (.cst ds) lo hi = some (.own (cutL ds lo hi)) := rfl
/-! zip -/
def kZ : Rs (List D × Env) → Rs (List D × Env)
  | .ok ([d1, d2], e) => (match litems d1, litems d2 with
    | some a, some b => .ok (zipD (frzs a) (frzs b), e)
    | _, _ => match d1, d2 with
      | .tup a, .tup b => if plains a = true ∧ plains b = true then .ok (zipD a b, e) else .err
      | _, _ => .err)
  | .ok _ => .err
  | .exc c fs e => .exc c fs e
  | .err => .err
theorem mZip_ap : mZip mr e = kZ (mr e) := by
  unfold mZip kZ Rs.bind
  cases mr e with
  | ok p =>
    obtain ⟨ds, e1⟩ := p
    rcases ds with _ | ⟨a, _ | ⟨b, _ | ⟨z, r⟩⟩⟩ <;> rfl
  | exc _ _ _ => rfl
  | err => rfl
theorem kZ_tup : kZ (.ok ([.tup ds, .tup es], e)) = if plains ds = true ∧ plains es = true then .ok (zipD ds es, e) else .err := rfl
theorem kZ_lst : kZ (.ok ([.lst ds, .lst es], e)) = .ok (zipD (frzs ds) (frzs es), e) := rfl
/-! picks -/
def kPk2 (mr : MA) (e : Env) : Option MF → Rs (D × Env)
  | some F => mCall F mr e
  | none => .err
def kPk (Fs : List MF) (mr : MA) : Rs (D × Env) → Rs (D × Env)
  | .ok (.int j, e) => kPk2 mr e (atI Fs j)
  | .ok _ => .err
  | .exc c fs e => .exc c fs e
  | .err => .err
theorem mPick_ap {Fs : List MF} : mPick Fs ma mr e = kPk Fs mr (ma e) := by
  unfold mPick kPk Rs.bind
  cases ma e with
  | ok p =>
    obtain ⟨d, e1⟩ := p
    cases d <;> rfl
  | exc _ _ _ => rfl
  | err => rfl
theorem kPk_ok {Fs : List MF} : kPk Fs mr (.ok (.int j, e)) = kPk2 mr e (atI Fs j) := rfl
theorem kPk2_some {F : MF} : kPk2 mr e (some F) = mCall F mr e := rfl
theorem mTry_kindR_ap {ns : List Str} {kd : Str → Option Str} {s : MS} : mTry i ns s (mKindR kd) e = kTr i ns (mKindR kd) (s e) := mTry_ap
/-! items -/
section
variable {α : Type} {x y z w v u : α} {xs : List α}
theorem at_0 : atI (x :: xs) 0 = some x := atI_pos (by decide) (by simp)
theorem at_1 : atI (x :: y :: xs) 1 = some y := atI_pos (i := 1) (by decide) (by show 1 < _; simp)
theorem at_2 : atI (x :: y :: z :: xs) 2 = some z := atI_pos (i := 2) (by decide) (by show 2 < _; simp)
theorem at_3 : atI (x :: y :: z :: w :: xs) 3 = some w := atI_pos (i := 3) (by decide) (by show 3 < _; simp)
end
theorem dMulL_own {n : Int} (h : ds.length * n.toNat ≤ sizeLine) : dMul (.own ds) (.int n) = dMulL (.own ds) (.int n) := rfl
end
theorem isT_non  : dIsiT .non (.tup [.raw (.ty "tuple"), .raw (.ty "list")]) = some (.bl false) := rfl
theorem isT_bl {b : Bool} : dIsiT (.bl b) (.tup [.raw (.ty "tuple"), .raw (.ty "list")]) = some (.bl false) := rfl
theorem isT_int {i : Int} : dIsiT (.int i) (.tup [.raw (.ty "tuple"), .raw (.ty "list")]) = some (.bl false) := rfl
theorem isT_str {x : Str} : dIsiT (.str x) (.tup [.raw (.ty "tuple"), .raw (.ty "list")]) = some (.bl false) := rfl
theorem isT_tup {ds : List D} : dIsiT (.tup ds) (.tup [.raw (.ty "tuple"), .raw (.ty "list")]) = some (.bl true) := rfl
theorem isT_lst {ds : List D} : dIsiT (.lst ds) (.tup [.raw (.ty "tuple"), .raw (.ty "list")]) = some (.bl true) := rfl
theorem isT_cst {ds : List D} : dIsiT (.cst ds) (.tup [.raw (.ty "tuple"), .raw (.ty "list")]) = some (.bl true) := rfl
theorem isT_own {ds : List D} : dIsiT (.own ds) (.tup [.raw (.ty "tuple"), .raw (.ty "list")]) = some (.bl true) := rfl
/-- return kind(e) within a def -/
theorem kTr_excR {i : Nat} {ns : List Str} {kd : Str → Option Str} {c r : Str} {e : Env} (h : kd c = some r) (hn : ns.contains c = true) : kTr i ns (mKindR kd) (.exc c [] e) = if i < e.length then .rt (.str r) (e.set i none) else .err := by
  unfold kTr mKindR
  simp only [h, hn, true_and, ne_eq, not_true_eq_false, if_false]
/-- while: P n before a turn, with n falling -/
theorem while_inv {c : MT} {body : MS} (P : Nat → Env → Prop) (Q : Env → Prop) (hs : ∀ n e, P n e → (∃ e1, c e = .ok (false, e1) ∧ Q e1) ∨ ∃ e1 e2 m, c e = .ok (true, e1) ∧ body e1 = .nx e2 ∧ m < n ∧ P m e2) : ∀ (f n : Nat) (e : Env), n < f → P n e → ∃ e', mWhile c body f e = .nx e' ∧ Q e'
  | 0, n, e, h, _ => absurd h (Nat.not_lt_zero _)
  | f + 1, n, e, h, p => by
    rcases hs n e p with ⟨e1, h1, q⟩ | ⟨e1, e2, m, h1, h2, h3, p2⟩
    · refine ⟨e1, ?_, q⟩
      unfold mWhile
      rw [h1]
    · obtain ⟨e', h4, q⟩ := while_inv P Q hs f m e2 (by omega) p2
      refine ⟨e', ?_, q⟩
      unfold mWhile
      rw [h1]
      simp only [h2]
      exact h4
end Mi
/-! ### the sum of a list or of a tuple -/
namespace Mi
open PySem PySem.Spec PyProof.Rows L2
def rSumT (K : PySem.W.Frag) : List V → Hp → VK → Prop := fun vs H Q => ∃ (a : Addr) (ns : List Int), vs = [V.ref a] ∧ SqT K H a (ns.map V.int) ∧ Q (.int ns.sum) H
theorem cr_sumT {X : Cx} (hc : X.calm = true) : CallR X (.builtin "sum") (rSumT X.K) := by
  intro pins s σ H vs us Q I r ⟨a, ns, ev, hs, q⟩
  subst ev
  obtain ⟨its, rv, pl, _⟩ := I.tuple hs
  rw [Vals.ref1 r]
  obtain ⟨xs, e⟩ := rv.ints.allInts.items
  have hn : numsOf (intItems xs).toList = ns := by rw [← e]; exact rv.ints.numsOf
  rw [nums_intItems] at hn
  have pt : s.heap.IsTuple a its.toArray := by
    obtain ⟨o, h1, h2, n, h3⟩ := pl
    exact ⟨o, h1, h2, n, h3⟩
  rw [e] at pt
  refine PySem.W.ktm_sumG (I.ok.hd hc) pt fun h' tk t' hk => ?_
  rw [preSum_eq, List.take_of_length_le (by simp), hn]
  exact ⟨.int _, H, I.kept hk, ⟨_, rfl⟩, q⟩
def dSumA : D → Option D
  | .tup ds => (intsD ds).map fun ns => .int ns.sum
  | a => dSum a
theorem ok_sumA {K : PySem.W.Frag} : OkL K (fun xs H Q => rSum K xs H Q ∨ rSumT K xs H Q) (fn1 dSumA) := by
  refine okL1 dSumA (fn1_of _) fun Y H0 io T τ e s H a va d Q hf r q => ?_
  by_cases ha : ∃ ds, a = .tup ds
  · obtain ⟨ds, rfl⟩ := ha
    obtain ⟨ns, h2, rfl⟩ := Option.map_eq_some_iff.mp (show (intsD ds).map (fun ns => D.int ns.sum) = some d from hf)
    obtain ⟨P, as, o⟩ := r.top
    obtain ⟨p1, v1, rfl, t1, w1⟩ := o.tup
    obtain rfl := ints_eq h2
    obtain rfl := owns_ints (Owns.of w1)
    exact .inr ⟨p1, ns, rfl, t1.sq, q _ _ r.pop.int⟩
  · have hf2 : dSum a = some d := by cases a <;> first | exact hf | exact (ha ⟨_, rfl⟩).elim
    obtain ⟨P, as, o⟩ := r.top
    obtain ⟨ds, h1, hf3⟩ := Option.bind_eq_some_iff.mp hf2
    obtain ⟨ns, h2, rfl⟩ := Option.map_eq_some_iff.mp hf3
    obtain ⟨p1, v1, a1, rfl, t1, w1⟩ := o.lseq h1
    obtain rfl := ints_eq h2
    obtain rfl := owns_ints w1
    exact .inl ⟨p1, ns, rfl, t1, q _ _ r.pop.int⟩
theorem dInt_bl {b : Bool} : dInt (.bl b) = some (.int (if b then 1 else 0)) := rfl
theorem dIs_f_non  : dIs false .non = some (.bl true) := rfl
theorem dIs_t_non  : dIs true .non = some (.bl false) := rfl
theorem dIs_f_bl {b : Bool} : dIs false (.bl b) = some (.bl false) := rfl
theorem dIs_t_bl {b : Bool} : dIs true (.bl b) = some (.bl true) := rfl
theorem dIs_f_int {i : Int} : dIs false (.int i) = some (.bl false) := rfl
theorem dIs_t_int {i : Int} : dIs true (.int i) = some (.bl true) := rfl
theorem dIs_f_str {x : Str} : dIs false (.str x) = some (.bl false) := rfl
theorem dIs_t_str {x : Str} : dIs true (.str x) = some (.bl true) := rfl
theorem dIs_f_tup {ds : List D} : dIs false (.tup ds) = some (.bl false) := rfl
theorem dIs_t_tup {ds : List D} : dIs true (.tup ds) = some (.bl true) := rfl
theorem dIs_f_lst {ds : List D} : dIs false (.lst ds) = some (.bl false) := rfl
theorem dIs_t_lst {ds : List D} : dIs true (.lst ds) = some (.bl true) := rfl
theorem dIs_f_own {ds : List D} : dIs false (.own ds) = some (.bl false) := rfl
theorem dIs_t_own {ds : List D} : dIs true (.own ds) = some (.bl true) := rfl
theorem dIs_f_cst {ds : List D} : dIs false (.cst ds) = some (.bl false) := rfl
theorem dIs_t_cst {ds : List D} : dIs true (.cst ds) = some (.bl true) := rfl
theorem dSumA_tup {ds : List D} : dSumA (.tup ds) = (intsD ds).map fun ns => .int ns.sum := rfl
theorem dSumA_own {ds : List D} : dSumA (.own ds) = (intsD ds).map fun ns => .int ns.sum := rfl
theorem dSumA_lst {ds : List D} : dSumA (.lst ds) = (intsD ds).map fun ns => .int ns.sum := rfl
end Mi
/-! ### list(range(..)) -/
namespace Mi
open PySem PySem.Spec PyProof.Rows L2
instance (i j : Int) : Decidable (RgOk i j) := by unfold RgOk; infer_instance
def mLR1 (ma : ME) : ME := fun e => (ma e).bind fun p => match p.1 with
  | .int n => if RgOk 0 n then .ok (.own (rangeD 0 n.toNat), p.2) else .err
  | _ => .err
def mLR2 (ma mb : ME) : ME := fun e => (ma e).bind fun p => (mb p.2).bind fun q => match p.1, q.1 with
  | .int i, .int j => if RgOk i j then .ok (.own (rangeD i (j - i).toNat), q.2) else .err
  | _, _ => .err
section
variable {K : PySem.W.Frag} {mg : Str → Option Value} {W : WX}
theorem new_range {Y : Addr → Prop} {H0 H : Hp} {io : List (Nat × Addr)} {T : List D} {τ : List V} {e : Env} {s : St} {d : D} {v : V} (n i : Int) (r : Rel K Y H0 io (d :: T) (v :: τ) e s H) (hd : d = .int n) {l : Addr} (hl : H l = none) (j : Int) :
    Rel K Y H0 io (.own (rangeD i (j - i).toNat) :: T) (V.ref l :: τ) e s (upd H l (.lst (rgV i j))) := by
  subst hd
  obtain ⟨P, as, nd, o, g⟩ := r.swap1
  have hs : Same H (upd H l (.lst (rgV i j))) := same_new hl
  refine g _ (.own (rangeD i (j - i).toNat)) _ [l] hs (by simp) (fun z hz => ?_) fun P' hP hT _ => ?_
  · obtain rfl := List.mem_singleton.mp hz
    exact ⟨.inr hl, _, upd_same⟩
  · unfold Own
    refine ⟨l, rgV i j, [], rfl, upd_same, Owns.of ?_, rfl⟩
    have e1 : rangeD i (j - i).toNat = ((List.range (j - i).toNat).map fun k : Nat => i + (k : Int)).map D.int := by unfold rangeD; rw [List.map_map]; rfl
    have e2 : rgV i j = ((List.range (j - i).toNat).map fun k : Nat => i + (k : Int)).map V.int := by unfold rgV; rw [List.map_map]; rfl
    rw [e1, e2]
    exact reps_ints _
theorem sim_lRng1 {ta : TE} {ma : ME} (h : SimE K mg W ta ma) : SimE K mg W (tLstRg (tRg1 ta)) (mLR1 ma) := by
  intro Y H0 io T τ e s H Q r p
  refine h.then r (P := PostE K mg W Y H0 io T τ s Q) p id postE_exc fun d e' p v H' rl => ?_
  obtain ⟨n, rfl⟩ : ∃ n, d = .int n := by cases d <;> first | exact ⟨_, rfl⟩ | exact False.elim p
  simp only at p
  by_cases c : RgOk 0 n
  · rw [if_pos c] at p
    obtain rfl := Rel.isInt rl
    refine ⟨n, rfl, c, fun l hl => p _ _ ?_⟩
    have := new_range n 0 rl rfl hl n
    rw [Int.sub_zero] at this
    exact this
  · rw [if_neg c] at p; exact False.elim p
theorem sim_lRng2 {ta tb : TE} {ma mb : ME} (h : SimE K mg W ta ma) (h2 : SimE K mg W tb mb) : SimE K mg W (tLstRg (tRg2 ta tb)) (mLR2 ma mb) := by
  intro Y H0 io T τ e s H Q r p
  refine h.then r (P := PostE K mg W Y H0 io T τ s Q) p id postE_exc fun d e' p v H' rl => ?_
  refine h2.then rl (P := PostE K mg W Y H0 io T τ s Q) p id (fun c fs e2 hh cls dd H2 x rr => postE_exc c fs e2 hh cls dd H2 x (Rel.pop rr)) fun d2 e2 p v2 H2 rl2 => ?_
  obtain ⟨i, rfl⟩ : ∃ n, d = .int n := by cases d <;> first | exact ⟨_, rfl⟩ | exact False.elim p
  obtain ⟨j, rfl⟩ : ∃ n, d2 = .int n := by cases d2 <;> first | exact ⟨_, rfl⟩ | exact False.elim p
  simp only at p
  by_cases c : RgOk i j
  · rw [if_pos c] at p
    obtain rfl := Rel.isInt rl2
    obtain rfl := Rel.isInt (Rel.pop rl2)
    exact ⟨i, j, rfl, rfl, c, fun l hl => p _ _ (new_range i i (Rel.pop rl2) rfl hl j)⟩
  · rw [if_neg c] at p; exact False.elim p
end
section
variable {X : Cx} {W : WX} {a b : Expr} {ma mb : ME} {p p2 pos pos2 : Pos}
theorem de_lRng1 (B : BI X.mg) (hc : X.calm = true) (ha : DE X W a ma) (hg : Gl X "list" := by rfl) (hg2 : Gl X "range" := by rfl)
    (na : starEach [a] X.env = (false, eval a X.env) :: starEach [] X.env := by rfl) (nb : starEach [.Call (.Name "range" p2) [a] [] pos2] X.env = (false, eval (.Call (.Name "range" p2) [a] [] pos2) X.env) :: starEach [] X.env := by rfl) :
    DE X W (.Call (.Name "list" p) [.Call (.Name "range" p2) [a] [] pos2] [] pos) (mLR1 ma) := by
  obtain ⟨t, pa, s⟩ := ha
  exact ⟨_, pe_listRg hc hg B.list (prg_1 hg2 B.range pa na) nb, sim_lRng1 s⟩
theorem de_lRng2 (B : BI X.mg) (hc : X.calm = true) (ha : DE X W a ma) (hb : DE X W b mb) (hg : Gl X "list" := by rfl) (hg2 : Gl X "range" := by rfl)
    (na : starEach [a, b] X.env = (false, eval a X.env) :: starEach [b] X.env := by rfl) (na2 : starEach [b] X.env = (false, eval b X.env) :: starEach [] X.env := by rfl) (hp : (backTo pos2 (starEach [b] X.env)).any (·.1) = false := by rfl)
    (nb : starEach [.Call (.Name "range" p2) [a, b] [] pos2] X.env = (false, eval (.Call (.Name "range" p2) [a, b] [] pos2) X.env) :: starEach [] X.env := by rfl) :
    DE X W (.Call (.Name "list" p) [.Call (.Name "range" p2) [a, b] [] pos2] [] pos) (mLR2 ma mb) := by
  obtain ⟨t, pa, s⟩ := ha
  obtain ⟨t2, pb, s2⟩ := hb
  exact ⟨_, pe_listRg hc hg B.list (prg_2 hg2 B.range pa pb na na2 hp) nb, sim_lRng2 s s2⟩
end
/-! reckoning -/
section
variable {e : Env} {i j : Int} {ma mb : ME}
def kLR1 : Rs (D × Env) → Rs (D × Env)
  | .ok (.int n, e) => if RgOk 0 n then .ok (.own (rangeD 0 n.toNat), e) else .err
  | .ok _ => .err
  | .exc c fs e => .exc c fs e
  | .err => .err
theorem mLR1_ap : mLR1 ma e = kLR1 (ma e) := by
  unfold mLR1 kLR1 Rs.bind
  cases ma e with
  | ok p => obtain ⟨d, e1⟩ := p; cases d <;> rfl
  | exc _ _ _ => rfl
  | err => rfl
theorem kLR1_ok : kLR1 (.ok (.int i, e)) = if RgOk 0 i then .ok (.own (rangeD 0 i.toNat), e) else .err := rfl
def kLR2b (d : D) : Rs (D × Env) → Rs (D × Env)
  | .ok (.int j, e) => (match d with
    | .int i => if RgOk i j then .ok (.own (rangeD i (j - i).toNat), e) else .err
    | _ => .err)
  | .ok _ => .err
  | .exc c fs e => .exc c fs e
  | .err => .err
def kLR2 (mb : ME) : Rs (D × Env) → Rs (D × Env)
  | .ok p => kLR2b p.1 (mb p.2)
  | .exc c fs e => .exc c fs e
  | .err => .err
theorem mLR2_ap : mLR2 ma mb e = kLR2 mb (ma e) := by
  unfold mLR2 kLR2 Rs.bind
  cases ma e with
  | ok p =>
    obtain ⟨d, e1⟩ := p
    simp only [kLR2b]
    cases mb e1 with
    | ok q => obtain ⟨d2, e2⟩ := q; cases d <;> cases d2 <;> rfl
    | exc _ _ _ => rfl
    | err => rfl
  | exc _ _ _ => rfl
  | err => rfl
theorem kLR2_ok {d : D} : kLR2 mb (.ok (d, e)) = kLR2b d (mb e) := rfl
theorem kLR2b_ok : kLR2b (.int i) (.ok (.int j, e)) = if RgOk i j then .ok (.own (rangeD i (j - i).toNat), e) else .err := rfl
end
end Mi
/-! ### a call that is handed a list of our own and answers a truth: the list stays our own -/
namespace Mi
open PySem PySem.Spec PyProof.Rows L2
def mCallB (F : MF) (i : Nat) (ma : MA) : ME := fun e => match ownAt e i with
  | none => .err
  | some _ => (ma e).bind fun p => match ownAt p.2 i with
    | none => .err
    | some xs => match F (.lst (frzs xs) :: frzs p.1) with
      | .ok (.bl b) => .ok (.bl b, p.2)
      | .exc c fs => .exc c fs p.2
      | _ => .err
section
variable {K : PySem.W.Frag} {mg : Str → Option Value} {W : WX}
theorem sim_callB {n i : Nat} {F : MF} {t : TA} {ma : MA} (h : SimA K mg W t ma) (hn : ∀ e ds e', ma e = .ok (ds, e') → ds.length = n) : SimE K mg W (tCallS (spF K mg (n + 1) F) (WE W) (tCons (tVar i) t)) (mCallB F i ma) := by
  intro Y H0 io T τ e s H Q r q
  unfold mCallB at q
  cases c0 : ownAt e i with
  | none => rw [c0] at q; exact False.elim q
  | some xs0 =>
    rw [c0] at q
    obtain ⟨a0, _, hs0, _, _⟩ := r.slotL c0
    refine ⟨V.ref a0, hs0, ?_⟩
    refine h Y H0 io T τ e s H _ r ?_
    cases c : ma e with
    | err => rw [c] at q; exact q
    | exc c fs e' => rw [c] at q; exact q
    | ok z =>
      obtain ⟨ds, e'⟩ := z
      rw [c] at q
      intro vs H' hl rl
      simp only [Rs.bind] at q
      cases c1 : ownAt e' i with
      | none => rw [c1] at q; exact False.elim q
      | some xs =>
        rw [c1] at q
        simp only at q
        obtain ⟨v, hs1, rp⟩ := rl.view (ownAt_eq c1)
        rw [hs0] at hs1; cases hs1
        obtain ⟨P, h1, h2, h3⟩ := rl.call hl
        have rz : Reps K (fun _ => False) H' (.lst (frzs xs) :: frzs ds) (V.ref a0 :: vs) := by
          unfold Reps
          exact ⟨_, _, rfl, rp, Reps.mono (mono_to fun _ z => z.elim) _ h1⟩
        refine ⟨.lst (frzs xs) :: frzs ds, fun _ => False, by rw [List.length_cons, frzs_length, hn e ds e' c], rz, fun _ z => z.elim, ?_⟩
        cases hf : F (.lst (frzs xs) :: frzs ds) with
        | err => rw [hf] at q; exact q
        | ok d =>
          rw [hf] at q
          cases d <;> try exact False.elim q
          rename_i b
          intro v H2 hs ⟨_, _, _, o⟩
          obtain rfl := o.bl
          exact q _ H2 (h3 (.bl b) _ H2 hs ⟨[], List.nodup_nil, (fun _ z => nomatch z), Own.of (by unfold Rep; rfl)⟩)
        | exc c fs =>
          rw [hf] at q
          refine fun cls dd H2 hs x => q cls dd H2 x ?_
          have r2 : Rel K Y H0 io T τ e' s H' := Rel.popA hl rl
          exact r2.same hs
end
section
variable {X : Cx} {W : WX} {pos p p2 : Pos} {es : List Expr} {mas : MA}
theorem de_callB2 {k n : Nat} {f : Addr} {fd : FuncData} {ps : List Str} {F : MF} {x y : Str} (i : Nat) (hF : FnOk X.prog X.w X.K X.mg X.base (L2N.CX X.prog X.w) k f fd ps (spF X.K X.mg (n + 1) F)) (hr : Room k X.A) (hm : X.mg x = some (.ref f)) (hk : PySem.W.keepIn X.K (.ref f) = true) (hb : Binds X.K fd ps [])
    (tk : L2N.Takes X W) (ha : DA X W es mas) (hn : ∀ e ds e', mas e = .ok (ds, e') → ds.length = n) (hg : Gl X x := by rfl)
    (hN : X.N[i]? = some y := by rfl) (hv : Vis X.env.scope y := by first | exact Or.inl rfl | exact Or.inr (Or.inl rfl) | exact Or.inr (Or.inr rfl)) (hd : (y == ("__debug__" : Str)) = false := by decide)
    (hcd : (y == ("__classdict__" : Str)) = false := by decide)
    (hdb : (x == ("__debug__" : Str)) = false := by decide) (he : starEach (.Name y p2 :: es) X.env = (false, eval (.Name y p2) X.env) :: starEach es X.env := by rfl) (hpl : (backTo pos (starEach es X.env)).any (·.1) = false := by rfl) :
    DE X W (.Call (.Name x p) (.Name y p2 :: es) [] pos) (mCallB F i mas) := by
  obtain ⟨t, pa, s⟩ := ha
  exact ⟨_, pe_callS hF hr hg hm hk hb (fun σ => L2N.passAt tk σ) (pa_cons (pe_var hN hv hd hcd) pa he) hdb he hpl, sim_callB s hn⟩
end
/-! reckoning -/
section
variable {e : Env} {i : Nat} {ds xs : List D} {ma : MA} {F : MF} {b : Bool} {c : Str} {fs : List (Str × Int)}
def kcB3 (e : Env) : Fr → Rs (D × Env)
  | .ok (.bl b) => .ok (.bl b, e)
  | .exc c fs => .exc c fs e
  | _ => .err
def kcB2 (F : MF) (ds : List D) (e : Env) : Option (List D) → Rs (D × Env)
  | some xs => kcB3 e (F (.lst (frzs xs) :: frzs ds))
  | none => .err
def kcB1 (F : MF) (i : Nat) : Rs (List D × Env) → Rs (D × Env)
  | .ok p => kcB2 F p.1 p.2 (ownAt p.2 i)
  | .exc c fs e => .exc c fs e
  | .err => .err
def kcB (F : MF) (i : Nat) (ma : MA) (e : Env) : Option (List D) → Rs (D × Env)
  | some _ => kcB1 F i (ma e)
  | none => .err
theorem mCallB_ap : mCallB F i ma e = kcB F i ma e (ownAt e i) := by
  unfold mCallB kcB
  cases ownAt e i with
  | none => rfl
  | some _ =>
    simp only [Rs.bind, kcB1]
    cases ma e with
    | ok p =>
      simp only
      cases ownAt p.2 i with
      | none => rfl
      | some ys =>
        simp only [kcB2]
        cases F (.lst (frzs ys) :: frzs p.1) with
        | ok d => cases d <;> rfl
        | exc _ _ => rfl
        | err => rfl
    | exc _ _ _ => rfl
    | err => rfl
theorem kcB_some : kcB F i ma e (some xs) = kcB1 F i (ma e) := rfl
theorem kcB1_ok : kcB1 F i (.ok (ds, e)) = kcB2 F ds e (ownAt e i) := rfl
theorem kcB2_some : kcB2 F ds e (some xs) = kcB3 e (F (.lst (frzs xs) :: frzs ds)) := rfl
theorem kcB3_bl : kcB3 e (.ok (.bl b)) = .ok (.bl b, e) := rfl
theorem kcB3_exc : kcB3 e (.exc c fs) = .exc c fs e := rfl
end
end Mi
/-! ### reckoning: extend, comprehensions and loops as a whole -/
namespace Mi
open PySem PySem.Spec PyProof.Rows L2
section
variable {e : Env} {i : Nat} {d : D} {ds xs zs : List D} {ma : ME}
def kEx3 (i : Nat) (d : D) (e : Env) : Option (List D) → Rs (D × Env)
  | some ds => (match d with
    | .own zs => if ds.length + zs.length ≤ sizeLine then .ok (.non, e.set i (some (.own (ds ++ zs)))) else .err
    | _ => .err)
  | none => .err
def kEx2 (i : Nat) : Rs (D × Env) → Rs (D × Env)
  | .ok p => kEx3 i p.1 p.2 (ownAt p.2 i)
  | .exc c fs e => .exc c fs e
  | .err => .err
def kEx (i : Nat) (ma : ME) (e : Env) : Option (List D) → Rs (D × Env)
  | some _ => kEx2 i (ma e)
  | none => .err
theorem mExtend_ap : mExtend i ma e = kEx i ma e (ownAt e i) := by
  unfold mExtend kEx
  cases ownAt e i with
  | none => rfl
  | some xs =>
    simp only [Rs.bind, kEx2]
    cases ma e with
    | ok p =>
      obtain ⟨d, e1⟩ := p
      simp only
      cases ownAt e1 i <;> cases d <;> rfl
    | exc _ _ _ => rfl
    | err => rfl
theorem kEx_some : kEx i ma e (some ds) = kEx2 i (ma e) := rfl
theorem kEx2_ok : kEx2 i (.ok (d, e)) = kEx3 i d e (ownAt e i) := rfl
theorem kEx3_some : kEx3 i (.own zs) e (some ds) = if ds.length + zs.length ≤ sizeLine then .ok (.non, e.set i (some (.own (ds ++ zs)))) else .err := rfl
end
/-- a comprehension with a test, as a whole: behind each turn the slots stand as before -/
theorem lc_filter {vs : List Nat} {g : MG} {tt : MT} {te : ME} (e : Env) (p : D → Bool) (f : D → D) : ∀ (ds acc : List D), (∀ d ∈ ds, ∃ e1 e2, g d e = some e1 ∧ tt e1 = .ok (p d, e2) ∧ (p d = true → ∃ e3, te e2 = .ok (f d, e3) ∧ wipeE e3 vs = e) ∧ (p d = false → wipeE e2 vs = e)) →
    acc.length + ds.length ≤ sizeLine → mLcLoop vs g tt te ds acc e = .ok (.own (acc ++ (ds.filter p).map f), e)
  | [], acc, _, _ => by rw [lc_nil]; simp
  | d :: ds, acc, h, hl => by
    obtain ⟨e1, e2, h1, h2, h3, h4⟩ := h d List.mem_cons_self
    rw [List.length_cons] at hl
    rw [lc_cons, h1, kz1_some, h2, kz2_ok]
    cases c : p d with
    | true =>
      obtain ⟨e3, h5, h6⟩ := h3 c
      rw [if_pos rfl, h5, kz3_ok, if_pos (by omega), h6, lc_filter e p f ds (acc ++ [f d]) (fun x hx => h x (List.mem_cons_of_mem _ hx)) (by rw [List.length_append, List.length_singleton]; omega)]
      rw [List.filter_cons_of_pos (by rw [c]), List.map_cons, List.append_assoc]
      rfl
    | false =>
      rw [if_neg (by decide), h4 c, lc_filter e p f ds acc (fun x hx => h x (List.mem_cons_of_mem _ hx)) (by omega)]
      rw [List.filter_cons_of_neg (by rw [c]; decide)]
theorem lc_map {vs : List Nat} {g : MG} {te : ME} (e : Env) (f : D → D) (ds : List D) (h : ∀ d ∈ ds, ∃ e1 e3, g d e = some e1 ∧ te e1 = .ok (f d, e3) ∧ wipeE e3 vs = e) (hl : ds.length ≤ sizeLine) :
    mLcLoop vs g mYes te ds [] e = .ok (.own (ds.map f), e) := by
  have := lc_filter (vs := vs) (g := g) (tt := mYes) (te := te) e (fun _ => true) f ds [] (fun d hd => by
    obtain ⟨e1, e3, h1, h2, h3⟩ := h d hd
    exact ⟨e1, e1, h1, rfl, fun _ => ⟨e3, h2, h3⟩, fun z => nomatch z⟩) (by rw [List.length_nil]; omega)
  rw [this]
  rw [List.nil_append, List.filter_eq_self.mpr fun _ _ => rfl]
/-- a loop that adds up -/
theorem loop_fold {α : Type} {g : MG} {body : MS} (P : α → Env → Prop) (step : α → D → α) : ∀ (ds : List D), (∀ d ∈ ds, ∀ x e, P x e → ∃ e1 e2, g d e = some e1 ∧ body e1 = .nx e2 ∧ P (step x d) e2) → ∀ x e, P x e → ∃ e', mLoop g body ds e = .nx e' ∧ P (ds.foldl step x) e'
  | [], h, x, e, p => ⟨e, rfl, p⟩
  | d :: ds, h, x, e, p => by
    obtain ⟨e1, e2, h1, h2, h3⟩ := h d List.mem_cons_self x e p
    obtain ⟨e', h4, h5⟩ := loop_fold P step ds (fun d hd => h d (List.mem_cons_of_mem _ hd)) (step x d) e2 h3
    refine ⟨e', ?_, h5⟩
    rw [mLoop_cons, h1, kl1_some, h2, kl2_nx, h4]
theorem range_len (lo : Int) (n : Nat) : (rangeD lo n).length = n := by unfold rangeD; rw [List.length_map, List.length_range]
theorem shaped_i2 {x y : Int} : SeqAt.shaped (.tuple [.int x, .int y]) = true := by rfl
theorem shaped_i {x : Int} : SeqAt.shaped (.int x) = true := by rfl
theorem dNotIn2 {b x y : Int} : dNotIn (.int b) (.tup [.int x, .int y]) = some (.bl (!(decide (x = b) || (decide (y = b) || false)))) := by
  show (if (SeqAt.shaped (.int b) && SeqAt.shaped (.tuple [.int x, .int y])) = true then some (D.bl (xor true ([PyData.int x, .int y].any fun z => PyData.eqv z (.int b)))) else none) = _
  rw [shaped_i2, shaped_i]
  simp [PyData.eqv]
  rfl
theorem dIn2 {b x y : Int} : dIn (.int b) (.tup [.int x, .int y]) = some (.bl (decide (x = b) || (decide (y = b) || false))) := by
  show (if (SeqAt.shaped (.int b) && SeqAt.shaped (.tuple [.int x, .int y])) = true then some (D.bl (xor false ([PyData.int x, .int y].any fun z => PyData.eqv z (.int b)))) else none) = _
  rw [shaped_i2, shaped_i]
  simp [PyData.eqv]
  rfl
end Mi
/-! ### x is True, x is not True -/
namespace Mi
open PySem PySem.Spec PyProof.Rows L2
def dIsB (neg : Bool) : D → D → Option D
  | .bl a, .bl b => some (.bl (xor neg (decide (a = b))))
  | _, _ => none
section
variable {K : PySem.W.Frag} {X : Cx} {W : WX} {a b : Expr} {ma mb : ME} {pos : Pos}
theorem ok_isB : Ok2 K rIsB (dIsB false) := by
  intro Y H0 io T τ e s H a b va vb d Q hf r q
  obtain ⟨x, rfl⟩ : ∃ k, a = .bl k := by cases a <;> first | exact ⟨_, rfl⟩ | (simp [dIsB] at hf)
  obtain ⟨y, rfl⟩ : ∃ k, b = .bl k := by cases b <;> first | exact ⟨_, rfl⟩ | (simp [dIsB] at hf)
  cases hf
  obtain ⟨P, as, bs, o1, o2⟩ := r.top2
  obtain rfl := o1.bl
  obtain rfl := o2.bl
  exact ⟨x, y, rfl, rfl, by simpa using q _ _ (r.pop.pop.bl (i := xor false (decide (x = y))))⟩
theorem ok_notB : Ok2 K rNotB (dIsB true) := by
  intro Y H0 io T τ e s H a b va vb d Q hf r q
  obtain ⟨x, rfl⟩ : ∃ k, a = .bl k := by cases a <;> first | exact ⟨_, rfl⟩ | (simp [dIsB] at hf)
  obtain ⟨y, rfl⟩ : ∃ k, b = .bl k := by cases b <;> first | exact ⟨_, rfl⟩ | (simp [dIsB] at hf)
  cases hf
  obtain ⟨P, as, bs, o1, o2⟩ := r.top2
  obtain rfl := o1.bl
  obtain rfl := o2.bl
  exact ⟨x, y, rfl, rfl, by simpa using q _ _ (r.pop.pop.bl (i := xor true (decide (x = y))))⟩
theorem de_isB (ha : DE X W a ma) (hb : DE X W b mb) : DE X W (.Compare a [.Is] [b] pos) (mOp2 (dIsB false) ma mb) := de_cmp op_isBl ok_isB (nomark _) ha hb
theorem de_notB (ha : DE X W a ma) (hb : DE X W b mb) : DE X W (.Compare a [.IsNot] [b] pos) (mOp2 (dIsB true) ma mb) := de_cmp op_notBl ok_notB (nomark _) ha hb
theorem dt_isB (ha : DE X W a ma) (hb : DE X W b mb) : DT X W (.Compare a [.Is] [b] pos) (mT (mOp2 (dIsB false) ma mb)) := dt_cmp op_isBl ok_isB (nomark _) ha hb
theorem dt_notB (ha : DE X W a ma) (hb : DE X W b mb) : DT X W (.Compare a [.IsNot] [b] pos) (mT (mOp2 (dIsB true) ma mb)) := dt_cmp op_notBl ok_notB (nomark _) ha hb
end
theorem dIsB_tt : dIsB false (.bl true) (.bl true) = some (.bl true) := rfl
theorem dIsB_ft : dIsB false (.bl false) (.bl true) = some (.bl false) := rfl
theorem dNotB_tt : dIsB true (.bl true) (.bl true) = some (.bl false) := rfl
theorem dNotB_ft : dIsB true (.bl false) (.bl true) = some (.bl true) := rfl
end Mi
namespace Lw
open PySem PySem.Spec PyProof.Rows L2 Mi
def topS (i : Nat) : Stmt := PySem.Challenge.pw_likeshares_k36_whole_numbers_and_rests.main.body.getD i (.Pass ⟨0, 0, 0, 0⟩)
abbrev s_is_whole : Stmt := topS 5
abbrev s_is_between : Stmt := topS 6
abbrev s_are_numbers : Stmt := topS 9
abbrev s_look_at_numbers : Stmt := topS 10
abbrev s_rest_numbers : Stmt := topS 11
abbrev s_side_of : Stmt := topS 13
abbrev s_under_in : Stmt := topS 14
abbrev s_under_root : Stmt := topS 15
abbrev s_roots_in : Stmt := topS 16
abbrev s_roots_of : Stmt := topS 17
abbrev s_often_in : Stmt := topS 18
abbrev s_often : Stmt := topS 19
abbrev s_sides_of : Stmt := topS 23
abbrev s_bars_of : Stmt := topS 24
abbrev s_is_plain : Stmt := topS 25
abbrev s_is_bar : Stmt := topS 26
abbrev s_first_bar : Stmt := topS 27
abbrev s_all_numbers : Stmt := topS 28
abbrev s_w_cell : Stmt := topS 30
abbrev s_w_box : Stmt := topS 31
abbrev s_w_take : Stmt := topS 32
abbrev s_w_numbers : Stmt := topS 33
abbrev s_w_rest_right : Stmt := topS 34
abbrev s_law : Stmt := topS 35
theorem sc_is_whole : FnScope ["thing"] ["thing"] (defScope s_is_whole) := ⟨rfl, rfl, rfl, by decide +kernel, rfl, by decide +kernel, by decide +kernel⟩
theorem sc_is_between : FnScope ["thing", "least", "most"] ["thing", "least", "most"] (defScope s_is_between) := ⟨rfl, rfl, rfl, by decide +kernel, rfl, by decide +kernel, by decide +kernel⟩
theorem sc_are_numbers : FnScope ["thing"] ["thing"] (defScope s_are_numbers) := ⟨rfl, rfl, rfl, by decide +kernel, rfl, by decide +kernel, by decide +kernel⟩
theorem sc_look_at_numbers : FnScope ["numbers"] ["numbers"] (defScope s_look_at_numbers) := ⟨rfl, rfl, rfl, by decide +kernel, rfl, by decide +kernel, by decide +kernel⟩
theorem sc_rest_numbers : FnScope ["numbers", "n", "k", "a", "b"] ["numbers"] (defScope s_rest_numbers) := ⟨rfl, rfl, rfl, by decide +kernel, rfl, by decide +kernel, by decide +kernel⟩
theorem sc_side_of : FnScope ["number", "low", "high", "middle"] ["number"] (defScope s_side_of) := ⟨rfl, rfl, rfl, by decide +kernel, rfl, by decide +kernel, by decide +kernel⟩
theorem sc_under_in : FnScope ["numbers", "n", "k", "a", "b"] ["numbers"] (defScope s_under_in) := ⟨rfl, rfl, rfl, by decide +kernel, rfl, by decide +kernel, by decide +kernel⟩
theorem sc_under_root : FnScope ["numbers"] ["numbers"] (defScope s_under_root) := ⟨rfl, rfl, rfl, by decide +kernel, rfl, by decide +kernel, by decide +kernel⟩
theorem sc_roots_in : FnScope ["numbers", "q", "side", "p"] ["numbers"] (defScope s_roots_in) := ⟨rfl, rfl, rfl, by decide +kernel, rfl, by decide +kernel, by decide +kernel⟩
theorem sc_roots_of : FnScope ["numbers"] ["numbers"] (defScope s_roots_of) := ⟨rfl, rfl, rfl, by decide +kernel, rfl, by decide +kernel, by decide +kernel⟩
theorem sc_often_in : FnScope ["numbers", "roots", "top", "n", "k", "a", "b", "r", "t"] ["numbers"] (defScope s_often_in) := ⟨rfl, rfl, rfl, by decide +kernel, rfl, by decide +kernel, by decide +kernel⟩
theorem sc_often : FnScope ["numbers"] ["numbers"] (defScope s_often) := ⟨rfl, rfl, rfl, by decide +kernel, rfl, by decide +kernel, by decide +kernel⟩
theorem sc_sides_of : FnScope ["numbers", "one", "other", "k"] ["numbers", "one", "other"] (defScope s_sides_of) := ⟨rfl, rfl, rfl, by decide +kernel, rfl, by decide +kernel, by decide +kernel⟩
theorem sc_bars_of : FnScope ["numbers", "found", "times", "roots", "n", "k", "a", "b", "word", "one", "other", "sides", "many"] ["numbers"] (defScope s_bars_of) := ⟨rfl, rfl, rfl, by decide +kernel, rfl, by decide +kernel, by decide +kernel⟩
theorem sc_is_plain : FnScope ["thing", "one"] ["thing"] (defScope s_is_plain) := ⟨rfl, rfl, rfl, by decide +kernel, rfl, by decide +kernel, by decide +kernel⟩
theorem sc_is_bar : FnScope ["numbers", "thing"] ["numbers", "thing"] (defScope s_is_bar) := ⟨rfl, rfl, rfl, by decide +kernel, rfl, by decide +kernel, by decide +kernel⟩
theorem sc_first_bar : FnScope ["numbers", "found"] ["numbers"] (defScope s_first_bar) := ⟨rfl, rfl, rfl, by decide +kernel, rfl, by decide +kernel, by decide +kernel⟩
theorem sc_all_numbers : FnScope ["n", "found", "k", "a", "numbers", "b", "left"] ["n"] (defScope s_all_numbers) := ⟨rfl, rfl, rfl, by decide +kernel, rfl, by decide +kernel, by decide +kernel⟩
theorem sc_w_cell : FnScope ["_law_script", "_law_k"] ["_law_script", "_law_k"] (defScope s_w_cell) := ⟨rfl, rfl, rfl, by decide +kernel, rfl, by decide +kernel, by decide +kernel⟩
theorem sc_w_box : FnScope ["_law_script", "_law_k", "_law_cell_here", "_law_number", "_law_mixed", "_law_j"] ["_law_script", "_law_k"] (defScope s_w_box) := ⟨rfl, rfl, rfl, by decide +kernel, rfl, by decide +kernel, by decide +kernel⟩
theorem sc_w_take : FnScope ["_law_box_here", "_law_many", "_law_digit"] ["_law_box_here", "_law_many"] (defScope s_w_take) := ⟨rfl, rfl, rfl, by decide +kernel, rfl, by decide +kernel, by decide +kernel⟩
theorem sc_w_numbers : FnScope ["_law_box_here", "_law_way", "_law_n", "_law_k", "_law_a", "_law_b", "_law_some", "_law_m", "_law_s"] ["_law_box_here"] (defScope s_w_numbers) := ⟨rfl, rfl, rfl, by decide +kernel, rfl, by decide +kernel, by decide +kernel⟩
theorem sc_w_rest_right : FnScope ["_law_numbers_here", "_law_other", "_law_roots", "_law_f", "_law_g", "_law_r", "_law_t"] ["_law_numbers_here"] (defScope s_w_rest_right) := ⟨rfl, rfl, rfl, by decide +kernel, rfl, by decide +kernel, by decide +kernel⟩
theorem sc_law : FnScope ["_law_script", "_law_k", "_law_box_here", "_law_numbers_here", "_law_bar"] ["_law_script"] (defScope s_law) := ⟨rfl, rfl, rfl, by decide +kernel, rfl, by decide +kernel, by decide +kernel⟩
structure Tx (K : PySem.W.Frag) (mg : Str → Option Value) where
  B : BI mg
  a_is_whole : Addr
  d_is_whole : FuncData
  F_is_whole : Fun K "is_whole" "is_whole" s_is_whole a_is_whole d_is_whole
  g_is_whole : mg "is_whole" = some (.ref a_is_whole)
  b_is_whole : Binds K d_is_whole ["thing"] []
  a_is_between : Addr
  d_is_between : FuncData
  F_is_between : Fun K "is_between" "is_between" s_is_between a_is_between d_is_between
  g_is_between : mg "is_between" = some (.ref a_is_between)
  b_is_between : Binds K d_is_between ["thing", "least", "most"] []
  a_are_numbers : Addr
  d_are_numbers : FuncData
  F_are_numbers : Fun K "are_numbers" "are_numbers" s_are_numbers a_are_numbers d_are_numbers
  g_are_numbers : mg "are_numbers" = some (.ref a_are_numbers)
  b_are_numbers : Binds K d_are_numbers ["thing"] []
  a_look_at_numbers : Addr
  d_look_at_numbers : FuncData
  F_look_at_numbers : Fun K "look_at_numbers" "look_at_numbers" s_look_at_numbers a_look_at_numbers d_look_at_numbers
  g_look_at_numbers : mg "look_at_numbers" = some (.ref a_look_at_numbers)
  b_look_at_numbers : Binds K d_look_at_numbers ["numbers"] []
  a_rest_numbers : Addr
  d_rest_numbers : FuncData
  F_rest_numbers : Fun K "rest_numbers" "rest_numbers" s_rest_numbers a_rest_numbers d_rest_numbers
  g_rest_numbers : mg "rest_numbers" = some (.ref a_rest_numbers)
  b_rest_numbers : Binds K d_rest_numbers ["numbers"] []
  a_side_of : Addr
  d_side_of : FuncData
  F_side_of : Fun K "side_of" "side_of" s_side_of a_side_of d_side_of
  g_side_of : mg "side_of" = some (.ref a_side_of)
  b_side_of : Binds K d_side_of ["number"] []
  a_under_in : Addr
  d_under_in : FuncData
  F_under_in : Fun K "under_in" "under_in" s_under_in a_under_in d_under_in
  g_under_in : mg "under_in" = some (.ref a_under_in)
  b_under_in : Binds K d_under_in ["numbers"] []
  a_under_root : Addr
  d_under_root : FuncData
  F_under_root : Fun K "under_root" "under_root" s_under_root a_under_root d_under_root
  g_under_root : mg "under_root" = some (.ref a_under_root)
  b_under_root : Binds K d_under_root ["numbers"] []
  a_roots_in : Addr
  d_roots_in : FuncData
  F_roots_in : Fun K "roots_in" "roots_in" s_roots_in a_roots_in d_roots_in
  g_roots_in : mg "roots_in" = some (.ref a_roots_in)
  b_roots_in : Binds K d_roots_in ["numbers"] []
  a_roots_of : Addr
  d_roots_of : FuncData
  F_roots_of : Fun K "roots_of" "roots_of" s_roots_of a_roots_of d_roots_of
  g_roots_of : mg "roots_of" = some (.ref a_roots_of)
  b_roots_of : Binds K d_roots_of ["numbers"] []
  a_often_in : Addr
  d_often_in : FuncData
  F_often_in : Fun K "often_in" "often_in" s_often_in a_often_in d_often_in
  g_often_in : mg "often_in" = some (.ref a_often_in)
  b_often_in : Binds K d_often_in ["numbers"] []
  a_often : Addr
  d_often : FuncData
  F_often : Fun K "often" "often" s_often a_often d_often
  g_often : mg "often" = some (.ref a_often)
  b_often : Binds K d_often ["numbers"] []
  a_sides_of : Addr
  d_sides_of : FuncData
  F_sides_of : Fun K "sides_of" "sides_of" s_sides_of a_sides_of d_sides_of
  g_sides_of : mg "sides_of" = some (.ref a_sides_of)
  b_sides_of : Binds K d_sides_of ["numbers", "one", "other"] []
  a_bars_of : Addr
  d_bars_of : FuncData
  F_bars_of : Fun K "bars_of" "bars_of" s_bars_of a_bars_of d_bars_of
  g_bars_of : mg "bars_of" = some (.ref a_bars_of)
  b_bars_of : Binds K d_bars_of ["numbers"] []
  a_is_plain : Addr
  d_is_plain : FuncData
  F_is_plain : Fun K "is_plain" "is_plain" s_is_plain a_is_plain d_is_plain
  g_is_plain : mg "is_plain" = some (.ref a_is_plain)
  b_is_plain : Binds K d_is_plain ["thing"] []
  a_is_bar : Addr
  d_is_bar : FuncData
  F_is_bar : Fun K "is_bar" "is_bar" s_is_bar a_is_bar d_is_bar
  g_is_bar : mg "is_bar" = some (.ref a_is_bar)
  b_is_bar : Binds K d_is_bar ["numbers", "thing"] []
  a_first_bar : Addr
  d_first_bar : FuncData
  F_first_bar : Fun K "first_bar" "first_bar" s_first_bar a_first_bar d_first_bar
  g_first_bar : mg "first_bar" = some (.ref a_first_bar)
  b_first_bar : Binds K d_first_bar ["numbers"] []
  a_all_numbers : Addr
  d_all_numbers : FuncData
  F_all_numbers : Fun K "all_numbers" "all_numbers" s_all_numbers a_all_numbers d_all_numbers
  g_all_numbers : mg "all_numbers" = some (.ref a_all_numbers)
  b_all_numbers : Binds K d_all_numbers ["n"] []
  a_w_cell : Addr
  d_w_cell : FuncData
  F_w_cell : Fun K "_law_cell" "_law_cell" s_w_cell a_w_cell d_w_cell
  g_w_cell : mg "_law_cell" = some (.ref a_w_cell)
  b_w_cell : Binds K d_w_cell ["_law_script", "_law_k"] []
  a_w_box : Addr
  d_w_box : FuncData
  F_w_box : Fun K "_law_box" "_law_box" s_w_box a_w_box d_w_box
  g_w_box : mg "_law_box" = some (.ref a_w_box)
  b_w_box : Binds K d_w_box ["_law_script", "_law_k"] []
  a_w_take : Addr
  d_w_take : FuncData
  F_w_take : Fun K "_law_take" "_law_take" s_w_take a_w_take d_w_take
  g_w_take : mg "_law_take" = some (.ref a_w_take)
  b_w_take : Binds K d_w_take ["_law_box_here", "_law_many"] []
  a_w_numbers : Addr
  d_w_numbers : FuncData
  F_w_numbers : Fun K "_law_numbers" "_law_numbers" s_w_numbers a_w_numbers d_w_numbers
  g_w_numbers : mg "_law_numbers" = some (.ref a_w_numbers)
  b_w_numbers : Binds K d_w_numbers ["_law_box_here"] []
  a_w_rest_right : Addr
  d_w_rest_right : FuncData
  F_w_rest_right : Fun K "_law_rest_right" "_law_rest_right" s_w_rest_right a_w_rest_right d_w_rest_right
  g_w_rest_right : mg "_law_rest_right" = some (.ref a_w_rest_right)
  b_w_rest_right : Binds K d_w_rest_right ["_law_numbers_here"] []
  a_law : Addr
  d_law : FuncData
  F_law : Fun K "law" "law" s_law a_law d_law
  g_law : mg "law" = some (.ref a_law)
  b_law : Binds K d_law ["_law_script"] []
  k_MOST : Tok
  c_MOST : mg "MOST" = some (.int 1000000 k_MOST)
  k_LEAST_HERE : Tok
  c_LEAST_HERE : mg "LEAST_HERE" = some (.int 3 k_LEAST_HERE)
  k_MOST_HERE : Tok
  c_MOST_HERE : mg "MOST_HERE" = some (.int 60 k_MOST_HERE)
  A_NoNumbers : Addr
  l_NoNumbers : mg "NoNumbers" = some (.ref A_NoNumbers)
  A_NoNumber : Addr
  l_NoNumber : mg "NoNumber" = some (.ref A_NoNumber)
  e_NoNumbers : ExC K mg "NoNumbers" A_NoNumbers
  e_NoNumber : ExC K mg "NoNumber" A_NoNumber
def m_is_whole : MS := mRet (mAndV (mOpL (fn2 dIsi) (mCons (mVar 0) (mCons (mC (.raw (.ty "int"))) (mNil)))) (mOp1 dNot (mOpL (fn2 dIsi) (mCons (mVar 0) (mCons (mC (.raw (.ty "bool"))) (mNil))))))
def F_is_whole : MF := fnM 1 m_is_whole
section
variable {P : Program} {w : World} {K : PySem.W.Frag} {mg : Str → Option Value} {base : Heap}
theorem ok_is_whole (T : Tx K mg) : FnOk P w K mg base (L2N.CX P w) 1 T.a_is_whole T.d_is_whole ["thing"] (spF K mg 1 F_is_whole) := by
  refine fn_ok T.F_is_whole sc_is_whole fun cdv A outer s H E hr tk => ?_
  unfold m_is_whole
  exact (db_one (ds_ret (de_andV (de_callB call_isi ok_isi T.B.isi (da_cons (de_var 0) (da_cons (de_bltn (v := .ty "int") rfl T.B.int boot_int rfl) (da_nil))) boot_isinstance) (de_one (de_notV (de_callB call_isi ok_isi T.B.isi (da_cons (de_var 0) (da_cons (de_bltn (v := .ty "bool") rfl T.B.bool boot_bool rfl) (da_nil))) boot_isinstance))))))
end
def m_is_between : MS := mRet (mAndV (mCall F_is_whole (mCons (mVar 0) (mNil))) (mChain dLe dLe (mVar 1) (mVar 0) (mVar 2)))
def F_is_between : MF := fnM 3 m_is_between
section
variable {P : Program} {w : World} {K : PySem.W.Frag} {mg : Str → Option Value} {base : Heap}
theorem ok_is_between (T : Tx K mg) : FnOk P w K mg base (L2N.CX P w) 2 T.a_is_between T.d_is_between ["thing", "least", "most"] (spF K mg 3 F_is_between) := by
  refine fn_ok T.F_is_between sc_is_between fun cdv A outer s H E hr tk => ?_
  unfold m_is_between
  exact (db_one (ds_ret (de_andV (de_call (ok_is_whole T) (hr.mono (by omega)) T.g_is_whole T.F_is_whole.kp T.b_is_whole tk (da_cons (de_var 0) (da_nil)) (cons_len nil_len)) (de_one (de_leLe (de_var 1) (de_var 0) (de_var 2))))))
end
def m_are_numbers : MS := mSeq (mIfS (mOrT (mNotT (mT (mOpL (fn2 dIsi) (mCons (mVar 0) (mCons (mC (.raw (.ty "tuple"))) (mNil)))))) (mOrT (mT (mOp2 dNe (mOpL (fn1 dLen) (mCons (mVar 0) (mNil))) (mC (.int 4)))) (mNotT (mT (mCall F_is_between (mCons (mSlotIx 0 (mC (.int 0))) (mCons (mC (.int 3)) (mCons (mC (.int 1000000)) (mNil))))))))) (mRet (mC (.bl false))) (mNext)) (mSeq (mIfS (mOrT (mNotT (mT (mCall F_is_between (mCons (mSlotIx 0 (mC (.int 1))) (mCons (mC (.int 1)) (mCons (mOp2 dSub (mSlotIx 0 (mC (.int 0))) (mC (.int 2))) (mNil))))))) (mNotT (mT (mCall F_is_between (mCons (mSlotIx 0 (mC (.int 2))) (mCons (mC (.int 0)) (mCons (mOp2 dSub (mSlotIx 0 (mC (.int 1))) (mC (.int 1))) (mNil)))))))) (mRet (mC (.bl false))) (mNext)) (mRet (mCall F_is_between (mCons (mSlotIx 0 (mC (.int 3))) (mCons (mC (.int 0)) (mCons (mSlotIx 0 (mC (.int 1))) (mNil)))))))
def F_are_numbers : MF := fnM 1 m_are_numbers
section
variable {P : Program} {w : World} {K : PySem.W.Frag} {mg : Str → Option Value} {base : Heap}
theorem ok_are_numbers (T : Tx K mg) : FnOk P w K mg base (L2N.CX P w) 3 T.a_are_numbers T.d_are_numbers ["thing"] (spF K mg 1 F_are_numbers) := by
  refine fn_ok T.F_are_numbers sc_are_numbers fun cdv A outer s H E hr tk => ?_
  unfold m_are_numbers
  exact (db_cons (ds_if (dt_dw (dw_or (dt_not (dt_val (de_callB call_isi ok_isi T.B.isi (da_cons (de_var 0) (da_cons (de_bltn (v := .ty "tuple") rfl T.B.tuple boot_tuple rfl) (da_nil))) boot_isinstance))) (dw_or (dt_ne (hu64 hr) (de_callB call_len ok_len T.B.len (da_cons (de_var 0) (da_nil)) boot_len) (de_int)) (dw_or1 (dt_not (dt_val (de_call (ok_is_between T) (hr.mono (by omega)) T.g_is_between T.F_is_between.kp T.b_is_between tk (da_cons (de_slotIx 0 (de_int)) (da_cons (de_int) (da_cons (de_glob (d := .int 1000000) (v := .int 1000000) (u := .int 1000000 T.k_MOST) rfl T.c_MOST ⟨_, rfl⟩ (fun _ _ => by unfold Rep; rfl)) (da_nil)))) (cons_len (cons_len (cons_len nil_len)))))))))) (db_one (ds_ret (de_bl))) (db_nil)) (db_cons (ds_if (dt_dw (dw_or (dt_not (dt_val (de_call (ok_is_between T) (hr.mono (by omega)) T.g_is_between T.F_is_between.kp T.b_is_between tk (da_cons (de_slotIx 0 (de_int)) (da_cons (de_int) (da_cons (de_sub (de_slotIx 0 (de_int)) (de_int)) (da_nil)))) (cons_len (cons_len (cons_len nil_len)))))) (dw_or1 (dt_not (dt_val (de_call (ok_is_between T) (hr.mono (by omega)) T.g_is_between T.F_is_between.kp T.b_is_between tk (da_cons (de_slotIx 0 (de_int)) (da_cons (de_int) (da_cons (de_sub (de_slotIx 0 (de_int)) (de_int)) (da_nil)))) (cons_len (cons_len (cons_len nil_len))))))))) (db_one (ds_ret (de_bl))) (db_nil)) (db_one (ds_ret (de_call (ok_is_between T) (hr.mono (by omega)) T.g_is_between T.F_is_between.kp T.b_is_between tk (da_cons (de_slotIx 0 (de_int)) (da_cons (de_int) (da_cons (de_slotIx 0 (de_int)) (da_nil)))) (cons_len (cons_len (cons_len nil_len))))))))
end
def m_look_at_numbers : MS := mIfS (mNotT (mT (mCall F_are_numbers (mCons (mVar 0) (mNil))))) ((fun e => .exc "NoNumbers" [] e)) (mNext)
def F_look_at_numbers : MF := fnM 1 m_look_at_numbers
section
variable {P : Program} {w : World} {K : PySem.W.Frag} {mg : Str → Option Value} {base : Heap}
theorem ok_look_at_numbers (T : Tx K mg) : FnOk P w K mg base (L2N.CX P w) 4 T.a_look_at_numbers T.d_look_at_numbers ["numbers"] (spF K mg 1 F_look_at_numbers) := by
  refine fn_ok T.F_look_at_numbers sc_look_at_numbers fun cdv A outer s H E hr tk => ?_
  unfold m_look_at_numbers
  exact (db_one (ds_if (dt_not (dt_val (de_call (ok_are_numbers T) (hr.mono (by omega)) T.g_are_numbers T.F_are_numbers.kp T.b_are_numbers tk (da_cons (de_var 0) (da_nil)) (cons_len nil_len)))) (db_one (ds_raise tk T.e_NoNumbers)) (db_nil)))
end
def m_rest_numbers : MS := mSeq (mDrop (mCall F_look_at_numbers (mCons (mVar 0) (mNil)))) (mSeq (mAsg (mVar 0) (mgTup 4 (mgCons (mgName 1) (mgCons (mgName 2) (mgCons (mgName 3) (mgCons (mgName 4) (mgNil))))))) (mRet (mTup (mCons (mVar 1) (mCons (mOp2 dSub (mOp2 dSub (mVar 1) (mVar 2)) (mC (.int 1))) (mCons (mOp2 dSub (mOp2 dAdd (mOp2 dSub (mVar 1) (mOp2 dMul (mC (.int 2)) (mVar 2))) (mVar 4)) (mC (.int 2))) (mCons (mOp2 dAdd (mOp2 dSub (mVar 1) (mOp2 dMul (mC (.int 2)) (mVar 2))) (mVar 3)) (mNil))))))))
def F_rest_numbers : MF := fnM 5 m_rest_numbers
section
variable {P : Program} {w : World} {K : PySem.W.Frag} {mg : Str → Option Value} {base : Heap}
theorem ok_rest_numbers (T : Tx K mg) : FnOk P w K mg base (L2N.CX P w) 5 T.a_rest_numbers T.d_rest_numbers ["numbers"] (spF K mg 1 F_rest_numbers) := by
  refine fn_ok T.F_rest_numbers sc_rest_numbers fun cdv A outer s H E hr tk => ?_
  unfold m_rest_numbers
  exact (db_cons (ds_expr (de_call (ok_look_at_numbers T) (hr.mono (by omega)) T.g_look_at_numbers T.F_look_at_numbers.kp T.b_look_at_numbers tk (da_cons (de_var 0) (da_nil)) (cons_len nil_len))) (db_cons (ds_asg (de_var 0) (dg_tup rfl (dgs_cons (dg_name (i := 1) sc_rest_numbers.nd) (dgs_cons (dg_name (i := 2) sc_rest_numbers.nd) (dgs_cons (dg_name (i := 3) sc_rest_numbers.nd) (dgs_cons (dg_name (i := 4) sc_rest_numbers.nd) (dgs_nil))))))) (db_one (ds_ret (de_tup (da_cons (de_var 1) (da_cons (de_sub (de_sub (de_var 1) (de_var 2)) (de_int)) (da_cons (de_sub (de_add (de_sub (de_var 1) (de_mul (de_int) (de_var 2))) (de_var 4)) (de_int)) (da_cons (de_add (de_sub (de_var 1) (de_mul (de_int) (de_var 2))) (de_var 3)) (da_nil))))))))))
end
def m_side_of : MS := mSeq (mPar 1 2 (mCons (mC (.int 0)) (mCons (mOp2 dAdd (mVar 0) (mC (.int 1))) (mNil)))) (mSeq (mWhile (mT (mOp2 dGt (mOp2 dSub (mVar 2) (mVar 1)) (mC (.int 1)))) (mSeq (mAsg (mOp2 dFdiv (mOp2 dAdd (mVar 1) (mVar 2)) (mC (.int 2))) (mgName 3)) (mIfS (mT (mOp2 dLe (mOp2 dMul (mVar 3) (mVar 3)) (mVar 0))) (mAsg (mVar 3) (mgName 1)) (mAsg (mVar 3) (mgName 2)))) 1000000) (mRet (mVar 1)))
def l_side_of_0 : MS := mSeq (mAsg (mOp2 dFdiv (mOp2 dAdd (mVar 1) (mVar 2)) (mC (.int 2))) (mgName 3)) (mIfS (mT (mOp2 dLe (mOp2 dMul (mVar 3) (mVar 3)) (mVar 0))) (mAsg (mVar 3) (mgName 1)) (mAsg (mVar 3) (mgName 2)))
def t_side_of_0 : MT := mT (mOp2 dGt (mOp2 dSub (mVar 2) (mVar 1)) (mC (.int 1)))
def F_side_of : MF := fnM 4 m_side_of
section
variable {P : Program} {w : World} {K : PySem.W.Frag} {mg : Str → Option Value} {base : Heap}
theorem ok_side_of (T : Tx K mg) : FnOk P w K mg base (L2N.CX P w) 1 T.a_side_of T.d_side_of ["number"] (spF K mg 1 F_side_of) := by
  refine fn_ok T.F_side_of sc_side_of fun cdv A outer s H E hr tk => ?_
  unfold m_side_of
  exact (db_cons (ds_par (i := 1) (j := 2) sc_side_of.nd (da_cons (de_int) (da_cons (de_add (de_var 0) (de_int)) (da_nil)))) (db_cons (ds_while 1000000 (passes_of rfl) (dt_gt (de_sub (de_var 2) (de_var 1)) (de_int)) (db_cons (ds_set (i := 3) sc_side_of.nd (de_fdiv (de_add (de_var 1) (de_var 2)) (de_int))) (db_one (ds_if (dt_le (de_mul (de_var 3) (de_var 3)) (de_var 0)) (db_one (ds_set (i := 1) sc_side_of.nd (de_var 3))) (db_one (ds_set (i := 2) sc_side_of.nd (de_var 3))))))) (db_one (ds_ret (de_var 1)))))
end
def m_under_in : MS := mSeq (mAsg (mVar 0) (mgTup 4 (mgCons (mgName 1) (mgCons (mgName 2) (mgCons (mgName 3) (mgCons (mgName 4) (mgNil))))))) (mRet (mOp2 dAdd (mOp2 dMul (mOp2 dSub (mVar 3) (mVar 4)) (mOp2 dSub (mVar 3) (mVar 4))) (mOp2 dMul (mC (.int 4)) (mOp2 dSub (mVar 2) (mVar 4)))))
def F_under_in : MF := fnM 5 m_under_in
section
variable {P : Program} {w : World} {K : PySem.W.Frag} {mg : Str → Option Value} {base : Heap}
theorem ok_under_in (T : Tx K mg) : FnOk P w K mg base (L2N.CX P w) 1 T.a_under_in T.d_under_in ["numbers"] (spF K mg 1 F_under_in) := by
  refine fn_ok T.F_under_in sc_under_in fun cdv A outer s H E hr tk => ?_
  unfold m_under_in
  exact (db_cons (ds_asg (de_var 0) (dg_tup rfl (dgs_cons (dg_name (i := 1) sc_under_in.nd) (dgs_cons (dg_name (i := 2) sc_under_in.nd) (dgs_cons (dg_name (i := 3) sc_under_in.nd) (dgs_cons (dg_name (i := 4) sc_under_in.nd) (dgs_nil))))))) (db_one (ds_ret (de_add (de_mul (de_sub (de_var 3) (de_var 4)) (de_sub (de_var 3) (de_var 4))) (de_mul (de_int) (de_sub (de_var 2) (de_var 4)))))))
end
def m_under_root : MS := mSeq (mDrop (mCall F_look_at_numbers (mCons (mVar 0) (mNil)))) (mRet (mCall F_under_in (mCons (mVar 0) (mNil))))
def F_under_root : MF := fnM 1 m_under_root
section
variable {P : Program} {w : World} {K : PySem.W.Frag} {mg : Str → Option Value} {base : Heap}
theorem ok_under_root (T : Tx K mg) : FnOk P w K mg base (L2N.CX P w) 5 T.a_under_root T.d_under_root ["numbers"] (spF K mg 1 F_under_root) := by
  refine fn_ok T.F_under_root sc_under_root fun cdv A outer s H E hr tk => ?_
  unfold m_under_root
  exact (db_cons (ds_expr (de_call (ok_look_at_numbers T) (hr.mono (by omega)) T.g_look_at_numbers T.F_look_at_numbers.kp T.b_look_at_numbers tk (da_cons (de_var 0) (da_nil)) (cons_len nil_len))) (db_one (ds_ret (de_call (ok_under_in T) (hr.mono (by omega)) T.g_under_in T.F_under_in.kp T.b_under_in tk (da_cons (de_var 0) (da_nil)) (cons_len nil_len)))))
end
def m_roots_in : MS := mSeq (mAsg (mCall F_under_in (mCons (mVar 0) (mNil))) (mgName 1)) (mSeq (mAsg (mCall F_side_of (mCons (mVar 1) (mNil))) (mgName 2)) (mSeq (mIfS (mT (mOp2 dNe (mOp2 dMul (mVar 2) (mVar 2)) (mVar 1))) (mRet (mC .non)) (mNext)) (mSeq (mAsg (mOp2 dSub (mSlotIx 0 (mC (.int 2))) (mSlotIx 0 (mC (.int 3)))) (mgName 3)) (mRet (mTup (mCons (mOp2 dFdiv (mOp2 dAdd (mVar 3) (mVar 2)) (mC (.int 2))) (mCons (mOp2 dFdiv (mOp2 dSub (mVar 3) (mVar 2)) (mC (.int 2))) (mNil))))))))
def F_roots_in : MF := fnM 4 m_roots_in
section
variable {P : Program} {w : World} {K : PySem.W.Frag} {mg : Str → Option Value} {base : Heap}
theorem ok_roots_in (T : Tx K mg) : FnOk P w K mg base (L2N.CX P w) 2 T.a_roots_in T.d_roots_in ["numbers"] (spF K mg 1 F_roots_in) := by
  refine fn_ok T.F_roots_in sc_roots_in fun cdv A outer s H E hr tk => ?_
  unfold m_roots_in
  exact (db_cons (ds_set (i := 1) sc_roots_in.nd (de_call (ok_under_in T) (hr.mono (by omega)) T.g_under_in T.F_under_in.kp T.b_under_in tk (da_cons (de_var 0) (da_nil)) (cons_len nil_len))) (db_cons (ds_set (i := 2) sc_roots_in.nd (de_call (ok_side_of T) (hr.mono (by omega)) T.g_side_of T.F_side_of.kp T.b_side_of tk (da_cons (de_var 1) (da_nil)) (cons_len nil_len))) (db_cons (ds_if (dt_ne (hu64 hr) (de_mul (de_var 2) (de_var 2)) (de_var 1)) (db_one (ds_ret (de_non))) (db_nil)) (db_cons (ds_set (i := 3) sc_roots_in.nd (de_sub (de_slotIx 0 (de_int)) (de_slotIx 0 (de_int)))) (db_one (ds_ret (de_tup (da_cons (de_fdiv (de_add (de_var 3) (de_var 2)) (de_int)) (da_cons (de_fdiv (de_sub (de_var 3) (de_var 2)) (de_int)) (da_nil))))))))))
end
def m_roots_of : MS := mSeq (mDrop (mCall F_look_at_numbers (mCons (mVar 0) (mNil)))) (mRet (mCall F_roots_in (mCons (mVar 0) (mNil))))
def F_roots_of : MF := fnM 1 m_roots_of
section
variable {P : Program} {w : World} {K : PySem.W.Frag} {mg : Str → Option Value} {base : Heap}
theorem ok_roots_of (T : Tx K mg) : FnOk P w K mg base (L2N.CX P w) 5 T.a_roots_of T.d_roots_of ["numbers"] (spF K mg 1 F_roots_of) := by
  refine fn_ok T.F_roots_of sc_roots_of fun cdv A outer s H E hr tk => ?_
  unfold m_roots_of
  exact (db_cons (ds_expr (de_call (ok_look_at_numbers T) (hr.mono (by omega)) T.g_look_at_numbers T.F_look_at_numbers.kp T.b_look_at_numbers tk (da_cons (de_var 0) (da_nil)) (cons_len nil_len))) (db_one (ds_ret (de_call (ok_roots_in T) (hr.mono (by omega)) T.g_roots_in T.F_roots_in.kp T.b_roots_in tk (da_cons (de_var 0) (da_nil)) (cons_len nil_len)))))
end
def m_often_in : MS := mSeq (mAsg (mVar 0) (mgTup 4 (mgCons (mgName 3) (mgCons (mgName 4) (mgCons (mgName 5) (mgCons (mgName 6) (mgNil))))))) (mSeq (mAsg (mCall F_roots_in (mCons (mVar 0) (mNil))) (mgName 1)) (mSeq (mIfS (mT (mOp1 (dIs false) (mVar 1))) (mSeq (mIfS (mOrT (mT (mOp2 dEq (mOp2 dMod (mVar 3) (mC (.int 2))) (mC (.int 0)))) (mT (mOp2 dNe (mOp2 dAdd (mOp2 dMul (mC (.int 2)) (mVar 4)) (mOp2 dMul (mOp2 dSub (mVar 3) (mC (.int 1))) (mOp2 dSub (mVar 5) (mVar 6)))) (mC (.int 0))))) (mRet (mC .non)) (mNext)) (mRet (mTup (mCons (mOp2 dFdiv (mOp2 dSub (mVar 3) (mC (.int 1))) (mC (.int 2))) (mCons (mOp2 dFdiv (mOp2 dSub (mVar 3) (mC (.int 1))) (mC (.int 2))) (mNil)))))) (mNext)) (mSeq (mAsg (mVar 1) (mgTup 2 (mgCons (mgName 7) (mgCons (mgName 8) (mgNil))))) (mSeq (mAsg (mOp2 dSub (mOp2 dSub (mC (.int 0)) (mVar 4)) (mOp2 dMul (mOp2 dSub (mVar 3) (mC (.int 1))) (mVar 8))) (mgName 2)) (mSeq (mIfS (mOrT (mT (mOp2 dNe (mOp2 dMod (mVar 2) (mOp2 dSub (mVar 7) (mVar 8))) (mC (.int 0)))) (mNotT (mT (mChain dLe dLe (mC (.int 0)) (mOp2 dFdiv (mVar 2) (mOp2 dSub (mVar 7) (mVar 8))) (mOp2 dSub (mVar 3) (mC (.int 1))))))) (mRet (mC .non)) (mNext)) (mRet (mTup (mCons (mOp2 dFdiv (mVar 2) (mOp2 dSub (mVar 7) (mVar 8))) (mCons (mOp2 dSub (mOp2 dSub (mVar 3) (mC (.int 1))) (mOp2 dFdiv (mVar 2) (mOp2 dSub (mVar 7) (mVar 8)))) (mNil))))))))))
def F_often_in : MF := fnM 9 m_often_in
section
variable {P : Program} {w : World} {K : PySem.W.Frag} {mg : Str → Option Value} {base : Heap}
theorem ok_often_in (T : Tx K mg) : FnOk P w K mg base (L2N.CX P w) 3 T.a_often_in T.d_often_in ["numbers"] (spF K mg 1 F_often_in) := by
  refine fn_ok T.F_often_in sc_often_in fun cdv A outer s H E hr tk => ?_
  unfold m_often_in
  exact (db_cons (ds_asg (de_var 0) (dg_tup rfl (dgs_cons (dg_name (i := 3) sc_often_in.nd) (dgs_cons (dg_name (i := 4) sc_often_in.nd) (dgs_cons (dg_name (i := 5) sc_often_in.nd) (dgs_cons (dg_name (i := 6) sc_often_in.nd) (dgs_nil))))))) (db_cons (ds_set (i := 1) sc_often_in.nd (de_call (ok_roots_in T) (hr.mono (by omega)) T.g_roots_in T.F_roots_in.kp T.b_roots_in tk (da_cons (de_var 0) (da_nil)) (cons_len nil_len))) (db_cons (ds_if (dt_isN (de_var 1)) (db_cons (ds_if (dt_dw (dw_or (dt_eq (hu64 hr) (de_mod (de_var 3) (de_int)) (de_int)) (dw_or1 (dt_ne (hu64 hr) (de_add (de_mul (de_int) (de_var 4)) (de_mul (de_sub (de_var 3) (de_int)) (de_sub (de_var 5) (de_var 6)))) (de_int))))) (db_one (ds_ret (de_non))) (db_nil)) (db_one (ds_ret (de_tup (da_cons (de_fdiv (de_sub (de_var 3) (de_int)) (de_int)) (da_cons (de_fdiv (de_sub (de_var 3) (de_int)) (de_int)) (da_nil))))))) (db_nil)) (db_cons (ds_asg (de_var 1) (dg_tup rfl (dgs_cons (dg_name (i := 7) sc_often_in.nd) (dgs_cons (dg_name (i := 8) sc_often_in.nd) (dgs_nil))))) (db_cons (ds_set (i := 2) sc_often_in.nd (de_sub (de_sub (de_int) (de_var 4)) (de_mul (de_sub (de_var 3) (de_int)) (de_var 8)))) (db_cons (ds_if (dt_dw (dw_or (dt_ne (hu64 hr) (de_mod (de_var 2) (de_sub (de_var 7) (de_var 8))) (de_int)) (dw_or1 (dt_not (dt_leLe (de_int) (de_fdiv (de_var 2) (de_sub (de_var 7) (de_var 8))) (de_sub (de_var 3) (de_int))))))) (db_one (ds_ret (de_non))) (db_nil)) (db_one (ds_ret (de_tup (da_cons (de_fdiv (de_var 2) (de_sub (de_var 7) (de_var 8))) (da_cons (de_sub (de_sub (de_var 3) (de_int)) (de_fdiv (de_var 2) (de_sub (de_var 7) (de_var 8)))) (da_nil))))))))))))
end
def m_often : MS := mSeq (mDrop (mCall F_look_at_numbers (mCons (mVar 0) (mNil)))) (mRet (mCall F_often_in (mCons (mVar 0) (mNil))))
def F_often : MF := fnM 1 m_often
section
variable {P : Program} {w : World} {K : PySem.W.Frag} {mg : Str → Option Value} {base : Heap}
theorem ok_often (T : Tx K mg) : FnOk P w K mg base (L2N.CX P w) 5 T.a_often T.d_often ["numbers"] (spF K mg 1 F_often) := by
  refine fn_ok T.F_often sc_often fun cdv A outer s H E hr tk => ?_
  unfold m_often
  exact (db_cons (ds_expr (de_call (ok_look_at_numbers T) (hr.mono (by omega)) T.g_look_at_numbers T.F_look_at_numbers.kp T.b_look_at_numbers tk (da_cons (de_var 0) (da_nil)) (cons_len nil_len))) (db_one (ds_ret (de_call (ok_often_in T) (hr.mono (by omega)) T.g_often_in T.F_often_in.kp T.b_often_in tk (da_cons (de_var 0) (da_nil)) (cons_len nil_len)))))
end
def m_sides_of : MS := mSeq (mAsg (mSlotIx 0 (mC (.int 1))) (mgName 3)) (mRet (mTup (mCons (mOp2 dMul (mOp2 dAdd (mVar 1) (mC (.int 1))) (mOp2 dAdd (mOp2 dAdd (mVar 3) (mVar 1)) (mOp2 dMul (mOp2 dMul (mC (.int 2)) (mVar 1)) (mVar 2)))) (mCons (mOp2 dMul (mOp2 dMul (mOp2 dAdd (mVar 3) (mVar 1)) (mOp2 dAdd (mVar 2) (mC (.int 1)))) (mOp2 dAdd (mVar 2) (mC (.int 1)))) (mNil)))))
def F_sides_of : MF := fnM 4 m_sides_of
section
variable {P : Program} {w : World} {K : PySem.W.Frag} {mg : Str → Option Value} {base : Heap}
theorem ok_sides_of (T : Tx K mg) : FnOk P w K mg base (L2N.CX P w) 1 T.a_sides_of T.d_sides_of ["numbers", "one", "other"] (spF K mg 3 F_sides_of) := by
  refine fn_ok T.F_sides_of sc_sides_of fun cdv A outer s H E hr tk => ?_
  unfold m_sides_of
  exact (db_cons (ds_set (i := 3) sc_sides_of.nd (de_slotIx 0 (de_int))) (db_one (ds_ret (de_tup (da_cons (de_mul (de_add (de_var 1) (de_int)) (de_add (de_add (de_var 3) (de_var 1)) (de_mul (de_mul (de_int) (de_var 1)) (de_var 2)))) (da_cons (de_mul (de_mul (de_add (de_var 3) (de_var 1)) (de_add (de_var 2) (de_int))) (de_add (de_var 2) (de_int))) (da_nil)))))))
end
def m_bars_of : MS := mSeq (mAsg (mVar 0) (mgTup 4 (mgCons (mgName 4) (mgCons (mgName 5) (mgCons (mgName 6) (mgCons (mgName 7) (mgNil))))))) (mSeq (mAsg (mLst (mNil)) (mgName 1)) (mSeq (mIfS (mT (mOp2 dNe (mOp2 dMul (mVar 5) (mOp2 dSub (mOp2 dSub (mVar 5) (mVar 6)) (mC (.int 1)))) (mOp2 dMul (mOp2 dSub (mOp2 dSub (mVar 4) (mVar 5)) (mC (.int 1))) (mVar 7)))) (mDrop (mAppend 1 (mTup (mCons (mC (.str "count")) (mCons (mOp2 dMul (mVar 5) (mOp2 dSub (mOp2 dSub (mVar 5) (mVar 6)) (mC (.int 1)))) (mCons (mOp2 dMul (mOp2 dSub (mOp2 dSub (mVar 4) (mVar 5)) (mC (.int 1))) (mVar 7)) (mNil))))))) (mNext)) (mSeq (mAsg (mCall F_often_in (mCons (mVar 0) (mNil))) (mgName 2)) (mSeq (mIfS (mT (mOp1 (dIs false) (mVar 2))) (mDrop (mAppend 1 (mTup (mCons (mC (.str "often")) (mNil))))) (mNext)) (mSeq (mAsg (mCall F_roots_in (mCons (mVar 0) (mNil))) (mgName 3)) (mSeq (mIfS (mT (mOp1 (dIs true) (mVar 3))) (mSeq (mFor (mItL (mLst (mCons (mTup (mCons (mC (.str "great")) (mCons (mSlotIx 3 (mC (.int 0))) (mCons (mSlotIx 3 (mC (.int 1))) (mNil))))) (mCons (mTup (mCons (mC (.str "less")) (mCons (mSlotIx 3 (mC (.int 1))) (mCons (mSlotIx 3 (mC (.int 0))) (mNil))))) (mNil))))) (mgTup 3 (mgCons (mgName 8) (mgCons (mgName 9) (mgCons (mgName 10) (mgNil))))) (mSeq (mAsg (mCall F_sides_of (mCons (mVar 0) (mCons (mVar 9) (mCons (mVar 10) (mNil))))) (mgName 11)) (mIfS (mT (mOp2 dGt (mSlotIx 11 (mC (.int 0))) (mSlotIx 11 (mC (.int 1))))) (mDrop (mAppend 1 (mOp2 dAdd (mTup (mCons (mVar 8) (mNil))) (mVar 11)))) (mNext)))) (mIfS (mAndT (mT (mOp1 (dIs true) (mVar 2))) (mT (mOp2 dNotIn (mVar 7) (mTup (mCons (mC (.int 0)) (mCons (mVar 5) (mNil))))))) (mDrop (mExtend 1 (mLc [12] (mItT (mVar 2)) (mgName 12) (mT (mOp2 dGt (mOp2 dMul (mC (.int 2)) (mVar 4)) (mOp2 dMul (mVar 12) (mOp2 dAdd (mVar 12) (mC (.int 3)))))) (mTup (mCons (mC (.str "few")) (mCons (mVar 12) (mCons (mVar 4) (mNil)))))))) (mNext))) (mNext)) (mRet (mMove 1))))))))
def l_bars_of_0 : MS := mSeq (mAsg (mCall F_sides_of (mCons (mVar 0) (mCons (mVar 9) (mCons (mVar 10) (mNil))))) (mgName 11)) (mIfS (mT (mOp2 dGt (mSlotIx 11 (mC (.int 0))) (mSlotIx 11 (mC (.int 1))))) (mDrop (mAppend 1 (mOp2 dAdd (mTup (mCons (mVar 8) (mNil))) (mVar 11)))) (mNext))
def F_bars_of : MF := fnM 13 m_bars_of
section
variable {P : Program} {w : World} {K : PySem.W.Frag} {mg : Str → Option Value} {base : Heap}
theorem ok_bars_of (T : Tx K mg) : FnOk P w K mg base (L2N.CX P w) 4 T.a_bars_of T.d_bars_of ["numbers"] (spF K mg 1 F_bars_of) := by
  refine fn_ok T.F_bars_of sc_bars_of fun cdv A outer s H E hr tk => ?_
  unfold m_bars_of
  exact (db_cons (ds_asg (de_var 0) (dg_tup rfl (dgs_cons (dg_name (i := 4) sc_bars_of.nd) (dgs_cons (dg_name (i := 5) sc_bars_of.nd) (dgs_cons (dg_name (i := 6) sc_bars_of.nd) (dgs_cons (dg_name (i := 7) sc_bars_of.nd) (dgs_nil))))))) (db_cons (ds_set (i := 1) sc_bars_of.nd (de_lst (da_nil))) (db_cons (ds_if (dt_ne (hu64 hr) (de_mul (de_var 5) (de_sub (de_sub (de_var 5) (de_var 6)) (de_int))) (de_mul (de_sub (de_sub (de_var 4) (de_var 5)) (de_int)) (de_var 7))) (db_one (ds_expr (de_append 1 (de_tup (da_cons (de_str) (da_cons (de_mul (de_var 5) (de_sub (de_sub (de_var 5) (de_var 6)) (de_int))) (da_cons (de_mul (de_sub (de_sub (de_var 4) (de_var 5)) (de_int)) (de_var 7)) (da_nil)))))))) (db_nil)) (db_cons (ds_set (i := 2) sc_bars_of.nd (de_call (ok_often_in T) (hr.mono (by omega)) T.g_often_in T.F_often_in.kp T.b_often_in tk (da_cons (de_var 0) (da_nil)) (cons_len nil_len))) (db_cons (ds_if (dt_isN (de_var 2)) (db_one (ds_expr (de_append 1 (de_tup (da_cons (de_str) (da_nil)))))) (db_nil)) (db_cons (ds_set (i := 3) sc_bars_of.nd (de_call (ok_roots_in T) (hr.mono (by omega)) T.g_roots_in T.F_roots_in.kp T.b_roots_in tk (da_cons (de_var 0) (da_nil)) (cons_len nil_len))) (db_cons (ds_if (dt_notN (de_var 3)) (db_cons (ds_for (passes_of rfl) rfl (di_list (de_lst (da_cons (de_tup (da_cons (de_str) (da_cons (de_slotIx 3 (de_int)) (da_cons (de_slotIx 3 (de_int)) (da_nil))))) (da_cons (de_tup (da_cons (de_str) (da_cons (de_slotIx 3 (de_int)) (da_cons (de_slotIx 3 (de_int)) (da_nil))))) (da_nil))))) (dg_tup rfl (dgs_cons (dg_name (i := 8) sc_bars_of.nd) (dgs_cons (dg_name (i := 9) sc_bars_of.nd) (dgs_cons (dg_name (i := 10) sc_bars_of.nd) (dgs_nil))))) (db_cons (ds_set (i := 11) sc_bars_of.nd (de_call (ok_sides_of T) (hr.mono (by omega)) T.g_sides_of T.F_sides_of.kp T.b_sides_of tk (da_cons (de_var 0) (da_cons (de_var 9) (da_cons (de_var 10) (da_nil)))) (cons_len (cons_len (cons_len nil_len))))) (db_one (ds_if (dt_gt (de_slotIx 11 (de_int)) (de_slotIx 11 (de_int))) (db_one (ds_expr (de_append 1 (de_add (de_tup (da_cons (de_var 8) (da_nil))) (de_var 11))))) (db_nil))))) (db_one (ds_if (dt_dw (dw_and (dt_notN (de_var 2)) (dw_and1 (dt_notIn (hu65 hr) (de_var 7) (de_tup (da_cons (de_int) (da_cons (de_var 5) (da_nil)))))))) (db_one (ds_expr (de_extend 1 (de_lcIf (own := [("many", 12)]) sc_bars_of.nd (di_tup (de_var 2)) rfl (by decide) (by decide) (fun _ _ _ _ _ => dg_name (i := 12) sc_bars_of.nd) (fun _ _ _ _ _ => dt_gt (de_mul (de_int) (de_var 4)) (de_mul (de_var 12) (de_add (de_var 12) (de_int)))) (fun _ _ _ _ _ => de_tup (da_cons (de_str) (da_cons (de_var 12) (da_cons (de_var 4) (da_nil))))))))) (db_nil)))) (db_nil)) (db_one (ds_ret (de_move 1))))))))))
end
def m_is_plain : MS := mSeq (mIfS (mOrT (mNotT (mT (mOpL (fn2 dIsi) (mCons (mVar 0) (mCons (mC (.raw (.ty "tuple"))) (mNil)))))) (mOrT (mT (mOp2 dEq (mVar 0) (mTup (mNil)))) (mNotT (mT (mOpL (fn2 dIsi) (mCons (mSlotIx 0 (mC (.int 0))) (mCons (mC (.raw (.ty "str"))) (mNil)))))))) (mRet (mC (.bl false))) (mNext)) (mRet (mOpL (fn1 dAll) (mCons (mLc [1] (mItT (mSl (mVar 0) (mPart (mC (.int 1))) (mNoPart))) (mgName 1) (mYes) (mAndV (mOpL (fn2 dIsi) (mCons (mVar 1) (mCons (mC (.raw (.ty "int"))) (mNil)))) (mOp1 dNot (mOpL (fn2 dIsi) (mCons (mVar 1) (mCons (mC (.raw (.ty "bool"))) (mNil))))))) (mNil))))
def F_is_plain : MF := fnM 2 m_is_plain
section
variable {P : Program} {w : World} {K : PySem.W.Frag} {mg : Str → Option Value} {base : Heap}
theorem ok_is_plain (T : Tx K mg) : FnOk P w K mg base (L2N.CX P w) 1 T.a_is_plain T.d_is_plain ["thing"] (spF K mg 1 F_is_plain) := by
  refine fn_ok T.F_is_plain sc_is_plain fun cdv A outer s H E hr tk => ?_
  unfold m_is_plain
  exact (db_cons (ds_if (dt_dw (dw_or (dt_not (dt_val (de_callB call_isi ok_isi T.B.isi (da_cons (de_var 0) (da_cons (de_bltn (v := .ty "tuple") rfl T.B.tuple boot_tuple rfl) (da_nil))) boot_isinstance))) (dw_or (dt_eq (hu64 hr) (de_var 0) (de_tup (da_nil))) (dw_or1 (dt_not (dt_val (de_callB call_isi ok_isi T.B.isi (da_cons (de_slotIx 0 (de_int)) (da_cons (de_bltn (v := .ty "str") rfl T.B.str boot_str rfl) (da_nil))) boot_isinstance))))))) (db_one (ds_ret (de_bl))) (db_nil)) (db_one (ds_ret (de_callB (cr_all rfl) ok_all T.B.all (da_cons (de_lc (own := [("one", 1)]) sc_is_plain.nd (di_tup (de_sl (de_var 0) (do_some (de_int)) (do_none))) rfl (by decide) (by decide) (fun _ _ _ _ _ => dg_name (i := 1) sc_is_plain.nd) (fun _ _ _ _ _ => de_andV (de_callB call_isi ok_isi T.B.isi (da_cons (de_var 1) (da_cons (de_bltn (v := .ty "int") rfl T.B.int boot_int rfl) (da_nil))) boot_isinstance) (de_one (de_notV (de_callB call_isi ok_isi T.B.isi (da_cons (de_var 1) (da_cons (de_bltn (v := .ty "bool") rfl T.B.bool boot_bool rfl) (da_nil))) boot_isinstance))))) (da_nil)) boot_all))))
end
def m_is_bar : MS := mSeq (mDrop (mCall F_look_at_numbers (mCons (mVar 0) (mNil)))) (mRet (mAndV (mCall F_is_plain (mCons (mVar 1) (mNil))) (mOp2 dIn (mVar 1) (mCall F_bars_of (mCons (mVar 0) (mNil))))))
def F_is_bar : MF := fnM 2 m_is_bar
section
variable {P : Program} {w : World} {K : PySem.W.Frag} {mg : Str → Option Value} {base : Heap}
theorem ok_is_bar (T : Tx K mg) : FnOk P w K mg base (L2N.CX P w) 5 T.a_is_bar T.d_is_bar ["numbers", "thing"] (spF K mg 2 F_is_bar) := by
  refine fn_ok T.F_is_bar sc_is_bar fun cdv A outer s H E hr tk => ?_
  unfold m_is_bar
  exact (db_cons (ds_expr (de_call (ok_look_at_numbers T) (hr.mono (by omega)) T.g_look_at_numbers T.F_look_at_numbers.kp T.b_look_at_numbers tk (da_cons (de_var 0) (da_nil)) (cons_len nil_len))) (db_one (ds_ret (de_andV (de_call (ok_is_plain T) (hr.mono (by omega)) T.g_is_plain T.F_is_plain.kp T.b_is_plain tk (da_cons (de_var 1) (da_nil)) (cons_len nil_len)) (de_one (de_in (hu65 hr) (de_var 1) (de_call (ok_bars_of T) (hr.mono (by omega)) T.g_bars_of T.F_bars_of.kp T.b_bars_of tk (da_cons (de_var 0) (da_nil)) (cons_len nil_len))))))))
end
def m_first_bar : MS := mSeq (mDrop (mCall F_look_at_numbers (mCons (mVar 0) (mNil)))) (mSeq (mAsg (mCall F_bars_of (mCons (mVar 0) (mNil))) (mgName 1)) (mSeq (mIfS (mT (mOp2 dEq (mFrz 1) (mLst (mNil)))) (mRet (mC .non)) (mNext)) (mRet (mSlotIx 1 (mC (.int 0))))))
def F_first_bar : MF := fnM 2 m_first_bar
section
variable {P : Program} {w : World} {K : PySem.W.Frag} {mg : Str → Option Value} {base : Heap}
theorem ok_first_bar (T : Tx K mg) : FnOk P w K mg base (L2N.CX P w) 5 T.a_first_bar T.d_first_bar ["numbers"] (spF K mg 1 F_first_bar) := by
  refine fn_ok T.F_first_bar sc_first_bar fun cdv A outer s H E hr tk => ?_
  unfold m_first_bar
  exact (db_cons (ds_expr (de_call (ok_look_at_numbers T) (hr.mono (by omega)) T.g_look_at_numbers T.F_look_at_numbers.kp T.b_look_at_numbers tk (da_cons (de_var 0) (da_nil)) (cons_len nil_len))) (db_cons (ds_set (i := 1) sc_first_bar.nd (de_call (ok_bars_of T) (hr.mono (by omega)) T.g_bars_of T.F_bars_of.kp T.b_bars_of tk (da_cons (de_var 0) (da_nil)) (cons_len nil_len))) (db_cons (ds_if (dt_eq (hu64 hr) (de_frz 1) (de_lst (da_nil))) (db_one (ds_ret (de_non))) (db_nil)) (db_one (ds_ret (de_slotIx 1 (de_int)))))))
end
def m_all_numbers : MS := mSeq (mIfS (mNotT (mT (mCall F_is_between (mCons (mVar 0) (mCons (mC (.int 3)) (mCons (mC (.int 60)) (mNil))))))) ((fun e => .exc "NoNumber" [] e)) (mNext)) (mSeq (mAsg (mLst (mNil)) (mgName 1)) (mSeq (mFor (mRng2 (mCons (mC (.int 1)) (mCons (mOp2 dSub (mVar 0) (mC (.int 1))) (mNil)))) (mgName 2) (mFor (mRng1 (mCons (mVar 2) (mNil))) (mgName 3) (mSeq (mAsg (mOpL (fn2 dDivmod) (mCons (mOp2 dMul (mVar 2) (mOp2 dSub (mOp2 dSub (mVar 2) (mVar 3)) (mC (.int 1)))) (mCons (mOp2 dSub (mOp2 dSub (mVar 0) (mVar 2)) (mC (.int 1))) (mNil)))) (mgTup 2 (mgCons (mgName 5) (mgCons (mgName 6) (mgNil))))) (mSeq (mAsg (mTup (mCons (mVar 0) (mCons (mVar 2) (mCons (mVar 3) (mCons (mVar 5) (mNil)))))) (mgName 4)) (mIfS (mAndT (mT (mOp2 dEq (mVar 6) (mC (.int 0)))) (mAndT (mT (mCall F_are_numbers (mCons (mVar 4) (mNil)))) (mT (mOp2 dEq (mCall F_bars_of (mCons (mVar 4) (mNil))) (mLst (mNil)))))) (mDrop (mAppend 1 (mVar 4))) (mNext)))))) (mRet (mMove 1))))
def l_all_numbers_0 : MS := mFor (mRng1 (mCons (mVar 2) (mNil))) (mgName 3) (mSeq (mAsg (mOpL (fn2 dDivmod) (mCons (mOp2 dMul (mVar 2) (mOp2 dSub (mOp2 dSub (mVar 2) (mVar 3)) (mC (.int 1)))) (mCons (mOp2 dSub (mOp2 dSub (mVar 0) (mVar 2)) (mC (.int 1))) (mNil)))) (mgTup 2 (mgCons (mgName 5) (mgCons (mgName 6) (mgNil))))) (mSeq (mAsg (mTup (mCons (mVar 0) (mCons (mVar 2) (mCons (mVar 3) (mCons (mVar 5) (mNil)))))) (mgName 4)) (mIfS (mAndT (mT (mOp2 dEq (mVar 6) (mC (.int 0)))) (mAndT (mT (mCall F_are_numbers (mCons (mVar 4) (mNil)))) (mT (mOp2 dEq (mCall F_bars_of (mCons (mVar 4) (mNil))) (mLst (mNil)))))) (mDrop (mAppend 1 (mVar 4))) (mNext))))
def l_all_numbers_1 : MS := mSeq (mAsg (mOpL (fn2 dDivmod) (mCons (mOp2 dMul (mVar 2) (mOp2 dSub (mOp2 dSub (mVar 2) (mVar 3)) (mC (.int 1)))) (mCons (mOp2 dSub (mOp2 dSub (mVar 0) (mVar 2)) (mC (.int 1))) (mNil)))) (mgTup 2 (mgCons (mgName 5) (mgCons (mgName 6) (mgNil))))) (mSeq (mAsg (mTup (mCons (mVar 0) (mCons (mVar 2) (mCons (mVar 3) (mCons (mVar 5) (mNil)))))) (mgName 4)) (mIfS (mAndT (mT (mOp2 dEq (mVar 6) (mC (.int 0)))) (mAndT (mT (mCall F_are_numbers (mCons (mVar 4) (mNil)))) (mT (mOp2 dEq (mCall F_bars_of (mCons (mVar 4) (mNil))) (mLst (mNil)))))) (mDrop (mAppend 1 (mVar 4))) (mNext)))
def F_all_numbers : MF := fnM 7 m_all_numbers
section
variable {P : Program} {w : World} {K : PySem.W.Frag} {mg : Str → Option Value} {base : Heap}
theorem ok_all_numbers (T : Tx K mg) : FnOk P w K mg base (L2N.CX P w) 5 T.a_all_numbers T.d_all_numbers ["n"] (spF K mg 1 F_all_numbers) := by
  refine fn_ok T.F_all_numbers sc_all_numbers fun cdv A outer s H E hr tk => ?_
  unfold m_all_numbers
  exact (db_cons (ds_if (dt_not (dt_val (de_call (ok_is_between T) (hr.mono (by omega)) T.g_is_between T.F_is_between.kp T.b_is_between tk (da_cons (de_var 0) (da_cons (de_glob (d := .int 3) (v := .int 3) (u := .int 3 T.k_LEAST_HERE) rfl T.c_LEAST_HERE ⟨_, rfl⟩ (fun _ _ => by unfold Rep; rfl)) (da_cons (de_glob (d := .int 60) (v := .int 60) (u := .int 60 T.k_MOST_HERE) rfl T.c_MOST_HERE ⟨_, rfl⟩ (fun _ _ => by unfold Rep; rfl)) (da_nil)))) (cons_len (cons_len (cons_len nil_len)))))) (db_one (ds_raise tk T.e_NoNumber)) (db_nil)) (db_cons (ds_set (i := 1) sc_all_numbers.nd (de_lst (da_nil))) (db_cons (ds_for (passes_of rfl) rfl (di_rng2 T.B (da_cons (de_int) (da_cons (de_sub (de_var 0) (de_int)) (da_nil)))) (dg_name (i := 2) sc_all_numbers.nd) (db_one (ds_for (passes_of rfl) rfl (di_rng1 T.B (da_cons (de_var 2) (da_nil))) (dg_name (i := 3) sc_all_numbers.nd) (db_cons (ds_asg (de_callB call_divmodW ok_divmod T.B.divmod (da_cons (de_mul (de_var 2) (de_sub (de_sub (de_var 2) (de_var 3)) (de_int))) (da_cons (de_sub (de_sub (de_var 0) (de_var 2)) (de_int)) (da_nil))) boot_divmod) (dg_tup rfl (dgs_cons (dg_name (i := 5) sc_all_numbers.nd) (dgs_cons (dg_name (i := 6) sc_all_numbers.nd) (dgs_nil))))) (db_cons (ds_set (i := 4) sc_all_numbers.nd (de_tup (da_cons (de_var 0) (da_cons (de_var 2) (da_cons (de_var 3) (da_cons (de_var 5) (da_nil))))))) (db_one (ds_if (dt_dw (dw_and (dt_eq (hu64 hr) (de_var 6) (de_int)) (dw_and (dt_val (de_call (ok_are_numbers T) (hr.mono (by omega)) T.g_are_numbers T.F_are_numbers.kp T.b_are_numbers tk (da_cons (de_var 4) (da_nil)) (cons_len nil_len))) (dw_and1 (dt_eq (hu64 hr) (de_call (ok_bars_of T) (hr.mono (by omega)) T.g_bars_of T.F_bars_of.kp T.b_bars_of tk (da_cons (de_var 4) (da_nil)) (cons_len nil_len)) (de_lst (da_nil))))))) (db_one (ds_expr (de_append 1 (de_var 4)))) (db_nil)))))))) (db_one (ds_ret (de_move 1))))))
end
def m_w_cell : MS := mSeq (mIfS (mT (mOp2 dLt (mVar 1) (mOpL (fn1 dLen) (mCons (mVar 0) (mNil))))) (mRet (mSlotIx 0 (mVar 1))) (mNext)) (mRet (mOp2 dAdd (mOp2 dMul (mC (.int 6151)) (mVar 1)) (mC (.int 29))))
def F_w_cell : MF := fnM 2 m_w_cell
section
variable {P : Program} {w : World} {K : PySem.W.Frag} {mg : Str → Option Value} {base : Heap}
theorem ok_w_cell (T : Tx K mg) : FnOk P w K mg base (L2N.CX P w) 1 T.a_w_cell T.d_w_cell ["_law_script", "_law_k"] (spF K mg 2 F_w_cell) := by
  refine fn_ok T.F_w_cell sc_w_cell fun cdv A outer s H E hr tk => ?_
  unfold m_w_cell
  exact (db_cons (ds_if (dt_lt (hu64 hr) (de_var 1) (de_callB call_len ok_len T.B.len (da_cons (de_var 0) (da_nil)) boot_len)) (db_one (ds_ret (de_slotIx 0 (de_var 1)))) (db_nil)) (db_one (ds_ret (de_add (de_mul (de_int) (de_var 1)) (de_int)))))
end
def m_w_box : MS := mSeq (mAsg (mCall F_w_cell (mCons (mVar 0) (mCons (mVar 1) (mNil)))) (mgName 2)) (mSeq (mIfS (mT (mOp2 dEq (mOp2 dMod (mVar 2) (mC (.int 2))) (mC (.int 0)))) (mRet (mLst (mCons (mOp2 dFdiv (mVar 2) (mC (.int 2))) (mNil)))) (mNext)) (mSeq (mAsg (mC (.int 0)) (mgName 3)) (mSeq (mAsg (mOp2 dMod (mVar 2) (mC (.int 2147483647))) (mgName 4)) (mSeq (mFor (mRng1 (mCons (mC (.int 24)) (mNil))) (mgName 5) (mSeq (mAsg (mOp2 dMod (mOp2 dAdd (mOp2 dAdd (mOp2 dAdd (mOp2 dMul (mVar 4) (mC (.int 48271))) (mOp2 dMul (mOp2 dMul (mC (.int 7)) (mVar 5)) (mVar 5))) (mOp2 dMul (mC (.int 11)) (mVar 1))) (mC (.int 1))) (mC (.int 2147483647))) (mgName 4)) (mAsg (mOp2 dAdd (mOp2 dMul (mVar 3) (mC (.int 2147483647))) (mVar 4)) (mgName 3)))) (mRet (mLst (mCons (mVar 3) (mNil))))))))
def l_w_box_0 : MS := mSeq (mAsg (mOp2 dMod (mOp2 dAdd (mOp2 dAdd (mOp2 dAdd (mOp2 dMul (mVar 4) (mC (.int 48271))) (mOp2 dMul (mOp2 dMul (mC (.int 7)) (mVar 5)) (mVar 5))) (mOp2 dMul (mC (.int 11)) (mVar 1))) (mC (.int 1))) (mC (.int 2147483647))) (mgName 4)) (mAsg (mOp2 dAdd (mOp2 dMul (mVar 3) (mC (.int 2147483647))) (mVar 4)) (mgName 3))
def F_w_box : MF := fnM 6 m_w_box
section
variable {P : Program} {w : World} {K : PySem.W.Frag} {mg : Str → Option Value} {base : Heap}
theorem ok_w_box (T : Tx K mg) : FnOk P w K mg base (L2N.CX P w) 2 T.a_w_box T.d_w_box ["_law_script", "_law_k"] (spF K mg 2 F_w_box) := by
  refine fn_ok T.F_w_box sc_w_box fun cdv A outer s H E hr tk => ?_
  unfold m_w_box
  exact (db_cons (ds_set (i := 2) sc_w_box.nd (de_call (ok_w_cell T) (hr.mono (by omega)) T.g_w_cell T.F_w_cell.kp T.b_w_cell tk (da_cons (de_var 0) (da_cons (de_var 1) (da_nil))) (cons_len (cons_len nil_len)))) (db_cons (ds_if (dt_eq (hu64 hr) (de_mod (de_var 2) (de_int)) (de_int)) (db_one (ds_ret (de_lst (da_cons (de_fdiv (de_var 2) (de_int)) (da_nil))))) (db_nil)) (db_cons (ds_set (i := 3) sc_w_box.nd (de_int)) (db_cons (ds_set (i := 4) sc_w_box.nd (de_mod (de_var 2) (de_int))) (db_cons (ds_for (passes_of rfl) rfl (di_rng1 T.B (da_cons (de_int) (da_nil))) (dg_name (i := 5) sc_w_box.nd) (db_cons (ds_set (i := 4) sc_w_box.nd (de_mod (de_add (de_add (de_add (de_mul (de_var 4) (de_int)) (de_mul (de_mul (de_int) (de_var 5)) (de_var 5))) (de_mul (de_int) (de_var 1))) (de_int)) (de_int))) (db_one (ds_set (i := 3) sc_w_box.nd (de_add (de_mul (de_var 3) (de_int)) (de_var 4)))))) (db_one (ds_ret (de_lst (da_cons (de_var 3) (da_nil))))))))))
end
def m_w_take : MS := mSeq (mAsg (mOp2 dMod (mSlotIx 0 (mC (.int 0))) (mVar 1)) (mgName 2)) (mSeq (mSetIx 0 (mOp2 dFdiv (mSlotIx 0 (mC (.int 0))) (mVar 1)) (mC (.int 0))) (mRet (mVar 2)))
def F_w_take : MO := fnO 3 m_w_take
section
variable {P : Program} {w : World} {K : PySem.W.Frag} {mg : Str → Option Value} {base : Heap}
theorem ok_w_take (T : Tx K mg) : FnOk P w K mg base (L2N.CX P w) 1 T.a_w_take T.d_w_take ["_law_box_here", "_law_many"] (spO K 2 F_w_take) := by
  refine fn_okO T.F_w_take sc_w_take fun cdv A outer s H E hr tk => ?_
  unfold m_w_take
  exact (db_cons (ds_set (i := 2) sc_w_take.nd (de_mod (de_slotIx 0 (de_int)) (de_var 1))) (db_cons (ds_setIx 0 (de_fdiv (de_slotIx 0 (de_int)) (de_var 1)) (de_int)) (db_one (ds_ret (de_var 2)))))
end
def m_w_numbers : MS := mSeq (mAsg (mCallO F_w_take 0 (mCons (mC (.int 6)) (mNil))) (mgName 1)) (mSeq (mIfS (mT (mOp2 dEq (mVar 1) (mC (.int 0)))) (mSeq (mAsg (mLst (mCons (mTup (mCons (mC (.int 5)) (mCons (mC (.int 2)) (mCons (mC (.int 0)) (mCons (mC (.int 1)) (mNil)))))) (mCons (mTup (mCons (mC (.int 9)) (mCons (mC (.int 4)) (mCons (mC (.int 1)) (mCons (mC (.int 2)) (mNil)))))) (mCons (mTup (mCons (mC (.int 10)) (mCons (mC (.int 3)) (mCons (mC (.int 0)) (mCons (mC (.int 1)) (mNil)))))) (mCons (mTup (mCons (mC (.int 13)) (mCons (mC (.int 6)) (mCons (mC (.int 2)) (mCons (mC (.int 3)) (mNil)))))) (mCons (mTup (mCons (mC (.int 15)) (mCons (mC (.int 6)) (mCons (mC (.int 1)) (mCons (mC (.int 3)) (mNil)))))) (mCons (mTup (mCons (mC (.int 16)) (mCons (mC (.int 5)) (mCons (mC (.int 0)) (mCons (mC (.int 2)) (mNil)))))) (mCons (mTup (mCons (mC (.int 16)) (mCons (mC (.int 6)) (mCons (mC (.int 2)) (mCons (mC (.int 2)) (mNil)))))) (mNil))))))))) (mgName 6)) (mSeq (mAsg (mOp2 dAdd (mFrz 6) (mLst (mCons (mTup (mCons (mC (.int 27)) (mCons (mC (.int 10)) (mCons (mC (.int 1)) (mCons (mC (.int 5)) (mNil)))))) (mCons (mTup (mCons (mC (.int 28)) (mCons (mC (.int 9)) (mCons (mC (.int 0)) (mCons (mC (.int 4)) (mNil)))))) (mCons (mTup (mCons (mC (.int 21)) (mCons (mC (.int 10)) (mCons (mC (.int 3)) (mCons (mC (.int 6)) (mNil)))))) (mCons (mTup (mCons (mC (.int 50)) (mCons (mC (.int 7)) (mCons (mC (.int 0)) (mCons (mC (.int 1)) (mNil)))))) (mCons (mTup (mCons (mC (.int 49)) (mCons (mC (.int 16)) (mCons (mC (.int 3)) (mCons (mC (.int 6)) (mNil)))))) (mCons (mTup (mCons (mC (.int 3250)) (mCons (mC (.int 57)) (mCons (mC (.int 0)) (mCons (mC (.int 1)) (mNil)))))) (mNil))))))))) (mgName 6)) (mSeq (mAsg (mOp2 dAdd (mFrz 6) (mLst (mCons (mTup (mCons (mC (.int 21)) (mCons (mC (.int 10)) (mCons (mC (.int 4)) (mCons (mC (.int 5)) (mNil)))))) (mCons (mTup (mCons (mC (.int 33)) (mCons (mC (.int 16)) (mCons (mC (.int 7)) (mCons (mC (.int 8)) (mNil)))))) (mCons (mTup (mCons (mC (.int 57)) (mCons (mC (.int 14)) (mCons (mC (.int 1)) (mCons (mC (.int 4)) (mNil)))))) (mCons (mTup (mCons (mC (.int 99)) (mCons (mC (.int 14)) (mCons (mC (.int 1)) (mCons (mC (.int 2)) (mNil)))))) (mCons (mTup (mCons (mOp2 dSub (mOp2 dPow (mC (.int 10)) (mC (.int 6))) (mC (.int 1))) (mCons (mOp2 dSub (mOp2 dPow (mC (.int 10)) (mC (.int 6))) (mC (.int 3))) (mCons (mC (.int 7)) (mCons (mC (.int 1)) (mNil)))))) (mNil)))))))) (mgName 6)) (mRet (mSlotIx 6 (mCallO F_w_take 0 (mCons (mC (.int 18)) (mNil)))))))) (mNext)) (mSeq (mAsg (mOp2 dAdd (mC (.int 4)) (mCallO F_w_take 0 (mCons (mOp2 dIx (mLst (mCons (mC (.int 12)) (mCons (mC (.int 60)) (mCons (mOp2 dSub (mOp2 dPow (mC (.int 10)) (mC (.int 6))) (mC (.int 3))) (mNil))))) (mCallO F_w_take 0 (mCons (mC (.int 3)) (mNil)))) (mNil)))) (mgName 2)) (mSeq (mAsg (mOp2 dAdd (mC (.int 1)) (mCallO F_w_take 0 (mCons (mOp2 dSub (mVar 2) (mC (.int 2))) (mNil)))) (mgName 3)) (mSeq (mIfS (mT (mOp2 dEq (mVar 1) (mC (.int 1)))) (mSeq (mPar 7 8 (mCons (mOp2 dAdd (mC (.int 2)) (mCallO F_w_take 0 (mCons (mC (.int 900)) (mNil)))) (mCons (mOp2 dAdd (mC (.int 2)) (mCallO F_w_take 0 (mCons (mC (.int 900)) (mNil)))) (mNil)))) (mRet (mOp2 dIx (mLst (mCons (mTup (mCons (mOp2 dMul (mVar 7) (mVar 8)) (mCons (mOp2 dSub (mVar 8) (mC (.int 1))) (mCons (mOp2 dSub (mVar 8) (mC (.int 2))) (mCons (mC (.int 0)) (mNil)))))) (mCons (mTup (mCons (mOp2 dMul (mVar 7) (mVar 8)) (mCons (mOp2 dMul (mOp2 dSub (mVar 7) (mC (.int 1))) (mVar 8)) (mCons (mOp2 dMul (mOp2 dSub (mVar 7) (mC (.int 2))) (mVar 8)) (mCons (mOp2 dMul (mOp2 dSub (mVar 7) (mC (.int 1))) (mVar 8)) (mNil)))))) (mNil)))) (mCallO F_w_take 0 (mCons (mC (.int 2)) (mNil)))))) (mNext)) (mSeq (mIfS (mT (mOp2 dLt (mVar 1) (mC (.int 4)))) (mSeq (mAsg (mOp2 dAdd (mC (.int 4)) (mCallO F_w_take 0 (mCons (mOp2 dIx (mLst (mCons (mC (.int 9)) (mCons (mC (.int 900)) (mNil)))) (mCallO F_w_take 0 (mCons (mC (.int 2)) (mNil)))) (mNil)))) (mgName 7)) (mSeq (mAsg (mLst (mCons (mTup (mCons (mOp2 dMul (mVar 7) (mVar 7)) (mCons (mOp2 dSub (mOp2 dMul (mC (.int 2)) (mVar 7)) (mC (.int 2))) (mCons (mOp2 dSub (mVar 7) (mC (.int 2))) (mCons (mC (.int 2)) (mNil)))))) (mCons (mTup (mCons (mOp2 dFdiv (mOp2 dMul (mVar 7) (mOp2 dSub (mVar 7) (mC (.int 1)))) (mC (.int 2))) (mCons (mOp2 dSub (mOp2 dMul (mC (.int 2)) (mVar 7)) (mC (.int 4))) (mCons (mOp2 dSub (mVar 7) (mC (.int 2))) (mCons (mC (.int 4)) (mNil)))))) (mCons (mTup (mCons (mOp2 dAdd (mOp2 dMul (mC (.int 4)) (mVar 7)) (mC (.int 1))) (mCons (mOp2 dMul (mC (.int 2)) (mVar 7)) (mCons (mOp2 dSub (mVar 7) (mC (.int 1))) (mCons (mVar 7) (mNil)))))) (mNil))))) (mgName 6)) (mSeq (mAsg (mSlotIx 6 (mCallO F_w_take 0 (mCons (mC (.int 3)) (mNil)))) (mgTup 4 (mgCons (mgName 2) (mgCons (mgName 3) (mgCons (mgName 4) (mgCons (mgName 5) (mgNil))))))) (mSeq (mIfS (mT (mOp2 dEq (mVar 1) (mC (.int 2)))) (mRet (mTup (mCons (mVar 2) (mCons (mVar 3) (mCons (mVar 4) (mCons (mVar 5) (mNil))))))) (mNext)) (mRet (mTup (mCons (mVar 2) (mCons (mVar 3) (mCons (mOpL (fn2 dMin2) (mCons (mOp2 dSub (mVar 3) (mC (.int 1))) (mCons (mOp2 dAdd (mVar 4) (mCallO F_w_take 0 (mCons (mC (.int 2)) (mNil)))) (mNil)))) (mCons (mOpL (fn2 dMin2) (mCons (mVar 3) (mCons (mOp2 dAdd (mOp2 dSub (mOp2 dAdd (mVar 5) (mC (.int 1))) (mCallO F_w_take 0 (mCons (mC (.int 3)) (mNil)))) (mC (.int 1))) (mNil)))) (mNil))))))))))) (mNext)) (mSeq (mAsg (mCallO F_w_take 0 (mCons (mVar 3) (mNil))) (mgName 4)) (mSeq (mAsg (mCallO F_w_take 0 (mCons (mOp2 dAdd (mVar 3) (mC (.int 1))) (mNil))) (mgName 5)) (mSeq (mIfS (mT (mOp2 dEq (mVar 1) (mC (.int 4)))) (mAsg (mOpL (fn2 dMin2) (mCons (mVar 3) (mCons (mOp2 dFdiv (mOp2 dMul (mVar 3) (mOp2 dSub (mOp2 dSub (mVar 3) (mVar 4)) (mC (.int 1)))) (mOp2 dSub (mOp2 dSub (mVar 2) (mVar 3)) (mC (.int 1)))) (mNil)))) (mgName 5)) (mNext)) (mRet (mTup (mCons (mVar 2) (mCons (mVar 3) (mCons (mVar 4) (mCons (mVar 5) (mNil)))))))))))))))
def F_w_numbers : MO := fnO 9 m_w_numbers
section
variable {P : Program} {w : World} {K : PySem.W.Frag} {mg : Str → Option Value} {base : Heap}
theorem ok_w_numbers (T : Tx K mg) : FnOk P w K mg base (L2N.CX P w) 2 T.a_w_numbers T.d_w_numbers ["_law_box_here"] (spO K 1 F_w_numbers) := by
  refine fn_okO T.F_w_numbers sc_w_numbers fun cdv A outer s H E hr tk => ?_
  unfold m_w_numbers
  exact (db_cons (ds_set (i := 1) sc_w_numbers.nd (de_callO 0 (ok_w_take T) (hr.mono (by omega)) T.g_w_take T.F_w_take.kp T.b_w_take tk (da_cons (de_int) (da_nil)) (len1 (cons_len nil_len)))) (db_cons (ds_if (dt_eq (hu64 hr) (de_var 1) (de_int)) (db_cons (ds_set (i := 6) sc_w_numbers.nd (de_lst (da_cons (de_tup (da_cons (de_int) (da_cons (de_int) (da_cons (de_int) (da_cons (de_int) (da_nil)))))) (da_cons (de_tup (da_cons (de_int) (da_cons (de_int) (da_cons (de_int) (da_cons (de_int) (da_nil)))))) (da_cons (de_tup (da_cons (de_int) (da_cons (de_int) (da_cons (de_int) (da_cons (de_int) (da_nil)))))) (da_cons (de_tup (da_cons (de_int) (da_cons (de_int) (da_cons (de_int) (da_cons (de_int) (da_nil)))))) (da_cons (de_tup (da_cons (de_int) (da_cons (de_int) (da_cons (de_int) (da_cons (de_int) (da_nil)))))) (da_cons (de_tup (da_cons (de_int) (da_cons (de_int) (da_cons (de_int) (da_cons (de_int) (da_nil)))))) (da_cons (de_tup (da_cons (de_int) (da_cons (de_int) (da_cons (de_int) (da_cons (de_int) (da_nil)))))) (da_nil)))))))))) (db_cons (ds_set (i := 6) sc_w_numbers.nd (de_add (de_frz 6) (de_lst (da_cons (de_tup (da_cons (de_int) (da_cons (de_int) (da_cons (de_int) (da_cons (de_int) (da_nil)))))) (da_cons (de_tup (da_cons (de_int) (da_cons (de_int) (da_cons (de_int) (da_cons (de_int) (da_nil)))))) (da_cons (de_tup (da_cons (de_int) (da_cons (de_int) (da_cons (de_int) (da_cons (de_int) (da_nil)))))) (da_cons (de_tup (da_cons (de_int) (da_cons (de_int) (da_cons (de_int) (da_cons (de_int) (da_nil)))))) (da_cons (de_tup (da_cons (de_int) (da_cons (de_int) (da_cons (de_int) (da_cons (de_int) (da_nil)))))) (da_cons (de_tup (da_cons (de_int) (da_cons (de_int) (da_cons (de_int) (da_cons (de_int) (da_nil)))))) (da_nil)))))))))) (db_cons (ds_set (i := 6) sc_w_numbers.nd (de_add (de_frz 6) (de_lst (da_cons (de_tup (da_cons (de_int) (da_cons (de_int) (da_cons (de_int) (da_cons (de_int) (da_nil)))))) (da_cons (de_tup (da_cons (de_int) (da_cons (de_int) (da_cons (de_int) (da_cons (de_int) (da_nil)))))) (da_cons (de_tup (da_cons (de_int) (da_cons (de_int) (da_cons (de_int) (da_cons (de_int) (da_nil)))))) (da_cons (de_tup (da_cons (de_int) (da_cons (de_int) (da_cons (de_int) (da_cons (de_int) (da_nil)))))) (da_cons (de_tup (da_cons (de_sub (de_pow (de_int) (de_int)) (de_int)) (da_cons (de_sub (de_pow (de_int) (de_int)) (de_int)) (da_cons (de_int) (da_cons (de_int) (da_nil)))))) (da_nil))))))))) (db_one (ds_ret (de_slotIx 6 (de_callO 0 (ok_w_take T) (hr.mono (by omega)) T.g_w_take T.F_w_take.kp T.b_w_take tk (da_cons (de_int) (da_nil)) (len1 (cons_len nil_len))))))))) (db_nil)) (db_cons (ds_set (i := 2) sc_w_numbers.nd (de_add (de_int) (de_callO 0 (ok_w_take T) (hr.mono (by omega)) T.g_w_take T.F_w_take.kp T.b_w_take tk (da_cons (de_ix (de_lst (da_cons (de_int) (da_cons (de_int) (da_cons (de_sub (de_pow (de_int) (de_int)) (de_int)) (da_nil))))) (de_callO 0 (ok_w_take T) (hr.mono (by omega)) T.g_w_take T.F_w_take.kp T.b_w_take tk (da_cons (de_int) (da_nil)) (len1 (cons_len nil_len)))) (da_nil)) (len1 (cons_len nil_len))))) (db_cons (ds_set (i := 3) sc_w_numbers.nd (de_add (de_int) (de_callO 0 (ok_w_take T) (hr.mono (by omega)) T.g_w_take T.F_w_take.kp T.b_w_take tk (da_cons (de_sub (de_var 2) (de_int)) (da_nil)) (len1 (cons_len nil_len))))) (db_cons (ds_if (dt_eq (hu64 hr) (de_var 1) (de_int)) (db_cons (ds_par (i := 7) (j := 8) sc_w_numbers.nd (da_cons (de_add (de_int) (de_callO 0 (ok_w_take T) (hr.mono (by omega)) T.g_w_take T.F_w_take.kp T.b_w_take tk (da_cons (de_int) (da_nil)) (len1 (cons_len nil_len)))) (da_cons (de_add (de_int) (de_callO 0 (ok_w_take T) (hr.mono (by omega)) T.g_w_take T.F_w_take.kp T.b_w_take tk (da_cons (de_int) (da_nil)) (len1 (cons_len nil_len)))) (da_nil)))) (db_one (ds_ret (de_ix (de_lst (da_cons (de_tup (da_cons (de_mul (de_var 7) (de_var 8)) (da_cons (de_sub (de_var 8) (de_int)) (da_cons (de_sub (de_var 8) (de_int)) (da_cons (de_int) (da_nil)))))) (da_cons (de_tup (da_cons (de_mul (de_var 7) (de_var 8)) (da_cons (de_mul (de_sub (de_var 7) (de_int)) (de_var 8)) (da_cons (de_mul (de_sub (de_var 7) (de_int)) (de_var 8)) (da_cons (de_mul (de_sub (de_var 7) (de_int)) (de_var 8)) (da_nil)))))) (da_nil)))) (de_callO 0 (ok_w_take T) (hr.mono (by omega)) T.g_w_take T.F_w_take.kp T.b_w_take tk (da_cons (de_int) (da_nil)) (len1 (cons_len nil_len))))))) (db_nil)) (db_cons (ds_if (dt_lt (hu64 hr) (de_var 1) (de_int)) (db_cons (ds_set (i := 7) sc_w_numbers.nd (de_add (de_int) (de_callO 0 (ok_w_take T) (hr.mono (by omega)) T.g_w_take T.F_w_take.kp T.b_w_take tk (da_cons (de_ix (de_lst (da_cons (de_int) (da_cons (de_int) (da_nil)))) (de_callO 0 (ok_w_take T) (hr.mono (by omega)) T.g_w_take T.F_w_take.kp T.b_w_take tk (da_cons (de_int) (da_nil)) (len1 (cons_len nil_len)))) (da_nil)) (len1 (cons_len nil_len))))) (db_cons (ds_set (i := 6) sc_w_numbers.nd (de_lst (da_cons (de_tup (da_cons (de_mul (de_var 7) (de_var 7)) (da_cons (de_sub (de_mul (de_int) (de_var 7)) (de_int)) (da_cons (de_sub (de_var 7) (de_int)) (da_cons (de_int) (da_nil)))))) (da_cons (de_tup (da_cons (de_fdiv (de_mul (de_var 7) (de_sub (de_var 7) (de_int))) (de_int)) (da_cons (de_sub (de_mul (de_int) (de_var 7)) (de_int)) (da_cons (de_sub (de_var 7) (de_int)) (da_cons (de_int) (da_nil)))))) (da_cons (de_tup (da_cons (de_add (de_mul (de_int) (de_var 7)) (de_int)) (da_cons (de_mul (de_int) (de_var 7)) (da_cons (de_sub (de_var 7) (de_int)) (da_cons (de_var 7) (da_nil)))))) (da_nil)))))) (db_cons (ds_asg (de_slotIx 6 (de_callO 0 (ok_w_take T) (hr.mono (by omega)) T.g_w_take T.F_w_take.kp T.b_w_take tk (da_cons (de_int) (da_nil)) (len1 (cons_len nil_len)))) (dg_tup rfl (dgs_cons (dg_name (i := 2) sc_w_numbers.nd) (dgs_cons (dg_name (i := 3) sc_w_numbers.nd) (dgs_cons (dg_name (i := 4) sc_w_numbers.nd) (dgs_cons (dg_name (i := 5) sc_w_numbers.nd) (dgs_nil))))))) (db_cons (ds_if (dt_eq (hu64 hr) (de_var 1) (de_int)) (db_one (ds_ret (de_tup (da_cons (de_var 2) (da_cons (de_var 3) (da_cons (de_var 4) (da_cons (de_var 5) (da_nil)))))))) (db_nil)) (db_one (ds_ret (de_tup (da_cons (de_var 2) (da_cons (de_var 3) (da_cons (de_callB (call_min2 rfl) ok_min2 T.B.min (da_cons (de_sub (de_var 3) (de_int)) (da_cons (de_add (de_var 4) (de_callO 0 (ok_w_take T) (hr.mono (by omega)) T.g_w_take T.F_w_take.kp T.b_w_take tk (da_cons (de_int) (da_nil)) (len1 (cons_len nil_len)))) (da_nil))) boot_min) (da_cons (de_callB (call_min2 rfl) ok_min2 T.B.min (da_cons (de_var 3) (da_cons (de_add (de_sub (de_add (de_var 5) (de_int)) (de_callO 0 (ok_w_take T) (hr.mono (by omega)) T.g_w_take T.F_w_take.kp T.b_w_take tk (da_cons (de_int) (da_nil)) (len1 (cons_len nil_len)))) (de_int)) (da_nil))) boot_min) (da_nil)))))))))))) (db_nil)) (db_cons (ds_set (i := 4) sc_w_numbers.nd (de_callO 0 (ok_w_take T) (hr.mono (by omega)) T.g_w_take T.F_w_take.kp T.b_w_take tk (da_cons (de_var 3) (da_nil)) (len1 (cons_len nil_len)))) (db_cons (ds_set (i := 5) sc_w_numbers.nd (de_callO 0 (ok_w_take T) (hr.mono (by omega)) T.g_w_take T.F_w_take.kp T.b_w_take tk (da_cons (de_add (de_var 3) (de_int)) (da_nil)) (len1 (cons_len nil_len)))) (db_cons (ds_if (dt_eq (hu64 hr) (de_var 1) (de_int)) (db_one (ds_set (i := 5) sc_w_numbers.nd (de_callB (call_min2 rfl) ok_min2 T.B.min (da_cons (de_var 3) (da_cons (de_fdiv (de_mul (de_var 3) (de_sub (de_sub (de_var 3) (de_var 4)) (de_int))) (de_sub (de_sub (de_var 2) (de_var 3)) (de_int))) (da_nil))) boot_min))) (db_nil)) (db_one (ds_ret (de_tup (da_cons (de_var 2) (da_cons (de_var 3) (da_cons (de_var 4) (da_cons (de_var 5) (da_nil)))))))))))))))))
end
def m_w_rest_right : MS := mSeq (mAsg (mCall F_rest_numbers (mCons (mVar 0) (mNil))) (mgName 1)) (mSeq (mIfS (mT (mOp2 dLt (mSlotIx 1 (mC (.int 2))) (mC (.int 0)))) (mRet (mC (.bl true))) (mNext)) (mSeq (mIfS (mOrT (mT (mOp1 (dIs true) (mCall F_first_bar (mCons (mVar 1) (mNil))))) (mT (mOp2 dNe (mCall F_under_root (mCons (mVar 1) (mNil))) (mCall F_under_root (mCons (mVar 0) (mNil)))))) (mRet (mC (.bl false))) (mNext)) (mSeq (mAsg (mCall F_often (mCons (mVar 0) (mNil))) (mgTup 2 (mgCons (mgName 3) (mgCons (mgName 4) (mgNil))))) (mSeq (mIfS (mT (mOp2 dNe (mCall F_often (mCons (mVar 1) (mNil))) (mTup (mCons (mVar 4) (mCons (mVar 3) (mNil)))))) (mRet (mC (.bl false))) (mNext)) (mSeq (mAsg (mCall F_roots_of (mCons (mVar 0) (mNil))) (mgName 2)) (mSeq (mIfS (mT (mOp1 (dIs false) (mVar 2))) (mRet (mOp1 (dIs false) (mCall F_roots_of (mCons (mVar 1) (mNil))))) (mNext)) (mSeq (mAsg (mVar 2) (mgTup 2 (mgCons (mgName 5) (mgCons (mgName 6) (mgNil))))) (mRet (mAndV (mOp2 dEq (mCall F_roots_of (mCons (mVar 1) (mNil))) (mTup (mCons (mOp2 dSub (mOp2 dSub (mC (.int 0)) (mC (.int 1))) (mVar 6)) (mCons (mOp2 dSub (mOp2 dSub (mC (.int 0)) (mC (.int 1))) (mVar 5)) (mNil))))) (mOp2 dEq (mOp2 dAdd (mOp2 dAdd (mSlotIx 0 (mC (.int 1))) (mOp2 dMul (mVar 3) (mVar 5))) (mOp2 dMul (mVar 4) (mVar 6))) (mC (.int 0))))))))))))
def F_w_rest_right : MF := fnM 7 m_w_rest_right
section
variable {P : Program} {w : World} {K : PySem.W.Frag} {mg : Str → Option Value} {base : Heap}
theorem ok_w_rest_right (T : Tx K mg) : FnOk P w K mg base (L2N.CX P w) 6 T.a_w_rest_right T.d_w_rest_right ["_law_numbers_here"] (spF K mg 1 F_w_rest_right) := by
  refine fn_ok T.F_w_rest_right sc_w_rest_right fun cdv A outer s H E hr tk => ?_
  unfold m_w_rest_right
  exact (db_cons (ds_set (i := 1) sc_w_rest_right.nd (de_call (ok_rest_numbers T) (hr.mono (by omega)) T.g_rest_numbers T.F_rest_numbers.kp T.b_rest_numbers tk (da_cons (de_var 0) (da_nil)) (cons_len nil_len))) (db_cons (ds_if (dt_lt (hu64 hr) (de_slotIx 1 (de_int)) (de_int)) (db_one (ds_ret (de_bl))) (db_nil)) (db_cons (ds_if (dt_dw (dw_or (dt_notN (de_call (ok_first_bar T) (hr.mono (by omega)) T.g_first_bar T.F_first_bar.kp T.b_first_bar tk (da_cons (de_var 1) (da_nil)) (cons_len nil_len))) (dw_or1 (dt_ne (hu64 hr) (de_call (ok_under_root T) (hr.mono (by omega)) T.g_under_root T.F_under_root.kp T.b_under_root tk (da_cons (de_var 1) (da_nil)) (cons_len nil_len)) (de_call (ok_under_root T) (hr.mono (by omega)) T.g_under_root T.F_under_root.kp T.b_under_root tk (da_cons (de_var 0) (da_nil)) (cons_len nil_len)))))) (db_one (ds_ret (de_bl))) (db_nil)) (db_cons (ds_asg (de_call (ok_often T) (hr.mono (by omega)) T.g_often T.F_often.kp T.b_often tk (da_cons (de_var 0) (da_nil)) (cons_len nil_len)) (dg_tup rfl (dgs_cons (dg_name (i := 3) sc_w_rest_right.nd) (dgs_cons (dg_name (i := 4) sc_w_rest_right.nd) (dgs_nil))))) (db_cons (ds_if (dt_ne (hu64 hr) (de_call (ok_often T) (hr.mono (by omega)) T.g_often T.F_often.kp T.b_often tk (da_cons (de_var 1) (da_nil)) (cons_len nil_len)) (de_tup (da_cons (de_var 4) (da_cons (de_var 3) (da_nil))))) (db_one (ds_ret (de_bl))) (db_nil)) (db_cons (ds_set (i := 2) sc_w_rest_right.nd (de_call (ok_roots_of T) (hr.mono (by omega)) T.g_roots_of T.F_roots_of.kp T.b_roots_of tk (da_cons (de_var 0) (da_nil)) (cons_len nil_len))) (db_cons (ds_if (dt_isN (de_var 2)) (db_one (ds_ret (de_isN (de_call (ok_roots_of T) (hr.mono (by omega)) T.g_roots_of T.F_roots_of.kp T.b_roots_of tk (da_cons (de_var 1) (da_nil)) (cons_len nil_len))))) (db_nil)) (db_cons (ds_asg (de_var 2) (dg_tup rfl (dgs_cons (dg_name (i := 5) sc_w_rest_right.nd) (dgs_cons (dg_name (i := 6) sc_w_rest_right.nd) (dgs_nil))))) (db_one (ds_ret (de_andV (de_eq (hu64 hr) (de_call (ok_roots_of T) (hr.mono (by omega)) T.g_roots_of T.F_roots_of.kp T.b_roots_of tk (da_cons (de_var 1) (da_nil)) (cons_len nil_len)) (de_tup (da_cons (de_sub (de_sub (de_int) (de_int)) (de_var 6)) (da_cons (de_sub (de_sub (de_int) (de_int)) (de_var 5)) (da_nil))))) (de_one (de_eq (hu64 hr) (de_add (de_add (de_slotIx 0 (de_int)) (de_mul (de_var 3) (de_var 5))) (de_mul (de_var 4) (de_var 6))) (de_int))))))))))))))
end
def m_law : MS := mSeq (mFor (mRng1 (mCons (mOpL (fn2 dMax2) (mCons (mC (.int 1)) (mCons (mOpL (fn2 dMin2) (mCons (mOpL (fn1 dLen) (mCons (mVar 0) (mNil))) (mCons (mC (.int 8)) (mNil)))) (mNil)))) (mNil))) (mgName 1) (mSeq (mAsg (mCall F_w_box (mCons (mVar 0) (mCons (mVar 1) (mNil)))) (mgName 2)) (mSeq (mAsg (mCallO F_w_numbers 2 (mNil)) (mgName 3)) (mSeq (mAsg (mCall F_first_bar (mCons (mVar 3) (mNil))) (mgName 4)) (mSeq (mIfS (mAndT (mT (mOp1 (dIs true) (mVar 4))) (mT (mOp2 (dIsB true) (mCall F_is_bar (mCons (mVar 3) (mCons (mVar 4) (mNil)))) (mC (.bl true))))) (mRet (mC (.bl false))) (mNext)) (mSeq (mIfS (mAndT (mT (mOp1 (dIs false) (mVar 4))) (mNotT (mT (mCall F_w_rest_right (mCons (mVar 3) (mNil)))))) (mRet (mC (.bl false))) (mNext)) (mSeq (mIfS (mAndT (mT (mOp1 (dIs false) (mVar 4))) (mT (mOp2 dNe (mOpL (fn1 dSumA) (mCons (mCall F_often (mCons (mVar 3) (mNil))) (mNil))) (mOp2 dSub (mSlotIx 3 (mC (.int 0))) (mC (.int 1)))))) (mRet (mC (.bl false))) (mNext)) (mIfS (mAndT (mT (mOp2 dLt (mSlotIx 3 (mC (.int 0))) (mC (.int 25)))) (mT (mOp2 dNe (mOp2 dIn (mVar 3) (mCall F_all_numbers (mCons (mSlotIx 3 (mC (.int 0))) (mNil)))) (mOp1 (dIs false) (mVar 4))))) (mRet (mC (.bl false))) (mNext))))))))) (mRet (mC (.bl true)))
def l_law_0 : MS := mSeq (mAsg (mCall F_w_box (mCons (mVar 0) (mCons (mVar 1) (mNil)))) (mgName 2)) (mSeq (mAsg (mCallO F_w_numbers 2 (mNil)) (mgName 3)) (mSeq (mAsg (mCall F_first_bar (mCons (mVar 3) (mNil))) (mgName 4)) (mSeq (mIfS (mAndT (mT (mOp1 (dIs true) (mVar 4))) (mT (mOp2 (dIsB true) (mCall F_is_bar (mCons (mVar 3) (mCons (mVar 4) (mNil)))) (mC (.bl true))))) (mRet (mC (.bl false))) (mNext)) (mSeq (mIfS (mAndT (mT (mOp1 (dIs false) (mVar 4))) (mNotT (mT (mCall F_w_rest_right (mCons (mVar 3) (mNil)))))) (mRet (mC (.bl false))) (mNext)) (mSeq (mIfS (mAndT (mT (mOp1 (dIs false) (mVar 4))) (mT (mOp2 dNe (mOpL (fn1 dSumA) (mCons (mCall F_often (mCons (mVar 3) (mNil))) (mNil))) (mOp2 dSub (mSlotIx 3 (mC (.int 0))) (mC (.int 1)))))) (mRet (mC (.bl false))) (mNext)) (mIfS (mAndT (mT (mOp2 dLt (mSlotIx 3 (mC (.int 0))) (mC (.int 25)))) (mT (mOp2 dNe (mOp2 dIn (mVar 3) (mCall F_all_numbers (mCons (mSlotIx 3 (mC (.int 0))) (mNil)))) (mOp1 (dIs false) (mVar 4))))) (mRet (mC (.bl false))) (mNext)))))))
def b_turn : MS := mSeq (mAsg (mCall F_w_box (mCons (mVar 0) (mCons (mVar 1) (mNil)))) (mgName 2)) (mSeq (mAsg (mCallO F_w_numbers 2 (mNil)) (mgName 3)) (mSeq (mAsg (mCall F_first_bar (mCons (mVar 3) (mNil))) (mgName 4)) (mSeq (mIfS (mAndT (mT (mOp1 (dIs true) (mVar 4))) (mT (mOp2 (dIsB true) (mCall F_is_bar (mCons (mVar 3) (mCons (mVar 4) (mNil)))) (mC (.bl true))))) (mRet (mC (.bl false))) (mNext)) (mSeq (mIfS (mAndT (mT (mOp1 (dIs false) (mVar 4))) (mNotT (mT (mCall F_w_rest_right (mCons (mVar 3) (mNil)))))) (mRet (mC (.bl false))) (mNext)) (mSeq (mIfS (mAndT (mT (mOp1 (dIs false) (mVar 4))) (mT (mOp2 dNe (mOpL (fn1 dSumA) (mCons (mCall F_often (mCons (mVar 3) (mNil))) (mNil))) (mOp2 dSub (mSlotIx 3 (mC (.int 0))) (mC (.int 1)))))) (mRet (mC (.bl false))) (mNext)) (mIfS (mAndT (mT (mOp2 dLt (mSlotIx 3 (mC (.int 0))) (mC (.int 25)))) (mT (mOp2 dNe (mOp2 dIn (mVar 3) (mCall F_all_numbers (mCons (mSlotIx 3 (mC (.int 0))) (mNil)))) (mOp1 (dIs false) (mVar 4))))) (mRet (mC (.bl false))) (mNext)))))))
def F_law : MF := fnM 5 m_law
section
variable {P : Program} {w : World} {K : PySem.W.Frag} {mg : Str → Option Value} {base : Heap}
theorem ok_law (T : Tx K mg) : FnOk P w K mg base (L2N.CX P w) 7 T.a_law T.d_law ["_law_script"] (spF K mg 1 F_law) := by
  refine fn_ok T.F_law sc_law fun cdv A outer s H E hr tk => ?_
  unfold m_law
  exact (db_cons (ds_for (passes_of rfl) rfl (di_rng1 T.B (da_cons (de_callB (call_max2 rfl) ok_max2 T.B.max (da_cons (de_int) (da_cons (de_callB (call_min2 rfl) ok_min2 T.B.min (da_cons (de_callB call_len ok_len T.B.len (da_cons (de_var 0) (da_nil)) boot_len) (da_cons (de_int) (da_nil))) boot_min) (da_nil))) boot_max) (da_nil))) (dg_name (i := 1) sc_law.nd) (db_cons (ds_set (i := 2) sc_law.nd (de_call (ok_w_box T) (hr.mono (by omega)) T.g_w_box T.F_w_box.kp T.b_w_box tk (da_cons (de_var 0) (da_cons (de_var 1) (da_nil))) (cons_len (cons_len nil_len)))) (db_cons (ds_set (i := 3) sc_law.nd (de_callO 2 (ok_w_numbers T) (hr.mono (by omega)) T.g_w_numbers T.F_w_numbers.kp T.b_w_numbers tk (da_nil) (len1 (nil_len)))) (db_cons (ds_set (i := 4) sc_law.nd (de_call (ok_first_bar T) (hr.mono (by omega)) T.g_first_bar T.F_first_bar.kp T.b_first_bar tk (da_cons (de_var 3) (da_nil)) (cons_len nil_len))) (db_cons (ds_if (dt_dw (dw_and (dt_notN (de_var 4)) (dw_and1 (dt_notB (de_call (ok_is_bar T) (hr.mono (by omega)) T.g_is_bar T.F_is_bar.kp T.b_is_bar tk (da_cons (de_var 3) (da_cons (de_var 4) (da_nil))) (cons_len (cons_len nil_len))) (de_bl))))) (db_one (ds_ret (de_bl))) (db_nil)) (db_cons (ds_if (dt_dw (dw_and (dt_isN (de_var 4)) (dw_and1 (dt_not (dt_val (de_call (ok_w_rest_right T) (hr.mono (by omega)) T.g_w_rest_right T.F_w_rest_right.kp T.b_w_rest_right tk (da_cons (de_var 3) (da_nil)) (cons_len nil_len))))))) (db_one (ds_ret (de_bl))) (db_nil)) (db_cons (ds_if (dt_dw (dw_and (dt_isN (de_var 4)) (dw_and1 (dt_ne (hu64 hr) (de_callB ((cr_sum rfl).or (cr_sumT rfl)) ok_sumA T.B.sum (da_cons (de_call (ok_often T) (hr.mono (by omega)) T.g_often T.F_often.kp T.b_often tk (da_cons (de_var 3) (da_nil)) (cons_len nil_len)) (da_nil)) boot_sum) (de_sub (de_slotIx 3 (de_int)) (de_int)))))) (db_one (ds_ret (de_bl))) (db_nil)) (db_one (ds_if (dt_dw (dw_and (dt_lt (hu64 hr) (de_slotIx 3 (de_int)) (de_int)) (dw_and1 (dt_ne (hu64 hr) (de_in (hu65 hr) (de_var 3) (de_call (ok_all_numbers T) (hr.mono (by omega)) T.g_all_numbers T.F_all_numbers.kp T.b_all_numbers tk (da_cons (de_slotIx 3 (de_int)) (da_nil)) (cons_len nil_len))) (de_isN (de_var 4)))))) (db_one (ds_ret (de_bl))) (db_nil)))))))))) (db_one (ds_ret (de_bl))))
end
theorem all_mk {l : PySem.W.OpenLaw} {w : World} {K : PySem.W.Frag} {h : Heap} {mg : Str → Option Value} {fa : Addr} (X : K.In h) (G : h.Ns mainGlobals mg) (hfa : mg "law" = some (.ref fa))
    {f_is_whole : Addr} {od_is_whole an_is_whole : Option Addr} {sl_is_whole : Array (Option Value)} {oc_is_whole kV_is_whole dc_is_whole pm_is_whole cd_is_whole ct_is_whole : Value}
    {f_is_between : Addr} {od_is_between an_is_between : Option Addr} {sl_is_between : Array (Option Value)} {oc_is_between kV_is_between dc_is_between pm_is_between cd_is_between ct_is_between : Value}
    {f_are_numbers : Addr} {od_are_numbers an_are_numbers : Option Addr} {sl_are_numbers : Array (Option Value)} {oc_are_numbers kV_are_numbers dc_are_numbers pm_are_numbers cd_are_numbers ct_are_numbers : Value}
    {f_look_at_numbers : Addr} {od_look_at_numbers an_look_at_numbers : Option Addr} {sl_look_at_numbers : Array (Option Value)} {oc_look_at_numbers kV_look_at_numbers dc_look_at_numbers pm_look_at_numbers cd_look_at_numbers ct_look_at_numbers : Value}
    {f_rest_numbers : Addr} {od_rest_numbers an_rest_numbers : Option Addr} {sl_rest_numbers : Array (Option Value)} {oc_rest_numbers kV_rest_numbers dc_rest_numbers pm_rest_numbers cd_rest_numbers ct_rest_numbers : Value}
    {f_side_of : Addr} {od_side_of an_side_of : Option Addr} {sl_side_of : Array (Option Value)} {oc_side_of kV_side_of dc_side_of pm_side_of cd_side_of ct_side_of : Value}
    {f_under_in : Addr} {od_under_in an_under_in : Option Addr} {sl_under_in : Array (Option Value)} {oc_under_in kV_under_in dc_under_in pm_under_in cd_under_in ct_under_in : Value}
    {f_under_root : Addr} {od_under_root an_under_root : Option Addr} {sl_under_root : Array (Option Value)} {oc_under_root kV_under_root dc_under_root pm_under_root cd_under_root ct_under_root : Value}
    {f_roots_in : Addr} {od_roots_in an_roots_in : Option Addr} {sl_roots_in : Array (Option Value)} {oc_roots_in kV_roots_in dc_roots_in pm_roots_in cd_roots_in ct_roots_in : Value}
    {f_roots_of : Addr} {od_roots_of an_roots_of : Option Addr} {sl_roots_of : Array (Option Value)} {oc_roots_of kV_roots_of dc_roots_of pm_roots_of cd_roots_of ct_roots_of : Value}
    {f_often_in : Addr} {od_often_in an_often_in : Option Addr} {sl_often_in : Array (Option Value)} {oc_often_in kV_often_in dc_often_in pm_often_in cd_often_in ct_often_in : Value}
    {f_often : Addr} {od_often an_often : Option Addr} {sl_often : Array (Option Value)} {oc_often kV_often dc_often pm_often cd_often ct_often : Value}
    {f_sides_of : Addr} {od_sides_of an_sides_of : Option Addr} {sl_sides_of : Array (Option Value)} {oc_sides_of kV_sides_of dc_sides_of pm_sides_of cd_sides_of ct_sides_of : Value}
    {f_bars_of : Addr} {od_bars_of an_bars_of : Option Addr} {sl_bars_of : Array (Option Value)} {oc_bars_of kV_bars_of dc_bars_of pm_bars_of cd_bars_of ct_bars_of : Value}
    {f_is_plain : Addr} {od_is_plain an_is_plain : Option Addr} {sl_is_plain : Array (Option Value)} {oc_is_plain kV_is_plain dc_is_plain pm_is_plain cd_is_plain ct_is_plain : Value}
    {f_is_bar : Addr} {od_is_bar an_is_bar : Option Addr} {sl_is_bar : Array (Option Value)} {oc_is_bar kV_is_bar dc_is_bar pm_is_bar cd_is_bar ct_is_bar : Value}
    {f_first_bar : Addr} {od_first_bar an_first_bar : Option Addr} {sl_first_bar : Array (Option Value)} {oc_first_bar kV_first_bar dc_first_bar pm_first_bar cd_first_bar ct_first_bar : Value}
    {f_all_numbers : Addr} {od_all_numbers an_all_numbers : Option Addr} {sl_all_numbers : Array (Option Value)} {oc_all_numbers kV_all_numbers dc_all_numbers pm_all_numbers cd_all_numbers ct_all_numbers : Value}
    {f_w_cell : Addr} {od_w_cell an_w_cell : Option Addr} {sl_w_cell : Array (Option Value)} {oc_w_cell kV_w_cell dc_w_cell pm_w_cell cd_w_cell ct_w_cell : Value}
    {f_w_box : Addr} {od_w_box an_w_box : Option Addr} {sl_w_box : Array (Option Value)} {oc_w_box kV_w_box dc_w_box pm_w_box cd_w_box ct_w_box : Value}
    {f_w_take : Addr} {od_w_take an_w_take : Option Addr} {sl_w_take : Array (Option Value)} {oc_w_take kV_w_take dc_w_take pm_w_take cd_w_take ct_w_take : Value}
    {f_w_numbers : Addr} {od_w_numbers an_w_numbers : Option Addr} {sl_w_numbers : Array (Option Value)} {oc_w_numbers kV_w_numbers dc_w_numbers pm_w_numbers cd_w_numbers ct_w_numbers : Value}
    {f_w_rest_right : Addr} {od_w_rest_right an_w_rest_right : Option Addr} {sl_w_rest_right : Array (Option Value)} {oc_w_rest_right kV_w_rest_right dc_w_rest_right pm_w_rest_right cd_w_rest_right ct_w_rest_right : Value}
    {f_law : Addr} {od_law an_law : Option Addr} {sl_law : Array (Option Value)} {oc_law kV_law dc_law pm_law cd_law ct_law : Value}
    {k_MOST : Tok}
    {k_LEAST_HERE : Tok}
    {k_MOST_HERE : Tok}
    {A_NoNumbers : Addr}
    {A_NoNumber : Addr}
    (p_is_whole : PySem.W.nsIn K mainGlobals "is_whole" = some (some (.ref f_is_whole)))
    (q_is_whole : K.lookup f_is_whole = some ⟨oc_is_whole, od_is_whole, .func (PySem.W.fnOf "is_whole" "is_whole" (defArgs s_is_whole) (defBody s_is_whole) (defScope s_is_whole) .none kV_is_whole dc_is_whole pm_is_whole an_is_whole cd_is_whole ct_is_whole), sl_is_whole⟩)
    (r_is_whole : PySem.W.codeIn K cd_is_whole "is_whole" = true)
    (t_is_whole : PySem.W.keepIn K (.ref f_is_whole) = true)
    (p_is_between : PySem.W.nsIn K mainGlobals "is_between" = some (some (.ref f_is_between)))
    (q_is_between : K.lookup f_is_between = some ⟨oc_is_between, od_is_between, .func (PySem.W.fnOf "is_between" "is_between" (defArgs s_is_between) (defBody s_is_between) (defScope s_is_between) .none kV_is_between dc_is_between pm_is_between an_is_between cd_is_between ct_is_between), sl_is_between⟩)
    (r_is_between : PySem.W.codeIn K cd_is_between "is_between" = true)
    (t_is_between : PySem.W.keepIn K (.ref f_is_between) = true)
    (p_are_numbers : PySem.W.nsIn K mainGlobals "are_numbers" = some (some (.ref f_are_numbers)))
    (q_are_numbers : K.lookup f_are_numbers = some ⟨oc_are_numbers, od_are_numbers, .func (PySem.W.fnOf "are_numbers" "are_numbers" (defArgs s_are_numbers) (defBody s_are_numbers) (defScope s_are_numbers) .none kV_are_numbers dc_are_numbers pm_are_numbers an_are_numbers cd_are_numbers ct_are_numbers), sl_are_numbers⟩)
    (r_are_numbers : PySem.W.codeIn K cd_are_numbers "are_numbers" = true)
    (t_are_numbers : PySem.W.keepIn K (.ref f_are_numbers) = true)
    (p_look_at_numbers : PySem.W.nsIn K mainGlobals "look_at_numbers" = some (some (.ref f_look_at_numbers)))
    (q_look_at_numbers : K.lookup f_look_at_numbers = some ⟨oc_look_at_numbers, od_look_at_numbers, .func (PySem.W.fnOf "look_at_numbers" "look_at_numbers" (defArgs s_look_at_numbers) (defBody s_look_at_numbers) (defScope s_look_at_numbers) .none kV_look_at_numbers dc_look_at_numbers pm_look_at_numbers an_look_at_numbers cd_look_at_numbers ct_look_at_numbers), sl_look_at_numbers⟩)
    (r_look_at_numbers : PySem.W.codeIn K cd_look_at_numbers "look_at_numbers" = true)
    (t_look_at_numbers : PySem.W.keepIn K (.ref f_look_at_numbers) = true)
    (p_rest_numbers : PySem.W.nsIn K mainGlobals "rest_numbers" = some (some (.ref f_rest_numbers)))
    (q_rest_numbers : K.lookup f_rest_numbers = some ⟨oc_rest_numbers, od_rest_numbers, .func (PySem.W.fnOf "rest_numbers" "rest_numbers" (defArgs s_rest_numbers) (defBody s_rest_numbers) (defScope s_rest_numbers) .none kV_rest_numbers dc_rest_numbers pm_rest_numbers an_rest_numbers cd_rest_numbers ct_rest_numbers), sl_rest_numbers⟩)
    (r_rest_numbers : PySem.W.codeIn K cd_rest_numbers "rest_numbers" = true)
    (t_rest_numbers : PySem.W.keepIn K (.ref f_rest_numbers) = true)
    (p_side_of : PySem.W.nsIn K mainGlobals "side_of" = some (some (.ref f_side_of)))
    (q_side_of : K.lookup f_side_of = some ⟨oc_side_of, od_side_of, .func (PySem.W.fnOf "side_of" "side_of" (defArgs s_side_of) (defBody s_side_of) (defScope s_side_of) .none kV_side_of dc_side_of pm_side_of an_side_of cd_side_of ct_side_of), sl_side_of⟩)
    (r_side_of : PySem.W.codeIn K cd_side_of "side_of" = true)
    (t_side_of : PySem.W.keepIn K (.ref f_side_of) = true)
    (p_under_in : PySem.W.nsIn K mainGlobals "under_in" = some (some (.ref f_under_in)))
    (q_under_in : K.lookup f_under_in = some ⟨oc_under_in, od_under_in, .func (PySem.W.fnOf "under_in" "under_in" (defArgs s_under_in) (defBody s_under_in) (defScope s_under_in) .none kV_under_in dc_under_in pm_under_in an_under_in cd_under_in ct_under_in), sl_under_in⟩)
    (r_under_in : PySem.W.codeIn K cd_under_in "under_in" = true)
    (t_under_in : PySem.W.keepIn K (.ref f_under_in) = true)
    (p_under_root : PySem.W.nsIn K mainGlobals "under_root" = some (some (.ref f_under_root)))
    (q_under_root : K.lookup f_under_root = some ⟨oc_under_root, od_under_root, .func (PySem.W.fnOf "under_root" "under_root" (defArgs s_under_root) (defBody s_under_root) (defScope s_under_root) .none kV_under_root dc_under_root pm_under_root an_under_root cd_under_root ct_under_root), sl_under_root⟩)
    (r_under_root : PySem.W.codeIn K cd_under_root "under_root" = true)
    (t_under_root : PySem.W.keepIn K (.ref f_under_root) = true)
    (p_roots_in : PySem.W.nsIn K mainGlobals "roots_in" = some (some (.ref f_roots_in)))
    (q_roots_in : K.lookup f_roots_in = some ⟨oc_roots_in, od_roots_in, .func (PySem.W.fnOf "roots_in" "roots_in" (defArgs s_roots_in) (defBody s_roots_in) (defScope s_roots_in) .none kV_roots_in dc_roots_in pm_roots_in an_roots_in cd_roots_in ct_roots_in), sl_roots_in⟩)
    (r_roots_in : PySem.W.codeIn K cd_roots_in "roots_in" = true)
    (t_roots_in : PySem.W.keepIn K (.ref f_roots_in) = true)
    (p_roots_of : PySem.W.nsIn K mainGlobals "roots_of" = some (some (.ref f_roots_of)))
    (q_roots_of : K.lookup f_roots_of = some ⟨oc_roots_of, od_roots_of, .func (PySem.W.fnOf "roots_of" "roots_of" (defArgs s_roots_of) (defBody s_roots_of) (defScope s_roots_of) .none kV_roots_of dc_roots_of pm_roots_of an_roots_of cd_roots_of ct_roots_of), sl_roots_of⟩)
    (r_roots_of : PySem.W.codeIn K cd_roots_of "roots_of" = true)
    (t_roots_of : PySem.W.keepIn K (.ref f_roots_of) = true)
    (p_often_in : PySem.W.nsIn K mainGlobals "often_in" = some (some (.ref f_often_in)))
    (q_often_in : K.lookup f_often_in = some ⟨oc_often_in, od_often_in, .func (PySem.W.fnOf "often_in" "often_in" (defArgs s_often_in) (defBody s_often_in) (defScope s_often_in) .none kV_often_in dc_often_in pm_often_in an_often_in cd_often_in ct_often_in), sl_often_in⟩)
    (r_often_in : PySem.W.codeIn K cd_often_in "often_in" = true)
    (t_often_in : PySem.W.keepIn K (.ref f_often_in) = true)
    (p_often : PySem.W.nsIn K mainGlobals "often" = some (some (.ref f_often)))
    (q_often : K.lookup f_often = some ⟨oc_often, od_often, .func (PySem.W.fnOf "often" "often" (defArgs s_often) (defBody s_often) (defScope s_often) .none kV_often dc_often pm_often an_often cd_often ct_often), sl_often⟩)
    (r_often : PySem.W.codeIn K cd_often "often" = true)
    (t_often : PySem.W.keepIn K (.ref f_often) = true)
    (p_sides_of : PySem.W.nsIn K mainGlobals "sides_of" = some (some (.ref f_sides_of)))
    (q_sides_of : K.lookup f_sides_of = some ⟨oc_sides_of, od_sides_of, .func (PySem.W.fnOf "sides_of" "sides_of" (defArgs s_sides_of) (defBody s_sides_of) (defScope s_sides_of) .none kV_sides_of dc_sides_of pm_sides_of an_sides_of cd_sides_of ct_sides_of), sl_sides_of⟩)
    (r_sides_of : PySem.W.codeIn K cd_sides_of "sides_of" = true)
    (t_sides_of : PySem.W.keepIn K (.ref f_sides_of) = true)
    (p_bars_of : PySem.W.nsIn K mainGlobals "bars_of" = some (some (.ref f_bars_of)))
    (q_bars_of : K.lookup f_bars_of = some ⟨oc_bars_of, od_bars_of, .func (PySem.W.fnOf "bars_of" "bars_of" (defArgs s_bars_of) (defBody s_bars_of) (defScope s_bars_of) .none kV_bars_of dc_bars_of pm_bars_of an_bars_of cd_bars_of ct_bars_of), sl_bars_of⟩)
    (r_bars_of : PySem.W.codeIn K cd_bars_of "bars_of" = true)
    (t_bars_of : PySem.W.keepIn K (.ref f_bars_of) = true)
    (p_is_plain : PySem.W.nsIn K mainGlobals "is_plain" = some (some (.ref f_is_plain)))
    (q_is_plain : K.lookup f_is_plain = some ⟨oc_is_plain, od_is_plain, .func (PySem.W.fnOf "is_plain" "is_plain" (defArgs s_is_plain) (defBody s_is_plain) (defScope s_is_plain) .none kV_is_plain dc_is_plain pm_is_plain an_is_plain cd_is_plain ct_is_plain), sl_is_plain⟩)
    (r_is_plain : PySem.W.codeIn K cd_is_plain "is_plain" = true)
    (t_is_plain : PySem.W.keepIn K (.ref f_is_plain) = true)
    (p_is_bar : PySem.W.nsIn K mainGlobals "is_bar" = some (some (.ref f_is_bar)))
    (q_is_bar : K.lookup f_is_bar = some ⟨oc_is_bar, od_is_bar, .func (PySem.W.fnOf "is_bar" "is_bar" (defArgs s_is_bar) (defBody s_is_bar) (defScope s_is_bar) .none kV_is_bar dc_is_bar pm_is_bar an_is_bar cd_is_bar ct_is_bar), sl_is_bar⟩)
    (r_is_bar : PySem.W.codeIn K cd_is_bar "is_bar" = true)
    (t_is_bar : PySem.W.keepIn K (.ref f_is_bar) = true)
    (p_first_bar : PySem.W.nsIn K mainGlobals "first_bar" = some (some (.ref f_first_bar)))
    (q_first_bar : K.lookup f_first_bar = some ⟨oc_first_bar, od_first_bar, .func (PySem.W.fnOf "first_bar" "first_bar" (defArgs s_first_bar) (defBody s_first_bar) (defScope s_first_bar) .none kV_first_bar dc_first_bar pm_first_bar an_first_bar cd_first_bar ct_first_bar), sl_first_bar⟩)
    (r_first_bar : PySem.W.codeIn K cd_first_bar "first_bar" = true)
    (t_first_bar : PySem.W.keepIn K (.ref f_first_bar) = true)
    (p_all_numbers : PySem.W.nsIn K mainGlobals "all_numbers" = some (some (.ref f_all_numbers)))
    (q_all_numbers : K.lookup f_all_numbers = some ⟨oc_all_numbers, od_all_numbers, .func (PySem.W.fnOf "all_numbers" "all_numbers" (defArgs s_all_numbers) (defBody s_all_numbers) (defScope s_all_numbers) .none kV_all_numbers dc_all_numbers pm_all_numbers an_all_numbers cd_all_numbers ct_all_numbers), sl_all_numbers⟩)
    (r_all_numbers : PySem.W.codeIn K cd_all_numbers "all_numbers" = true)
    (t_all_numbers : PySem.W.keepIn K (.ref f_all_numbers) = true)
    (p_w_cell : PySem.W.nsIn K mainGlobals "_law_cell" = some (some (.ref f_w_cell)))
    (q_w_cell : K.lookup f_w_cell = some ⟨oc_w_cell, od_w_cell, .func (PySem.W.fnOf "_law_cell" "_law_cell" (defArgs s_w_cell) (defBody s_w_cell) (defScope s_w_cell) .none kV_w_cell dc_w_cell pm_w_cell an_w_cell cd_w_cell ct_w_cell), sl_w_cell⟩)
    (r_w_cell : PySem.W.codeIn K cd_w_cell "_law_cell" = true)
    (t_w_cell : PySem.W.keepIn K (.ref f_w_cell) = true)
    (p_w_box : PySem.W.nsIn K mainGlobals "_law_box" = some (some (.ref f_w_box)))
    (q_w_box : K.lookup f_w_box = some ⟨oc_w_box, od_w_box, .func (PySem.W.fnOf "_law_box" "_law_box" (defArgs s_w_box) (defBody s_w_box) (defScope s_w_box) .none kV_w_box dc_w_box pm_w_box an_w_box cd_w_box ct_w_box), sl_w_box⟩)
    (r_w_box : PySem.W.codeIn K cd_w_box "_law_box" = true)
    (t_w_box : PySem.W.keepIn K (.ref f_w_box) = true)
    (p_w_take : PySem.W.nsIn K mainGlobals "_law_take" = some (some (.ref f_w_take)))
    (q_w_take : K.lookup f_w_take = some ⟨oc_w_take, od_w_take, .func (PySem.W.fnOf "_law_take" "_law_take" (defArgs s_w_take) (defBody s_w_take) (defScope s_w_take) .none kV_w_take dc_w_take pm_w_take an_w_take cd_w_take ct_w_take), sl_w_take⟩)
    (r_w_take : PySem.W.codeIn K cd_w_take "_law_take" = true)
    (t_w_take : PySem.W.keepIn K (.ref f_w_take) = true)
    (p_w_numbers : PySem.W.nsIn K mainGlobals "_law_numbers" = some (some (.ref f_w_numbers)))
    (q_w_numbers : K.lookup f_w_numbers = some ⟨oc_w_numbers, od_w_numbers, .func (PySem.W.fnOf "_law_numbers" "_law_numbers" (defArgs s_w_numbers) (defBody s_w_numbers) (defScope s_w_numbers) .none kV_w_numbers dc_w_numbers pm_w_numbers an_w_numbers cd_w_numbers ct_w_numbers), sl_w_numbers⟩)
    (r_w_numbers : PySem.W.codeIn K cd_w_numbers "_law_numbers" = true)
    (t_w_numbers : PySem.W.keepIn K (.ref f_w_numbers) = true)
    (p_w_rest_right : PySem.W.nsIn K mainGlobals "_law_rest_right" = some (some (.ref f_w_rest_right)))
    (q_w_rest_right : K.lookup f_w_rest_right = some ⟨oc_w_rest_right, od_w_rest_right, .func (PySem.W.fnOf "_law_rest_right" "_law_rest_right" (defArgs s_w_rest_right) (defBody s_w_rest_right) (defScope s_w_rest_right) .none kV_w_rest_right dc_w_rest_right pm_w_rest_right an_w_rest_right cd_w_rest_right ct_w_rest_right), sl_w_rest_right⟩)
    (r_w_rest_right : PySem.W.codeIn K cd_w_rest_right "_law_rest_right" = true)
    (t_w_rest_right : PySem.W.keepIn K (.ref f_w_rest_right) = true)
    (p_law : PySem.W.nsIn K mainGlobals "law" = some (some (.ref f_law)))
    (q_law : K.lookup f_law = some ⟨oc_law, od_law, .func (PySem.W.fnOf "law" "law" (defArgs s_law) (defBody s_law) (defScope s_law) .none kV_law dc_law pm_law an_law cd_law ct_law), sl_law⟩)
    (r_law : PySem.W.codeIn K cd_law "law" = true)
    (t_law : PySem.W.keepIn K (.ref f_law) = true)
    (c_MOST : PySem.W.nsIn K mainGlobals "MOST" = some (some (.int 1000000 k_MOST)))
    (c_LEAST_HERE : PySem.W.nsIn K mainGlobals "LEAST_HERE" = some (some (.int 3 k_LEAST_HERE)))
    (c_MOST_HERE : PySem.W.nsIn K mainGlobals "MOST_HERE" = some (some (.int 60 k_MOST_HERE)))
    (l_NoNumbers : PySem.W.nsIn K mainGlobals "NoNumbers" = some (some (.ref A_NoNumbers)))
    (l_NoNumber : PySem.W.nsIn K mainGlobals "NoNumber" = some (some (.ref A_NoNumber)))
    (ex_NoNumbers : PySem.W.excIn K A_NoNumbers [.type "ValueError", .type "Exception", .type "BaseException", .type "object"] "ValueError.__new__" = true)
    (ek_NoNumbers : PySem.W.keepIn K (.ref A_NoNumbers) = true)
    (eb_NoNumbers : PySem.W.subIn K (.ref A_NoNumbers) (.type "BaseException") = some true)
    (et_NoNumbers : PySem.W.typeIn K (.ref A_NoNumbers) = some (.type "type"))
    (ex_NoNumber : PySem.W.excIn K A_NoNumber [.type "ValueError", .type "Exception", .type "BaseException", .type "object"] "ValueError.__new__" = true)
    (ek_NoNumber : PySem.W.keepIn K (.ref A_NoNumber) = true)
    (eb_NoNumber : PySem.W.subIn K (.ref A_NoNumber) (.type "BaseException") = some true)
    (et_NoNumber : PySem.W.typeIn K (.ref A_NoNumber) = some (.type "type"))
    (z_len : PySem.W.nsIn K mainGlobals "len" = some none)
    (z_isi : PySem.W.nsIn K mainGlobals "isinstance" = some none)
    (z_all : PySem.W.nsIn K mainGlobals "all" = some none)
    (z_any : PySem.W.nsIn K mainGlobals "any" = some none)
    (z_sum : PySem.W.nsIn K mainGlobals "sum" = some none)
    (z_min : PySem.W.nsIn K mainGlobals "min" = some none)
    (z_max : PySem.W.nsIn K mainGlobals "max" = some none)
    (z_sorted : PySem.W.nsIn K mainGlobals "sorted" = some none)
    (z_range : PySem.W.nsIn K mainGlobals "range" = some none)
    (z_enum : PySem.W.nsIn K mainGlobals "enumerate" = some none)
    (z_zip : PySem.W.nsIn K mainGlobals "zip" = some none)
    (z_tuple : PySem.W.nsIn K mainGlobals "tuple" = some none)
    (z_list : PySem.W.nsIn K mainGlobals "list" = some none)
    (z_dict : PySem.W.nsIn K mainGlobals "dict" = some none)
    (z_set : PySem.W.nsIn K mainGlobals "set" = some none)
    (z_str : PySem.W.nsIn K mainGlobals "str" = some none)
    (z_int : PySem.W.nsIn K mainGlobals "int" = some none)
    (z_bool : PySem.W.nsIn K mainGlobals "bool" = some none)
    (z_abs : PySem.W.nsIn K mainGlobals "abs" = some none)
    (z_divmod : PySem.W.nsIn K mainGlobals "divmod" = some none)
    (z_repr : PySem.W.nsIn K mainGlobals "repr" = some none)
    (z_verr : PySem.W.nsIn K mainGlobals "ValueError" = some none) :
    ∃ fd : FuncData, (∀ (s : Shared) (v : Value), BindsTo s fd ⟨[v], []⟩ [("_law_script", v)]) ∧ ∀ base : Heap, K.In base → base.Ns mainGlobals mg → FnOk l.prog w K mg base (L2N.CX l.prog w) 7 fa fd ["_law_script"] (spL K F_law) := by
  have e := hfa.symm.trans (PySem.W.mg_of X G p_law)
  cases e
  have F_is_whole := fun_mk (st := s_is_whole) q_is_whole r_is_whole t_is_whole
  have b_is_whole := F_is_whole.binds (ps := ["thing"]) fun _ _ _ _ _ _ us hl => match us, hl with | [_], _ => rfl
  have F_is_between := fun_mk (st := s_is_between) q_is_between r_is_between t_is_between
  have b_is_between := F_is_between.binds (ps := ["thing", "least", "most"]) fun _ _ _ _ _ _ us hl => match us, hl with | [_, _, _], _ => rfl
  have F_are_numbers := fun_mk (st := s_are_numbers) q_are_numbers r_are_numbers t_are_numbers
  have b_are_numbers := F_are_numbers.binds (ps := ["thing"]) fun _ _ _ _ _ _ us hl => match us, hl with | [_], _ => rfl
  have F_look_at_numbers := fun_mk (st := s_look_at_numbers) q_look_at_numbers r_look_at_numbers t_look_at_numbers
  have b_look_at_numbers := F_look_at_numbers.binds (ps := ["numbers"]) fun _ _ _ _ _ _ us hl => match us, hl with | [_], _ => rfl
  have F_rest_numbers := fun_mk (st := s_rest_numbers) q_rest_numbers r_rest_numbers t_rest_numbers
  have b_rest_numbers := F_rest_numbers.binds (ps := ["numbers"]) fun _ _ _ _ _ _ us hl => match us, hl with | [_], _ => rfl
  have F_side_of := fun_mk (st := s_side_of) q_side_of r_side_of t_side_of
  have b_side_of := F_side_of.binds (ps := ["number"]) fun _ _ _ _ _ _ us hl => match us, hl with | [_], _ => rfl
  have F_under_in := fun_mk (st := s_under_in) q_under_in r_under_in t_under_in
  have b_under_in := F_under_in.binds (ps := ["numbers"]) fun _ _ _ _ _ _ us hl => match us, hl with | [_], _ => rfl
  have F_under_root := fun_mk (st := s_under_root) q_under_root r_under_root t_under_root
  have b_under_root := F_under_root.binds (ps := ["numbers"]) fun _ _ _ _ _ _ us hl => match us, hl with | [_], _ => rfl
  have F_roots_in := fun_mk (st := s_roots_in) q_roots_in r_roots_in t_roots_in
  have b_roots_in := F_roots_in.binds (ps := ["numbers"]) fun _ _ _ _ _ _ us hl => match us, hl with | [_], _ => rfl
  have F_roots_of := fun_mk (st := s_roots_of) q_roots_of r_roots_of t_roots_of
  have b_roots_of := F_roots_of.binds (ps := ["numbers"]) fun _ _ _ _ _ _ us hl => match us, hl with | [_], _ => rfl
  have F_often_in := fun_mk (st := s_often_in) q_often_in r_often_in t_often_in
  have b_often_in := F_often_in.binds (ps := ["numbers"]) fun _ _ _ _ _ _ us hl => match us, hl with | [_], _ => rfl
  have F_often := fun_mk (st := s_often) q_often r_often t_often
  have b_often := F_often.binds (ps := ["numbers"]) fun _ _ _ _ _ _ us hl => match us, hl with | [_], _ => rfl
  have F_sides_of := fun_mk (st := s_sides_of) q_sides_of r_sides_of t_sides_of
  have b_sides_of := F_sides_of.binds (ps := ["numbers", "one", "other"]) fun _ _ _ _ _ _ us hl => match us, hl with | [_, _, _], _ => rfl
  have F_bars_of := fun_mk (st := s_bars_of) q_bars_of r_bars_of t_bars_of
  have b_bars_of := F_bars_of.binds (ps := ["numbers"]) fun _ _ _ _ _ _ us hl => match us, hl with | [_], _ => rfl
  have F_is_plain := fun_mk (st := s_is_plain) q_is_plain r_is_plain t_is_plain
  have b_is_plain := F_is_plain.binds (ps := ["thing"]) fun _ _ _ _ _ _ us hl => match us, hl with | [_], _ => rfl
  have F_is_bar := fun_mk (st := s_is_bar) q_is_bar r_is_bar t_is_bar
  have b_is_bar := F_is_bar.binds (ps := ["numbers", "thing"]) fun _ _ _ _ _ _ us hl => match us, hl with | [_, _], _ => rfl
  have F_first_bar := fun_mk (st := s_first_bar) q_first_bar r_first_bar t_first_bar
  have b_first_bar := F_first_bar.binds (ps := ["numbers"]) fun _ _ _ _ _ _ us hl => match us, hl with | [_], _ => rfl
  have F_all_numbers := fun_mk (st := s_all_numbers) q_all_numbers r_all_numbers t_all_numbers
  have b_all_numbers := F_all_numbers.binds (ps := ["n"]) fun _ _ _ _ _ _ us hl => match us, hl with | [_], _ => rfl
  have F_w_cell := fun_mk (st := s_w_cell) q_w_cell r_w_cell t_w_cell
  have b_w_cell := F_w_cell.binds (ps := ["_law_script", "_law_k"]) fun _ _ _ _ _ _ us hl => match us, hl with | [_, _], _ => rfl
  have F_w_box := fun_mk (st := s_w_box) q_w_box r_w_box t_w_box
  have b_w_box := F_w_box.binds (ps := ["_law_script", "_law_k"]) fun _ _ _ _ _ _ us hl => match us, hl with | [_, _], _ => rfl
  have F_w_take := fun_mk (st := s_w_take) q_w_take r_w_take t_w_take
  have b_w_take := F_w_take.binds (ps := ["_law_box_here", "_law_many"]) fun _ _ _ _ _ _ us hl => match us, hl with | [_, _], _ => rfl
  have F_w_numbers := fun_mk (st := s_w_numbers) q_w_numbers r_w_numbers t_w_numbers
  have b_w_numbers := F_w_numbers.binds (ps := ["_law_box_here"]) fun _ _ _ _ _ _ us hl => match us, hl with | [_], _ => rfl
  have F_w_rest_right := fun_mk (st := s_w_rest_right) q_w_rest_right r_w_rest_right t_w_rest_right
  have b_w_rest_right := F_w_rest_right.binds (ps := ["_law_numbers_here"]) fun _ _ _ _ _ _ us hl => match us, hl with | [_], _ => rfl
  have F_law := fun_mk (st := s_law) q_law r_law t_law
  have b_law := F_law.binds (ps := ["_law_script"]) fun _ _ _ _ _ _ us hl => match us, hl with | [_], _ => rfl
  let T : Tx K mg := {
    B := ⟨PySem.W.mg_none_of X G z_len, PySem.W.mg_none_of X G z_isi, PySem.W.mg_none_of X G z_all, PySem.W.mg_none_of X G z_any, PySem.W.mg_none_of X G z_sum, PySem.W.mg_none_of X G z_min, PySem.W.mg_none_of X G z_max, PySem.W.mg_none_of X G z_sorted, PySem.W.mg_none_of X G z_range, PySem.W.mg_none_of X G z_enum, PySem.W.mg_none_of X G z_zip, PySem.W.mg_none_of X G z_tuple, PySem.W.mg_none_of X G z_list, PySem.W.mg_none_of X G z_dict, PySem.W.mg_none_of X G z_set, PySem.W.mg_none_of X G z_str, PySem.W.mg_none_of X G z_int, PySem.W.mg_none_of X G z_bool, PySem.W.mg_none_of X G z_abs, PySem.W.mg_none_of X G z_divmod, PySem.W.mg_none_of X G z_repr, PySem.W.mg_none_of X G z_verr⟩,
    a_is_whole := _, d_is_whole := _, F_is_whole := F_is_whole, g_is_whole := PySem.W.mg_of X G p_is_whole, b_is_whole := b_is_whole,
    a_is_between := _, d_is_between := _, F_is_between := F_is_between, g_is_between := PySem.W.mg_of X G p_is_between, b_is_between := b_is_between,
    a_are_numbers := _, d_are_numbers := _, F_are_numbers := F_are_numbers, g_are_numbers := PySem.W.mg_of X G p_are_numbers, b_are_numbers := b_are_numbers,
    a_look_at_numbers := _, d_look_at_numbers := _, F_look_at_numbers := F_look_at_numbers, g_look_at_numbers := PySem.W.mg_of X G p_look_at_numbers, b_look_at_numbers := b_look_at_numbers,
    a_rest_numbers := _, d_rest_numbers := _, F_rest_numbers := F_rest_numbers, g_rest_numbers := PySem.W.mg_of X G p_rest_numbers, b_rest_numbers := b_rest_numbers,
    a_side_of := _, d_side_of := _, F_side_of := F_side_of, g_side_of := PySem.W.mg_of X G p_side_of, b_side_of := b_side_of,
    a_under_in := _, d_under_in := _, F_under_in := F_under_in, g_under_in := PySem.W.mg_of X G p_under_in, b_under_in := b_under_in,
    a_under_root := _, d_under_root := _, F_under_root := F_under_root, g_under_root := PySem.W.mg_of X G p_under_root, b_under_root := b_under_root,
    a_roots_in := _, d_roots_in := _, F_roots_in := F_roots_in, g_roots_in := PySem.W.mg_of X G p_roots_in, b_roots_in := b_roots_in,
    a_roots_of := _, d_roots_of := _, F_roots_of := F_roots_of, g_roots_of := PySem.W.mg_of X G p_roots_of, b_roots_of := b_roots_of,
    a_often_in := _, d_often_in := _, F_often_in := F_often_in, g_often_in := PySem.W.mg_of X G p_often_in, b_often_in := b_often_in,
    a_often := _, d_often := _, F_often := F_often, g_often := PySem.W.mg_of X G p_often, b_often := b_often,
    a_sides_of := _, d_sides_of := _, F_sides_of := F_sides_of, g_sides_of := PySem.W.mg_of X G p_sides_of, b_sides_of := b_sides_of,
    a_bars_of := _, d_bars_of := _, F_bars_of := F_bars_of, g_bars_of := PySem.W.mg_of X G p_bars_of, b_bars_of := b_bars_of,
    a_is_plain := _, d_is_plain := _, F_is_plain := F_is_plain, g_is_plain := PySem.W.mg_of X G p_is_plain, b_is_plain := b_is_plain,
    a_is_bar := _, d_is_bar := _, F_is_bar := F_is_bar, g_is_bar := PySem.W.mg_of X G p_is_bar, b_is_bar := b_is_bar,
    a_first_bar := _, d_first_bar := _, F_first_bar := F_first_bar, g_first_bar := PySem.W.mg_of X G p_first_bar, b_first_bar := b_first_bar,
    a_all_numbers := _, d_all_numbers := _, F_all_numbers := F_all_numbers, g_all_numbers := PySem.W.mg_of X G p_all_numbers, b_all_numbers := b_all_numbers,
    a_w_cell := _, d_w_cell := _, F_w_cell := F_w_cell, g_w_cell := PySem.W.mg_of X G p_w_cell, b_w_cell := b_w_cell,
    a_w_box := _, d_w_box := _, F_w_box := F_w_box, g_w_box := PySem.W.mg_of X G p_w_box, b_w_box := b_w_box,
    a_w_take := _, d_w_take := _, F_w_take := F_w_take, g_w_take := PySem.W.mg_of X G p_w_take, b_w_take := b_w_take,
    a_w_numbers := _, d_w_numbers := _, F_w_numbers := F_w_numbers, g_w_numbers := PySem.W.mg_of X G p_w_numbers, b_w_numbers := b_w_numbers,
    a_w_rest_right := _, d_w_rest_right := _, F_w_rest_right := F_w_rest_right, g_w_rest_right := PySem.W.mg_of X G p_w_rest_right, b_w_rest_right := b_w_rest_right,
    a_law := _, d_law := _, F_law := F_law, g_law := PySem.W.mg_of X G p_law, b_law := b_law,
    k_MOST := k_MOST, c_MOST := PySem.W.mg_of X G c_MOST,
    k_LEAST_HERE := k_LEAST_HERE, c_LEAST_HERE := PySem.W.mg_of X G c_LEAST_HERE,
    k_MOST_HERE := k_MOST_HERE, c_MOST_HERE := PySem.W.mg_of X G c_MOST_HERE,
    A_NoNumbers := A_NoNumbers, l_NoNumbers := PySem.W.mg_of X G l_NoNumbers,
    A_NoNumber := A_NoNumber, l_NoNumber := PySem.W.mg_of X G l_NoNumber,
    e_NoNumbers := ⟨PySem.W.mg_of X G l_NoNumbers, ex_NoNumbers, ek_NoNumbers, eb_NoNumbers, et_NoNumbers⟩,
    e_NoNumber := ⟨PySem.W.mg_of X G l_NoNumber, ex_NoNumber, ek_NoNumber, eb_NoNumber, et_NoNumber⟩ }
  exact ⟨PySem.W.fnOf "law" "law" (defArgs s_law) (defBody s_law) (defScope s_law) .none kV_law dc_law pm_law an_law cd_law ct_law, fun s v => .of_eq rfl, fun base _ _ => toL (ok_law T)⟩
end Lw
namespace Lw
open PySem PySem.Spec PyProof.Rows L2 Mi
theorem v_is_whole (d : D) (h : dat d = true) : F_is_whole [d] = .ok (.bl (isW d)) := by
  unfold F_is_whole m_is_whole
  cases d <;> first | (cases h; done) | (simp only [dat] at h; simp only [Mi.kof_some, Mi.kof_none, Mi.mOp1_ap, Mi.k1_ok, Mi.k1_exc, Mi.mOp2_ap, Mi.k2a_ok, Mi.k2a_exc, Mi.k2b_ok, Mi.k2b_exc, Mi.mOpL_ap, Mi.kL_ok, Mi.kL_exc, Mi.mCons_ap, Mi.kca_ok, Mi.kca_exc, Mi.kcb_ok, Mi.kcb_exc, Mi.mNil_ap, Mi.mC_ap, Mi.mLst_ap, Mi.mTup_ap, Mi.kLst_ok, Mi.kTup_ok, Mi.mVar_ap, Mi.kV_some, Mi.mFrz_ap, Mi.kF_some, Mi.mMove_ap, Mi.kM_some, Mi.at0, Mi.atS, Mi.set0, Mi.setS, Mi.mT_ap, Mi.kT_ok, Mi.kT_exc, Mi.mNotT_ap, Mi.kN_ok, Mi.kN_exc, Mi.mAndT_ap, Mi.kA_ok, Mi.kA_exc, Mi.mOrT_ap, Mi.kO_ok, Mi.kO_exc, Mi.mAndV_ap, Mi.kAV_ok, Mi.mOrV_ap, Mi.kOV_ok, Mi.mIf_ap, Mi.kIf_ok, Mi.mChain_ap, Mi.kCh_ok, Mi.kCh1_ok, Mi.kCh2_ok, Mi.mSeq_ap, Mi.kS_nx, Mi.kS_rt, Mi.kS_exc, Mi.kS_bk, Mi.kS_ct, Mi.mNext_ap, Mi.mDrop_ap, Mi.kD_ok, Mi.kD_exc, Mi.mRet_ap, Mi.kR_ok, Mi.kR_exc, Mi.mRetN_ap, Mi.mIfS_ap, Mi.kI_ok, Mi.kI_exc, Mi.mAsg_ap, Mi.kG_ok, Mi.kG_exc, Mi.kG2_some, Mi.mgName_ap, Mi.mgTup_ap, Mi.mgCons_ap, Mi.kgs_some, Mi.mgNil_ap, Mi.mPar_ap, Mi.kP_ok, Mi.mPar3_ap, Mi.kP3_ok, Mi.ownAt_ap, Mi.kw_own, Mi.mSlotIx_ap, Mi.kX_some, Mi.kX2_ok, Mi.kX3_some, Mi.mCall_ap, Mi.kc_ok, Mi.kf_ok, Mi.kf_exc, Mi.mCallO_ap, Mi.kq_some, Mi.kq2_ok, Mi.kq3_some, Mi.kq4_ok, Mi.mSetIx_ap, Mi.ky_ok, Mi.ky2_some, Mi.ky3_ok, Mi.ky4_some, Mi.mItL_ap, Mi.kIL_ok, Mi.kRs_some, Mi.mItT_ap, Mi.kIT_ok, Mi.mRng1_ap, Mi.kr1_ok, Mi.mRng2_ap, Mi.kr2_ok, Mi.mFor_ap, Mi.kFo_ok, Mi.mLoop_nil, Mi.kl1_some, Mi.kl2_nx, Mi.kl2_ct, Mi.kl2_bk, Mi.kl2_rt, Mi.kl2_exc, Mi.mLc_ap, Mi.kLc_ok, Mi.lc_nil, Mi.kz1_some, Mi.kz2_ok, Mi.kz3_ok, Mi.mYes_ap, Mi.mAug_ap, Mi.kU_some, Mi.kU2_int, Mi.mTry_ap, Mi.kTr_nx, Mi.kTr_rt, Mi.mMeth_ap, Mi.kMe_lst, Mi.kMe_own, Mi.mAppend_ap, Mi.kAp_some, Mi.kAp2_ok, Mi.kAp3_some, Mi.dAdd_int, Mi.dAdd_str, Mi.dAdd_tup, Mi.dAdd_ll, Mi.dAdd_lo, Mi.dAdd_ol, Mi.dAdd_oo, Mi.dSub_int, Mi.dMul_int, Mi.dMod_int, Mi.dFdiv_int, Mi.dPow_int, Mi.dNeg_int, Mi.dDivmod_int, Mi.dGt_int, Mi.dGe_int, Mi.dLe_int, Mi.dLtI_int, Mi.dLt_int, Mi.dEq_int, Mi.dNe_int, Mi.dMax2_int, Mi.dMin2_int, Mi.fn1_ap, Mi.fn2_ap, Mi.dLen_tup, Mi.dLen_lst, Mi.dLen_cst, Mi.dLen_own, Mi.fnM_ap, Mi.kfn_nx, Mi.kfn_rt, Mi.kfn_exc, Mi.fnO_ap, Mi.kfo_nx, Mi.kfo_rt, Mi.env0, Mi.envN, Mi.envS, Mi.wipeN, Mi.wipeS, Mi.lit_own, Mi.lit_lst, Mi.lit_cst, Mi.ix_own, Mi.ix_lst, Mi.ix_cst, Mi.ix_tup, Mi.dix_own, Mi.dix_lst, Mi.dix_cst, Mi.dix_tup, Mi.rng0, Mi.toL, Mi.end_lawL, Mi.btw_int, Mi.btw_bl, Mi.btw_non, Mi.btw_str, Mi.is_non_int, Mi.is_bl_int, Mi.is_int_int, Mi.is_str_int, Mi.is_tup_int, Mi.is_lst_int, Mi.is_cst_int, Mi.is_own_int, Mi.is_non_bool, Mi.is_bl_bool, Mi.is_int_bool, Mi.is_str_bool, Mi.is_tup_bool, Mi.is_lst_bool, Mi.is_cst_bool, Mi.is_own_bool, Mi.is_non_tuple, Mi.is_bl_tuple, Mi.is_int_tuple, Mi.is_str_tuple, Mi.is_tup_tuple, Mi.is_lst_tuple, Mi.is_cst_tuple, Mi.is_own_tuple, Mi.is_non_list, Mi.is_bl_list, Mi.is_int_list, Mi.is_str_list, Mi.is_tup_list, Mi.is_lst_list, Mi.is_cst_list, Mi.is_own_list, Mi.is_non_str, Mi.is_bl_str, Mi.is_int_str, Mi.is_str_str, Mi.is_tup_str, Mi.is_lst_str, Mi.is_cst_str, Mi.is_own_str, Mi.cast_lit, Mi.mPart_ap, Mi.kPt_ok, Mi.mNoPart_ap, Mi.mSl_ap, Mi.kSl1_ok, Mi.kSl2_ok, Mi.kSl3_ok, Mi.dSl_tup, Mi.dSl_lst, Mi.dSl_cst, Mi.mZip_ap, Mi.kZ_tup, Mi.kZ_lst, Mi.mPick_ap, Mi.kPk_ok, Mi.kPk2_some, Mi.at_0, Mi.at_1, Mi.at_2, Mi.at_3, Mi.isT_non, Mi.isT_bl, Mi.isT_int, Mi.isT_str, Mi.isT_tup, Mi.isT_lst, Mi.isT_cst, Mi.isT_own, Mi.dInt_bl, Mi.dIs_f_non, Mi.dIs_t_non, Mi.dIs_f_bl, Mi.dIs_t_bl, Mi.dIs_f_int, Mi.dIs_t_int, Mi.dIs_f_str, Mi.dIs_t_str, Mi.dIs_f_tup, Mi.dIs_t_tup, Mi.dIs_f_lst, Mi.dIs_t_lst, Mi.dIs_f_own, Mi.dIs_t_own, Mi.dIs_f_cst, Mi.dIs_t_cst, Mi.mLR1_ap, Mi.kLR1_ok, Mi.mLR2_ap, Mi.kLR2_ok, Mi.kLR2b_ok, Mi.mCallB_ap, Mi.kcB_some, Mi.kcB1_ok, Mi.kcB2_some, Mi.kcB3_bl, Mi.kcB3_exc, Mi.mExtend_ap, Mi.kEx_some, Mi.kEx2_ok, Mi.kEx3_some, Mi.dNotIn2, Mi.dIn2, Mi.dIsB_tt, Mi.dIsB_ft, Mi.dNotB_tt, Mi.dNotB_ft, D.frz, frzs, D.plain, plains, Bool.and_self, Bool.and_true, Bool.true_and, Bool.and_false, Bool.false_and, List.length_cons, List.length_nil, List.length_set, Nat.reduceAdd, Nat.zero_add, Nat.reduceLT, Nat.reduceLeDiff, sizeLine_eq, if_true, if_false, Bool.not_true, Bool.not_false, Bool.false_eq_true, decide_true, decide_false, and_self, and_true, true_and, List.cons_append, List.nil_append, Option.map_some, Option.bind_some, Int.reduceToNat, Int.reducePow, Int.reduceNeg, Int.reduceEq, Int.reduceLT, Int.reduceLE, Int.reduceAdd, Int.reduceSub, Int.reduceMul, eq_self, Mi.dat, not_true_eq_false, not_false_eq_true, Bool.or_self, Bool.or_true, Bool.or_false, Bool.false_or, Bool.true_or, false_and, and_false, true_or, or_true, false_or, or_false, h]; rfl) | (simp only [Mi.kof_some, Mi.kof_none, Mi.mOp1_ap, Mi.k1_ok, Mi.k1_exc, Mi.mOp2_ap, Mi.k2a_ok, Mi.k2a_exc, Mi.k2b_ok, Mi.k2b_exc, Mi.mOpL_ap, Mi.kL_ok, Mi.kL_exc, Mi.mCons_ap, Mi.kca_ok, Mi.kca_exc, Mi.kcb_ok, Mi.kcb_exc, Mi.mNil_ap, Mi.mC_ap, Mi.mLst_ap, Mi.mTup_ap, Mi.kLst_ok, Mi.kTup_ok, Mi.mVar_ap, Mi.kV_some, Mi.mFrz_ap, Mi.kF_some, Mi.mMove_ap, Mi.kM_some, Mi.at0, Mi.atS, Mi.set0, Mi.setS, Mi.mT_ap, Mi.kT_ok, Mi.kT_exc, Mi.mNotT_ap, Mi.kN_ok, Mi.kN_exc, Mi.mAndT_ap, Mi.kA_ok, Mi.kA_exc, Mi.mOrT_ap, Mi.kO_ok, Mi.kO_exc, Mi.mAndV_ap, Mi.kAV_ok, Mi.mOrV_ap, Mi.kOV_ok, Mi.mIf_ap, Mi.kIf_ok, Mi.mChain_ap, Mi.kCh_ok, Mi.kCh1_ok, Mi.kCh2_ok, Mi.mSeq_ap, Mi.kS_nx, Mi.kS_rt, Mi.kS_exc, Mi.kS_bk, Mi.kS_ct, Mi.mNext_ap, Mi.mDrop_ap, Mi.kD_ok, Mi.kD_exc, Mi.mRet_ap, Mi.kR_ok, Mi.kR_exc, Mi.mRetN_ap, Mi.mIfS_ap, Mi.kI_ok, Mi.kI_exc, Mi.mAsg_ap, Mi.kG_ok, Mi.kG_exc, Mi.kG2_some, Mi.mgName_ap, Mi.mgTup_ap, Mi.mgCons_ap, Mi.kgs_some, Mi.mgNil_ap, Mi.mPar_ap, Mi.kP_ok, Mi.mPar3_ap, Mi.kP3_ok, Mi.ownAt_ap, Mi.kw_own, Mi.mSlotIx_ap, Mi.kX_some, Mi.kX2_ok, Mi.kX3_some, Mi.mCall_ap, Mi.kc_ok, Mi.kf_ok, Mi.kf_exc, Mi.mCallO_ap, Mi.kq_some, Mi.kq2_ok, Mi.kq3_some, Mi.kq4_ok, Mi.mSetIx_ap, Mi.ky_ok, Mi.ky2_some, Mi.ky3_ok, Mi.ky4_some, Mi.mItL_ap, Mi.kIL_ok, Mi.kRs_some, Mi.mItT_ap, Mi.kIT_ok, Mi.mRng1_ap, Mi.kr1_ok, Mi.mRng2_ap, Mi.kr2_ok, Mi.mFor_ap, Mi.kFo_ok, Mi.mLoop_nil, Mi.kl1_some, Mi.kl2_nx, Mi.kl2_ct, Mi.kl2_bk, Mi.kl2_rt, Mi.kl2_exc, Mi.mLc_ap, Mi.kLc_ok, Mi.lc_nil, Mi.kz1_some, Mi.kz2_ok, Mi.kz3_ok, Mi.mYes_ap, Mi.mAug_ap, Mi.kU_some, Mi.kU2_int, Mi.mTry_ap, Mi.kTr_nx, Mi.kTr_rt, Mi.mMeth_ap, Mi.kMe_lst, Mi.kMe_own, Mi.mAppend_ap, Mi.kAp_some, Mi.kAp2_ok, Mi.kAp3_some, Mi.dAdd_int, Mi.dAdd_str, Mi.dAdd_tup, Mi.dAdd_ll, Mi.dAdd_lo, Mi.dAdd_ol, Mi.dAdd_oo, Mi.dSub_int, Mi.dMul_int, Mi.dMod_int, Mi.dFdiv_int, Mi.dPow_int, Mi.dNeg_int, Mi.dDivmod_int, Mi.dGt_int, Mi.dGe_int, Mi.dLe_int, Mi.dLtI_int, Mi.dLt_int, Mi.dEq_int, Mi.dNe_int, Mi.dMax2_int, Mi.dMin2_int, Mi.fn1_ap, Mi.fn2_ap, Mi.dLen_tup, Mi.dLen_lst, Mi.dLen_cst, Mi.dLen_own, Mi.fnM_ap, Mi.kfn_nx, Mi.kfn_rt, Mi.kfn_exc, Mi.fnO_ap, Mi.kfo_nx, Mi.kfo_rt, Mi.env0, Mi.envN, Mi.envS, Mi.wipeN, Mi.wipeS, Mi.lit_own, Mi.lit_lst, Mi.lit_cst, Mi.ix_own, Mi.ix_lst, Mi.ix_cst, Mi.ix_tup, Mi.dix_own, Mi.dix_lst, Mi.dix_cst, Mi.dix_tup, Mi.rng0, Mi.toL, Mi.end_lawL, Mi.btw_int, Mi.btw_bl, Mi.btw_non, Mi.btw_str, Mi.is_non_int, Mi.is_bl_int, Mi.is_int_int, Mi.is_str_int, Mi.is_tup_int, Mi.is_lst_int, Mi.is_cst_int, Mi.is_own_int, Mi.is_non_bool, Mi.is_bl_bool, Mi.is_int_bool, Mi.is_str_bool, Mi.is_tup_bool, Mi.is_lst_bool, Mi.is_cst_bool, Mi.is_own_bool, Mi.is_non_tuple, Mi.is_bl_tuple, Mi.is_int_tuple, Mi.is_str_tuple, Mi.is_tup_tuple, Mi.is_lst_tuple, Mi.is_cst_tuple, Mi.is_own_tuple, Mi.is_non_list, Mi.is_bl_list, Mi.is_int_list, Mi.is_str_list, Mi.is_tup_list, Mi.is_lst_list, Mi.is_cst_list, Mi.is_own_list, Mi.is_non_str, Mi.is_bl_str, Mi.is_int_str, Mi.is_str_str, Mi.is_tup_str, Mi.is_lst_str, Mi.is_cst_str, Mi.is_own_str, Mi.cast_lit, Mi.mPart_ap, Mi.kPt_ok, Mi.mNoPart_ap, Mi.mSl_ap, Mi.kSl1_ok, Mi.kSl2_ok, Mi.kSl3_ok, Mi.dSl_tup, Mi.dSl_lst, Mi.dSl_cst, Mi.mZip_ap, Mi.kZ_tup, Mi.kZ_lst, Mi.mPick_ap, Mi.kPk_ok, Mi.kPk2_some, Mi.at_0, Mi.at_1, Mi.at_2, Mi.at_3, Mi.isT_non, Mi.isT_bl, Mi.isT_int, Mi.isT_str, Mi.isT_tup, Mi.isT_lst, Mi.isT_cst, Mi.isT_own, Mi.dInt_bl, Mi.dIs_f_non, Mi.dIs_t_non, Mi.dIs_f_bl, Mi.dIs_t_bl, Mi.dIs_f_int, Mi.dIs_t_int, Mi.dIs_f_str, Mi.dIs_t_str, Mi.dIs_f_tup, Mi.dIs_t_tup, Mi.dIs_f_lst, Mi.dIs_t_lst, Mi.dIs_f_own, Mi.dIs_t_own, Mi.dIs_f_cst, Mi.dIs_t_cst, Mi.mLR1_ap, Mi.kLR1_ok, Mi.mLR2_ap, Mi.kLR2_ok, Mi.kLR2b_ok, Mi.mCallB_ap, Mi.kcB_some, Mi.kcB1_ok, Mi.kcB2_some, Mi.kcB3_bl, Mi.kcB3_exc, Mi.mExtend_ap, Mi.kEx_some, Mi.kEx2_ok, Mi.kEx3_some, Mi.dNotIn2, Mi.dIn2, Mi.dIsB_tt, Mi.dIsB_ft, Mi.dNotB_tt, Mi.dNotB_ft, D.frz, frzs, D.plain, plains, Bool.and_self, Bool.and_true, Bool.true_and, Bool.and_false, Bool.false_and, List.length_cons, List.length_nil, List.length_set, Nat.reduceAdd, Nat.zero_add, Nat.reduceLT, Nat.reduceLeDiff, sizeLine_eq, if_true, if_false, Bool.not_true, Bool.not_false, Bool.false_eq_true, decide_true, decide_false, and_self, and_true, true_and, List.cons_append, List.nil_append, Option.map_some, Option.bind_some, Int.reduceToNat, Int.reducePow, Int.reduceNeg, Int.reduceEq, Int.reduceLT, Int.reduceLE, Int.reduceAdd, Int.reduceSub, Int.reduceMul, eq_self, Mi.dat, not_true_eq_false, not_false_eq_true, Bool.or_self, Bool.or_true, Bool.or_false, Bool.false_or, Bool.true_or, false_and, and_false, true_or, or_true, false_or, or_false]; rfl)
theorem v_between (d : D) (lo hi : Int) (h : dat d = true) : F_is_between [d, .int lo, .int hi] = .ok (.bl (btw d lo hi)) := by
  have hp := dat_plain h
  have hz := dat_frz h
  unfold F_is_between m_is_between
  by_cases c : isW d = true
  · obtain ⟨n, rfl⟩ := isW_int c
    simp only [Mi.kof_some, Mi.kof_none, Mi.mOp1_ap, Mi.k1_ok, Mi.k1_exc, Mi.mOp2_ap, Mi.k2a_ok, Mi.k2a_exc, Mi.k2b_ok, Mi.k2b_exc, Mi.mOpL_ap, Mi.kL_ok, Mi.kL_exc, Mi.mCons_ap, Mi.kca_ok, Mi.kca_exc, Mi.kcb_ok, Mi.kcb_exc, Mi.mNil_ap, Mi.mC_ap, Mi.mLst_ap, Mi.mTup_ap, Mi.kLst_ok, Mi.kTup_ok, Mi.mVar_ap, Mi.kV_some, Mi.mFrz_ap, Mi.kF_some, Mi.mMove_ap, Mi.kM_some, Mi.at0, Mi.atS, Mi.set0, Mi.setS, Mi.mT_ap, Mi.kT_ok, Mi.kT_exc, Mi.mNotT_ap, Mi.kN_ok, Mi.kN_exc, Mi.mAndT_ap, Mi.kA_ok, Mi.kA_exc, Mi.mOrT_ap, Mi.kO_ok, Mi.kO_exc, Mi.mAndV_ap, Mi.kAV_ok, Mi.mOrV_ap, Mi.kOV_ok, Mi.mIf_ap, Mi.kIf_ok, Mi.mChain_ap, Mi.kCh_ok, Mi.kCh1_ok, Mi.kCh2_ok, Mi.mSeq_ap, Mi.kS_nx, Mi.kS_rt, Mi.kS_exc, Mi.kS_bk, Mi.kS_ct, Mi.mNext_ap, Mi.mDrop_ap, Mi.kD_ok, Mi.kD_exc, Mi.mRet_ap, Mi.kR_ok, Mi.kR_exc, Mi.mRetN_ap, Mi.mIfS_ap, Mi.kI_ok, Mi.kI_exc, Mi.mAsg_ap, Mi.kG_ok, Mi.kG_exc, Mi.kG2_some, Mi.mgName_ap, Mi.mgTup_ap, Mi.mgCons_ap, Mi.kgs_some, Mi.mgNil_ap, Mi.mPar_ap, Mi.kP_ok, Mi.mPar3_ap, Mi.kP3_ok, Mi.ownAt_ap, Mi.kw_own, Mi.mSlotIx_ap, Mi.kX_some, Mi.kX2_ok, Mi.kX3_some, Mi.mCall_ap, Mi.kc_ok, Mi.kf_ok, Mi.kf_exc, Mi.mCallO_ap, Mi.kq_some, Mi.kq2_ok, Mi.kq3_some, Mi.kq4_ok, Mi.mSetIx_ap, Mi.ky_ok, Mi.ky2_some, Mi.ky3_ok, Mi.ky4_some, Mi.mItL_ap, Mi.kIL_ok, Mi.kRs_some, Mi.mItT_ap, Mi.kIT_ok, Mi.mRng1_ap, Mi.kr1_ok, Mi.mRng2_ap, Mi.kr2_ok, Mi.mFor_ap, Mi.kFo_ok, Mi.mLoop_nil, Mi.kl1_some, Mi.kl2_nx, Mi.kl2_ct, Mi.kl2_bk, Mi.kl2_rt, Mi.kl2_exc, Mi.mLc_ap, Mi.kLc_ok, Mi.lc_nil, Mi.kz1_some, Mi.kz2_ok, Mi.kz3_ok, Mi.mYes_ap, Mi.mAug_ap, Mi.kU_some, Mi.kU2_int, Mi.mTry_ap, Mi.kTr_nx, Mi.kTr_rt, Mi.mMeth_ap, Mi.kMe_lst, Mi.kMe_own, Mi.mAppend_ap, Mi.kAp_some, Mi.kAp2_ok, Mi.kAp3_some, Mi.dAdd_int, Mi.dAdd_str, Mi.dAdd_tup, Mi.dAdd_ll, Mi.dAdd_lo, Mi.dAdd_ol, Mi.dAdd_oo, Mi.dSub_int, Mi.dMul_int, Mi.dMod_int, Mi.dFdiv_int, Mi.dPow_int, Mi.dNeg_int, Mi.dDivmod_int, Mi.dGt_int, Mi.dGe_int, Mi.dLe_int, Mi.dLtI_int, Mi.dLt_int, Mi.dEq_int, Mi.dNe_int, Mi.dMax2_int, Mi.dMin2_int, Mi.fn1_ap, Mi.fn2_ap, Mi.dLen_tup, Mi.dLen_lst, Mi.dLen_cst, Mi.dLen_own, Mi.fnM_ap, Mi.kfn_nx, Mi.kfn_rt, Mi.kfn_exc, Mi.fnO_ap, Mi.kfo_nx, Mi.kfo_rt, Mi.env0, Mi.envN, Mi.envS, Mi.wipeN, Mi.wipeS, Mi.lit_own, Mi.lit_lst, Mi.lit_cst, Mi.ix_own, Mi.ix_lst, Mi.ix_cst, Mi.ix_tup, Mi.dix_own, Mi.dix_lst, Mi.dix_cst, Mi.dix_tup, Mi.rng0, Mi.toL, Mi.end_lawL, Mi.btw_int, Mi.btw_bl, Mi.btw_non, Mi.btw_str, Mi.is_non_int, Mi.is_bl_int, Mi.is_int_int, Mi.is_str_int, Mi.is_tup_int, Mi.is_lst_int, Mi.is_cst_int, Mi.is_own_int, Mi.is_non_bool, Mi.is_bl_bool, Mi.is_int_bool, Mi.is_str_bool, Mi.is_tup_bool, Mi.is_lst_bool, Mi.is_cst_bool, Mi.is_own_bool, Mi.is_non_tuple, Mi.is_bl_tuple, Mi.is_int_tuple, Mi.is_str_tuple, Mi.is_tup_tuple, Mi.is_lst_tuple, Mi.is_cst_tuple, Mi.is_own_tuple, Mi.is_non_list, Mi.is_bl_list, Mi.is_int_list, Mi.is_str_list, Mi.is_tup_list, Mi.is_lst_list, Mi.is_cst_list, Mi.is_own_list, Mi.is_non_str, Mi.is_bl_str, Mi.is_int_str, Mi.is_str_str, Mi.is_tup_str, Mi.is_lst_str, Mi.is_cst_str, Mi.is_own_str, Mi.cast_lit, Mi.mPart_ap, Mi.kPt_ok, Mi.mNoPart_ap, Mi.mSl_ap, Mi.kSl1_ok, Mi.kSl2_ok, Mi.kSl3_ok, Mi.dSl_tup, Mi.dSl_lst, Mi.dSl_cst, Mi.mZip_ap, Mi.kZ_tup, Mi.kZ_lst, Mi.mPick_ap, Mi.kPk_ok, Mi.kPk2_some, Mi.at_0, Mi.at_1, Mi.at_2, Mi.at_3, Mi.isT_non, Mi.isT_bl, Mi.isT_int, Mi.isT_str, Mi.isT_tup, Mi.isT_lst, Mi.isT_cst, Mi.isT_own, Mi.dInt_bl, Mi.dIs_f_non, Mi.dIs_t_non, Mi.dIs_f_bl, Mi.dIs_t_bl, Mi.dIs_f_int, Mi.dIs_t_int, Mi.dIs_f_str, Mi.dIs_t_str, Mi.dIs_f_tup, Mi.dIs_t_tup, Mi.dIs_f_lst, Mi.dIs_t_lst, Mi.dIs_f_own, Mi.dIs_t_own, Mi.dIs_f_cst, Mi.dIs_t_cst, Mi.mLR1_ap, Mi.kLR1_ok, Mi.mLR2_ap, Mi.kLR2_ok, Mi.kLR2b_ok, Mi.mCallB_ap, Mi.kcB_some, Mi.kcB1_ok, Mi.kcB2_some, Mi.kcB3_bl, Mi.kcB3_exc, Mi.mExtend_ap, Mi.kEx_some, Mi.kEx2_ok, Mi.kEx3_some, Mi.dNotIn2, Mi.dIn2, Mi.dIsB_tt, Mi.dIsB_ft, Mi.dNotB_tt, Mi.dNotB_ft, D.frz, frzs, D.plain, plains, Bool.and_self, Bool.and_true, Bool.true_and, Bool.and_false, Bool.false_and, List.length_cons, List.length_nil, List.length_set, Nat.reduceAdd, Nat.zero_add, Nat.reduceLT, Nat.reduceLeDiff, sizeLine_eq, if_true, if_false, Bool.not_true, Bool.not_false, Bool.false_eq_true, decide_true, decide_false, and_self, and_true, true_and, List.cons_append, List.nil_append, Option.map_some, Option.bind_some, Int.reduceToNat, Int.reducePow, Int.reduceNeg, Int.reduceEq, Int.reduceLT, Int.reduceLE, Int.reduceAdd, Int.reduceSub, Int.reduceMul, eq_self, Mi.dat, not_true_eq_false, not_false_eq_true, Bool.or_self, Bool.or_true, Bool.or_false, Bool.false_or, Bool.true_or, false_and, and_false, true_or, or_true, false_or, or_false, v_is_whole _ h, c, btw]
    by_cases c2 : lo ≤ n
    · simp only [c2, Mi.kof_some, Mi.kof_none, Mi.mOp1_ap, Mi.k1_ok, Mi.k1_exc, Mi.mOp2_ap, Mi.k2a_ok, Mi.k2a_exc, Mi.k2b_ok, Mi.k2b_exc, Mi.mOpL_ap, Mi.kL_ok, Mi.kL_exc, Mi.mCons_ap, Mi.kca_ok, Mi.kca_exc, Mi.kcb_ok, Mi.kcb_exc, Mi.mNil_ap, Mi.mC_ap, Mi.mLst_ap, Mi.mTup_ap, Mi.kLst_ok, Mi.kTup_ok, Mi.mVar_ap, Mi.kV_some, Mi.mFrz_ap, Mi.kF_some, Mi.mMove_ap, Mi.kM_some, Mi.at0, Mi.atS, Mi.set0, Mi.setS, Mi.mT_ap, Mi.kT_ok, Mi.kT_exc, Mi.mNotT_ap, Mi.kN_ok, Mi.kN_exc, Mi.mAndT_ap, Mi.kA_ok, Mi.kA_exc, Mi.mOrT_ap, Mi.kO_ok, Mi.kO_exc, Mi.mAndV_ap, Mi.kAV_ok, Mi.mOrV_ap, Mi.kOV_ok, Mi.mIf_ap, Mi.kIf_ok, Mi.mChain_ap, Mi.kCh_ok, Mi.kCh1_ok, Mi.kCh2_ok, Mi.mSeq_ap, Mi.kS_nx, Mi.kS_rt, Mi.kS_exc, Mi.kS_bk, Mi.kS_ct, Mi.mNext_ap, Mi.mDrop_ap, Mi.kD_ok, Mi.kD_exc, Mi.mRet_ap, Mi.kR_ok, Mi.kR_exc, Mi.mRetN_ap, Mi.mIfS_ap, Mi.kI_ok, Mi.kI_exc, Mi.mAsg_ap, Mi.kG_ok, Mi.kG_exc, Mi.kG2_some, Mi.mgName_ap, Mi.mgTup_ap, Mi.mgCons_ap, Mi.kgs_some, Mi.mgNil_ap, Mi.mPar_ap, Mi.kP_ok, Mi.mPar3_ap, Mi.kP3_ok, Mi.ownAt_ap, Mi.kw_own, Mi.mSlotIx_ap, Mi.kX_some, Mi.kX2_ok, Mi.kX3_some, Mi.mCall_ap, Mi.kc_ok, Mi.kf_ok, Mi.kf_exc, Mi.mCallO_ap, Mi.kq_some, Mi.kq2_ok, Mi.kq3_some, Mi.kq4_ok, Mi.mSetIx_ap, Mi.ky_ok, Mi.ky2_some, Mi.ky3_ok, Mi.ky4_some, Mi.mItL_ap, Mi.kIL_ok, Mi.kRs_some, Mi.mItT_ap, Mi.kIT_ok, Mi.mRng1_ap, Mi.kr1_ok, Mi.mRng2_ap, Mi.kr2_ok, Mi.mFor_ap, Mi.kFo_ok, Mi.mLoop_nil, Mi.kl1_some, Mi.kl2_nx, Mi.kl2_ct, Mi.kl2_bk, Mi.kl2_rt, Mi.kl2_exc, Mi.mLc_ap, Mi.kLc_ok, Mi.lc_nil, Mi.kz1_some, Mi.kz2_ok, Mi.kz3_ok, Mi.mYes_ap, Mi.mAug_ap, Mi.kU_some, Mi.kU2_int, Mi.mTry_ap, Mi.kTr_nx, Mi.kTr_rt, Mi.mMeth_ap, Mi.kMe_lst, Mi.kMe_own, Mi.mAppend_ap, Mi.kAp_some, Mi.kAp2_ok, Mi.kAp3_some, Mi.dAdd_int, Mi.dAdd_str, Mi.dAdd_tup, Mi.dAdd_ll, Mi.dAdd_lo, Mi.dAdd_ol, Mi.dAdd_oo, Mi.dSub_int, Mi.dMul_int, Mi.dMod_int, Mi.dFdiv_int, Mi.dPow_int, Mi.dNeg_int, Mi.dDivmod_int, Mi.dGt_int, Mi.dGe_int, Mi.dLe_int, Mi.dLtI_int, Mi.dLt_int, Mi.dEq_int, Mi.dNe_int, Mi.dMax2_int, Mi.dMin2_int, Mi.fn1_ap, Mi.fn2_ap, Mi.dLen_tup, Mi.dLen_lst, Mi.dLen_cst, Mi.dLen_own, Mi.fnM_ap, Mi.kfn_nx, Mi.kfn_rt, Mi.kfn_exc, Mi.fnO_ap, Mi.kfo_nx, Mi.kfo_rt, Mi.env0, Mi.envN, Mi.envS, Mi.wipeN, Mi.wipeS, Mi.lit_own, Mi.lit_lst, Mi.lit_cst, Mi.ix_own, Mi.ix_lst, Mi.ix_cst, Mi.ix_tup, Mi.dix_own, Mi.dix_lst, Mi.dix_cst, Mi.dix_tup, Mi.rng0, Mi.toL, Mi.end_lawL, Mi.btw_int, Mi.btw_bl, Mi.btw_non, Mi.btw_str, Mi.is_non_int, Mi.is_bl_int, Mi.is_int_int, Mi.is_str_int, Mi.is_tup_int, Mi.is_lst_int, Mi.is_cst_int, Mi.is_own_int, Mi.is_non_bool, Mi.is_bl_bool, Mi.is_int_bool, Mi.is_str_bool, Mi.is_tup_bool, Mi.is_lst_bool, Mi.is_cst_bool, Mi.is_own_bool, Mi.is_non_tuple, Mi.is_bl_tuple, Mi.is_int_tuple, Mi.is_str_tuple, Mi.is_tup_tuple, Mi.is_lst_tuple, Mi.is_cst_tuple, Mi.is_own_tuple, Mi.is_non_list, Mi.is_bl_list, Mi.is_int_list, Mi.is_str_list, Mi.is_tup_list, Mi.is_lst_list, Mi.is_cst_list, Mi.is_own_list, Mi.is_non_str, Mi.is_bl_str, Mi.is_int_str, Mi.is_str_str, Mi.is_tup_str, Mi.is_lst_str, Mi.is_cst_str, Mi.is_own_str, Mi.cast_lit, Mi.mPart_ap, Mi.kPt_ok, Mi.mNoPart_ap, Mi.mSl_ap, Mi.kSl1_ok, Mi.kSl2_ok, Mi.kSl3_ok, Mi.dSl_tup, Mi.dSl_lst, Mi.dSl_cst, Mi.mZip_ap, Mi.kZ_tup, Mi.kZ_lst, Mi.mPick_ap, Mi.kPk_ok, Mi.kPk2_some, Mi.at_0, Mi.at_1, Mi.at_2, Mi.at_3, Mi.isT_non, Mi.isT_bl, Mi.isT_int, Mi.isT_str, Mi.isT_tup, Mi.isT_lst, Mi.isT_cst, Mi.isT_own, Mi.dInt_bl, Mi.dIs_f_non, Mi.dIs_t_non, Mi.dIs_f_bl, Mi.dIs_t_bl, Mi.dIs_f_int, Mi.dIs_t_int, Mi.dIs_f_str, Mi.dIs_t_str, Mi.dIs_f_tup, Mi.dIs_t_tup, Mi.dIs_f_lst, Mi.dIs_t_lst, Mi.dIs_f_own, Mi.dIs_t_own, Mi.dIs_f_cst, Mi.dIs_t_cst, Mi.mLR1_ap, Mi.kLR1_ok, Mi.mLR2_ap, Mi.kLR2_ok, Mi.kLR2b_ok, Mi.mCallB_ap, Mi.kcB_some, Mi.kcB1_ok, Mi.kcB2_some, Mi.kcB3_bl, Mi.kcB3_exc, Mi.mExtend_ap, Mi.kEx_some, Mi.kEx2_ok, Mi.kEx3_some, Mi.dNotIn2, Mi.dIn2, Mi.dIsB_tt, Mi.dIsB_ft, Mi.dNotB_tt, Mi.dNotB_ft, D.frz, frzs, D.plain, plains, Bool.and_self, Bool.and_true, Bool.true_and, Bool.and_false, Bool.false_and, List.length_cons, List.length_nil, List.length_set, Nat.reduceAdd, Nat.zero_add, Nat.reduceLT, Nat.reduceLeDiff, sizeLine_eq, if_true, if_false, Bool.not_true, Bool.not_false, Bool.false_eq_true, decide_true, decide_false, and_self, and_true, true_and, List.cons_append, List.nil_append, Option.map_some, Option.bind_some, Int.reduceToNat, Int.reducePow, Int.reduceNeg, Int.reduceEq, Int.reduceLT, Int.reduceLE, Int.reduceAdd, Int.reduceSub, Int.reduceMul, eq_self, Mi.dat, not_true_eq_false, not_false_eq_true, Bool.or_self, Bool.or_true, Bool.or_false, Bool.false_or, Bool.true_or, false_and, and_false, true_or, or_true, false_or, or_false]
    · simp only [c2, Mi.kof_some, Mi.kof_none, Mi.mOp1_ap, Mi.k1_ok, Mi.k1_exc, Mi.mOp2_ap, Mi.k2a_ok, Mi.k2a_exc, Mi.k2b_ok, Mi.k2b_exc, Mi.mOpL_ap, Mi.kL_ok, Mi.kL_exc, Mi.mCons_ap, Mi.kca_ok, Mi.kca_exc, Mi.kcb_ok, Mi.kcb_exc, Mi.mNil_ap, Mi.mC_ap, Mi.mLst_ap, Mi.mTup_ap, Mi.kLst_ok, Mi.kTup_ok, Mi.mVar_ap, Mi.kV_some, Mi.mFrz_ap, Mi.kF_some, Mi.mMove_ap, Mi.kM_some, Mi.at0, Mi.atS, Mi.set0, Mi.setS, Mi.mT_ap, Mi.kT_ok, Mi.kT_exc, Mi.mNotT_ap, Mi.kN_ok, Mi.kN_exc, Mi.mAndT_ap, Mi.kA_ok, Mi.kA_exc, Mi.mOrT_ap, Mi.kO_ok, Mi.kO_exc, Mi.mAndV_ap, Mi.kAV_ok, Mi.mOrV_ap, Mi.kOV_ok, Mi.mIf_ap, Mi.kIf_ok, Mi.mChain_ap, Mi.kCh_ok, Mi.kCh1_ok, Mi.kCh2_ok, Mi.mSeq_ap, Mi.kS_nx, Mi.kS_rt, Mi.kS_exc, Mi.kS_bk, Mi.kS_ct, Mi.mNext_ap, Mi.mDrop_ap, Mi.kD_ok, Mi.kD_exc, Mi.mRet_ap, Mi.kR_ok, Mi.kR_exc, Mi.mRetN_ap, Mi.mIfS_ap, Mi.kI_ok, Mi.kI_exc, Mi.mAsg_ap, Mi.kG_ok, Mi.kG_exc, Mi.kG2_some, Mi.mgName_ap, Mi.mgTup_ap, Mi.mgCons_ap, Mi.kgs_some, Mi.mgNil_ap, Mi.mPar_ap, Mi.kP_ok, Mi.mPar3_ap, Mi.kP3_ok, Mi.ownAt_ap, Mi.kw_own, Mi.mSlotIx_ap, Mi.kX_some, Mi.kX2_ok, Mi.kX3_some, Mi.mCall_ap, Mi.kc_ok, Mi.kf_ok, Mi.kf_exc, Mi.mCallO_ap, Mi.kq_some, Mi.kq2_ok, Mi.kq3_some, Mi.kq4_ok, Mi.mSetIx_ap, Mi.ky_ok, Mi.ky2_some, Mi.ky3_ok, Mi.ky4_some, Mi.mItL_ap, Mi.kIL_ok, Mi.kRs_some, Mi.mItT_ap, Mi.kIT_ok, Mi.mRng1_ap, Mi.kr1_ok, Mi.mRng2_ap, Mi.kr2_ok, Mi.mFor_ap, Mi.kFo_ok, Mi.mLoop_nil, Mi.kl1_some, Mi.kl2_nx, Mi.kl2_ct, Mi.kl2_bk, Mi.kl2_rt, Mi.kl2_exc, Mi.mLc_ap, Mi.kLc_ok, Mi.lc_nil, Mi.kz1_some, Mi.kz2_ok, Mi.kz3_ok, Mi.mYes_ap, Mi.mAug_ap, Mi.kU_some, Mi.kU2_int, Mi.mTry_ap, Mi.kTr_nx, Mi.kTr_rt, Mi.mMeth_ap, Mi.kMe_lst, Mi.kMe_own, Mi.mAppend_ap, Mi.kAp_some, Mi.kAp2_ok, Mi.kAp3_some, Mi.dAdd_int, Mi.dAdd_str, Mi.dAdd_tup, Mi.dAdd_ll, Mi.dAdd_lo, Mi.dAdd_ol, Mi.dAdd_oo, Mi.dSub_int, Mi.dMul_int, Mi.dMod_int, Mi.dFdiv_int, Mi.dPow_int, Mi.dNeg_int, Mi.dDivmod_int, Mi.dGt_int, Mi.dGe_int, Mi.dLe_int, Mi.dLtI_int, Mi.dLt_int, Mi.dEq_int, Mi.dNe_int, Mi.dMax2_int, Mi.dMin2_int, Mi.fn1_ap, Mi.fn2_ap, Mi.dLen_tup, Mi.dLen_lst, Mi.dLen_cst, Mi.dLen_own, Mi.fnM_ap, Mi.kfn_nx, Mi.kfn_rt, Mi.kfn_exc, Mi.fnO_ap, Mi.kfo_nx, Mi.kfo_rt, Mi.env0, Mi.envN, Mi.envS, Mi.wipeN, Mi.wipeS, Mi.lit_own, Mi.lit_lst, Mi.lit_cst, Mi.ix_own, Mi.ix_lst, Mi.ix_cst, Mi.ix_tup, Mi.dix_own, Mi.dix_lst, Mi.dix_cst, Mi.dix_tup, Mi.rng0, Mi.toL, Mi.end_lawL, Mi.btw_int, Mi.btw_bl, Mi.btw_non, Mi.btw_str, Mi.is_non_int, Mi.is_bl_int, Mi.is_int_int, Mi.is_str_int, Mi.is_tup_int, Mi.is_lst_int, Mi.is_cst_int, Mi.is_own_int, Mi.is_non_bool, Mi.is_bl_bool, Mi.is_int_bool, Mi.is_str_bool, Mi.is_tup_bool, Mi.is_lst_bool, Mi.is_cst_bool, Mi.is_own_bool, Mi.is_non_tuple, Mi.is_bl_tuple, Mi.is_int_tuple, Mi.is_str_tuple, Mi.is_tup_tuple, Mi.is_lst_tuple, Mi.is_cst_tuple, Mi.is_own_tuple, Mi.is_non_list, Mi.is_bl_list, Mi.is_int_list, Mi.is_str_list, Mi.is_tup_list, Mi.is_lst_list, Mi.is_cst_list, Mi.is_own_list, Mi.is_non_str, Mi.is_bl_str, Mi.is_int_str, Mi.is_str_str, Mi.is_tup_str, Mi.is_lst_str, Mi.is_cst_str, Mi.is_own_str, Mi.cast_lit, Mi.mPart_ap, Mi.kPt_ok, Mi.mNoPart_ap, Mi.mSl_ap, Mi.kSl1_ok, Mi.kSl2_ok, Mi.kSl3_ok, Mi.dSl_tup, Mi.dSl_lst, Mi.dSl_cst, Mi.mZip_ap, Mi.kZ_tup, Mi.kZ_lst, Mi.mPick_ap, Mi.kPk_ok, Mi.kPk2_some, Mi.at_0, Mi.at_1, Mi.at_2, Mi.at_3, Mi.isT_non, Mi.isT_bl, Mi.isT_int, Mi.isT_str, Mi.isT_tup, Mi.isT_lst, Mi.isT_cst, Mi.isT_own, Mi.dInt_bl, Mi.dIs_f_non, Mi.dIs_t_non, Mi.dIs_f_bl, Mi.dIs_t_bl, Mi.dIs_f_int, Mi.dIs_t_int, Mi.dIs_f_str, Mi.dIs_t_str, Mi.dIs_f_tup, Mi.dIs_t_tup, Mi.dIs_f_lst, Mi.dIs_t_lst, Mi.dIs_f_own, Mi.dIs_t_own, Mi.dIs_f_cst, Mi.dIs_t_cst, Mi.mLR1_ap, Mi.kLR1_ok, Mi.mLR2_ap, Mi.kLR2_ok, Mi.kLR2b_ok, Mi.mCallB_ap, Mi.kcB_some, Mi.kcB1_ok, Mi.kcB2_some, Mi.kcB3_bl, Mi.kcB3_exc, Mi.mExtend_ap, Mi.kEx_some, Mi.kEx2_ok, Mi.kEx3_some, Mi.dNotIn2, Mi.dIn2, Mi.dIsB_tt, Mi.dIsB_ft, Mi.dNotB_tt, Mi.dNotB_ft, D.frz, frzs, D.plain, plains, Bool.and_self, Bool.and_true, Bool.true_and, Bool.and_false, Bool.false_and, List.length_cons, List.length_nil, List.length_set, Nat.reduceAdd, Nat.zero_add, Nat.reduceLT, Nat.reduceLeDiff, sizeLine_eq, if_true, if_false, Bool.not_true, Bool.not_false, Bool.false_eq_true, decide_true, decide_false, and_self, and_true, true_and, List.cons_append, List.nil_append, Option.map_some, Option.bind_some, Int.reduceToNat, Int.reducePow, Int.reduceNeg, Int.reduceEq, Int.reduceLT, Int.reduceLE, Int.reduceAdd, Int.reduceSub, Int.reduceMul, eq_self, Mi.dat, not_true_eq_false, not_false_eq_true, Bool.or_self, Bool.or_true, Bool.or_false, Bool.false_or, Bool.true_or, false_and, and_false, true_or, or_true, false_or, or_false]
  · have c : isW d = false := by simpa using c
    have e : btw d lo hi = false := by cases d <;> first | rfl | cases c
    simp only [Mi.fnM_ap, Mi.envS, Mi.envN, Mi.env0, Mi.mRet_ap, Mi.mAndV_ap, Mi.mCall_ap, Mi.mCons_ap, Mi.mVar_ap, Mi.at0, Mi.kV_some, hp, if_true, Mi.kca_ok, Mi.mNil_ap, Mi.kcb_ok, Mi.kc_ok, frzs, hz, v_is_whole _ h, c, e, Mi.kof_some, Mi.kof_none, Mi.mOp1_ap, Mi.k1_ok, Mi.k1_exc, Mi.mOp2_ap, Mi.k2a_ok, Mi.k2a_exc, Mi.k2b_ok, Mi.k2b_exc, Mi.mOpL_ap, Mi.kL_ok, Mi.kL_exc, Mi.mCons_ap, Mi.kca_ok, Mi.kca_exc, Mi.kcb_ok, Mi.kcb_exc, Mi.mNil_ap, Mi.mC_ap, Mi.mLst_ap, Mi.mTup_ap, Mi.kLst_ok, Mi.kTup_ok, Mi.mVar_ap, Mi.kV_some, Mi.mFrz_ap, Mi.kF_some, Mi.mMove_ap, Mi.kM_some, Mi.at0, Mi.atS, Mi.set0, Mi.setS, Mi.mT_ap, Mi.kT_ok, Mi.kT_exc, Mi.mNotT_ap, Mi.kN_ok, Mi.kN_exc, Mi.mAndT_ap, Mi.kA_ok, Mi.kA_exc, Mi.mOrT_ap, Mi.kO_ok, Mi.kO_exc, Mi.mAndV_ap, Mi.kAV_ok, Mi.mOrV_ap, Mi.kOV_ok, Mi.mIf_ap, Mi.kIf_ok, Mi.mChain_ap, Mi.kCh_ok, Mi.kCh1_ok, Mi.kCh2_ok, Mi.mSeq_ap, Mi.kS_nx, Mi.kS_rt, Mi.kS_exc, Mi.kS_bk, Mi.kS_ct, Mi.mNext_ap, Mi.mDrop_ap, Mi.kD_ok, Mi.kD_exc, Mi.mRet_ap, Mi.kR_ok, Mi.kR_exc, Mi.mRetN_ap, Mi.mIfS_ap, Mi.kI_ok, Mi.kI_exc, Mi.mAsg_ap, Mi.kG_ok, Mi.kG_exc, Mi.kG2_some, Mi.mgName_ap, Mi.mgTup_ap, Mi.mgCons_ap, Mi.kgs_some, Mi.mgNil_ap, Mi.mPar_ap, Mi.kP_ok, Mi.mPar3_ap, Mi.kP3_ok, Mi.ownAt_ap, Mi.kw_own, Mi.mSlotIx_ap, Mi.kX_some, Mi.kX2_ok, Mi.kX3_some, Mi.mCall_ap, Mi.kc_ok, Mi.kf_ok, Mi.kf_exc, Mi.mCallO_ap, Mi.kq_some, Mi.kq2_ok, Mi.kq3_some, Mi.kq4_ok, Mi.mSetIx_ap, Mi.ky_ok, Mi.ky2_some, Mi.ky3_ok, Mi.ky4_some, Mi.mItL_ap, Mi.kIL_ok, Mi.kRs_some, Mi.mItT_ap, Mi.kIT_ok, Mi.mRng1_ap, Mi.kr1_ok, Mi.mRng2_ap, Mi.kr2_ok, Mi.mFor_ap, Mi.kFo_ok, Mi.mLoop_nil, Mi.kl1_some, Mi.kl2_nx, Mi.kl2_ct, Mi.kl2_bk, Mi.kl2_rt, Mi.kl2_exc, Mi.mLc_ap, Mi.kLc_ok, Mi.lc_nil, Mi.kz1_some, Mi.kz2_ok, Mi.kz3_ok, Mi.mYes_ap, Mi.mAug_ap, Mi.kU_some, Mi.kU2_int, Mi.mTry_ap, Mi.kTr_nx, Mi.kTr_rt, Mi.mMeth_ap, Mi.kMe_lst, Mi.kMe_own, Mi.mAppend_ap, Mi.kAp_some, Mi.kAp2_ok, Mi.kAp3_some, Mi.dAdd_int, Mi.dAdd_str, Mi.dAdd_tup, Mi.dAdd_ll, Mi.dAdd_lo, Mi.dAdd_ol, Mi.dAdd_oo, Mi.dSub_int, Mi.dMul_int, Mi.dMod_int, Mi.dFdiv_int, Mi.dPow_int, Mi.dNeg_int, Mi.dDivmod_int, Mi.dGt_int, Mi.dGe_int, Mi.dLe_int, Mi.dLtI_int, Mi.dLt_int, Mi.dEq_int, Mi.dNe_int, Mi.dMax2_int, Mi.dMin2_int, Mi.fn1_ap, Mi.fn2_ap, Mi.dLen_tup, Mi.dLen_lst, Mi.dLen_cst, Mi.dLen_own, Mi.fnM_ap, Mi.kfn_nx, Mi.kfn_rt, Mi.kfn_exc, Mi.fnO_ap, Mi.kfo_nx, Mi.kfo_rt, Mi.env0, Mi.envN, Mi.envS, Mi.wipeN, Mi.wipeS, Mi.lit_own, Mi.lit_lst, Mi.lit_cst, Mi.ix_own, Mi.ix_lst, Mi.ix_cst, Mi.ix_tup, Mi.dix_own, Mi.dix_lst, Mi.dix_cst, Mi.dix_tup, Mi.rng0, Mi.toL, Mi.end_lawL, Mi.btw_int, Mi.btw_bl, Mi.btw_non, Mi.btw_str, Mi.is_non_int, Mi.is_bl_int, Mi.is_int_int, Mi.is_str_int, Mi.is_tup_int, Mi.is_lst_int, Mi.is_cst_int, Mi.is_own_int, Mi.is_non_bool, Mi.is_bl_bool, Mi.is_int_bool, Mi.is_str_bool, Mi.is_tup_bool, Mi.is_lst_bool, Mi.is_cst_bool, Mi.is_own_bool, Mi.is_non_tuple, Mi.is_bl_tuple, Mi.is_int_tuple, Mi.is_str_tuple, Mi.is_tup_tuple, Mi.is_lst_tuple, Mi.is_cst_tuple, Mi.is_own_tuple, Mi.is_non_list, Mi.is_bl_list, Mi.is_int_list, Mi.is_str_list, Mi.is_tup_list, Mi.is_lst_list, Mi.is_cst_list, Mi.is_own_list, Mi.is_non_str, Mi.is_bl_str, Mi.is_int_str, Mi.is_str_str, Mi.is_tup_str, Mi.is_lst_str, Mi.is_cst_str, Mi.is_own_str, Mi.cast_lit, Mi.mPart_ap, Mi.kPt_ok, Mi.mNoPart_ap, Mi.mSl_ap, Mi.kSl1_ok, Mi.kSl2_ok, Mi.kSl3_ok, Mi.dSl_tup, Mi.dSl_lst, Mi.dSl_cst, Mi.mZip_ap, Mi.kZ_tup, Mi.kZ_lst, Mi.mPick_ap, Mi.kPk_ok, Mi.kPk2_some, Mi.at_0, Mi.at_1, Mi.at_2, Mi.at_3, Mi.isT_non, Mi.isT_bl, Mi.isT_int, Mi.isT_str, Mi.isT_tup, Mi.isT_lst, Mi.isT_cst, Mi.isT_own, Mi.dInt_bl, Mi.dIs_f_non, Mi.dIs_t_non, Mi.dIs_f_bl, Mi.dIs_t_bl, Mi.dIs_f_int, Mi.dIs_t_int, Mi.dIs_f_str, Mi.dIs_t_str, Mi.dIs_f_tup, Mi.dIs_t_tup, Mi.dIs_f_lst, Mi.dIs_t_lst, Mi.dIs_f_own, Mi.dIs_t_own, Mi.dIs_f_cst, Mi.dIs_t_cst, Mi.mLR1_ap, Mi.kLR1_ok, Mi.mLR2_ap, Mi.kLR2_ok, Mi.kLR2b_ok, Mi.mCallB_ap, Mi.kcB_some, Mi.kcB1_ok, Mi.kcB2_some, Mi.kcB3_bl, Mi.kcB3_exc, Mi.mExtend_ap, Mi.kEx_some, Mi.kEx2_ok, Mi.kEx3_some, Mi.dNotIn2, Mi.dIn2, Mi.dIsB_tt, Mi.dIsB_ft, Mi.dNotB_tt, Mi.dNotB_ft, D.frz, frzs, D.plain, plains, Bool.and_self, Bool.and_true, Bool.true_and, Bool.and_false, Bool.false_and, List.length_cons, List.length_nil, List.length_set, Nat.reduceAdd, Nat.zero_add, Nat.reduceLT, Nat.reduceLeDiff, sizeLine_eq, if_true, if_false, Bool.not_true, Bool.not_false, Bool.false_eq_true, decide_true, decide_false, and_self, and_true, true_and, List.cons_append, List.nil_append, Option.map_some, Option.bind_some, Int.reduceToNat, Int.reducePow, Int.reduceNeg, Int.reduceEq, Int.reduceLT, Int.reduceLE, Int.reduceAdd, Int.reduceSub, Int.reduceMul, eq_self, Mi.dat, not_true_eq_false, not_false_eq_true, Bool.or_self, Bool.or_true, Bool.or_false, Bool.false_or, Bool.true_or, false_and, and_false, true_or, or_true, false_or, or_false]
theorem vb_int (n lo hi : Int) : F_is_between [.int n, .int lo, .int hi] = .ok (.bl (decide (lo ≤ n) && decide (n ≤ hi))) := v_between _ lo hi rfl
theorem vb_no {d : D} {lo hi : Int} (h : dat d = true) (hb : btw d lo hi = false) : F_is_between [d, .int lo, .int hi] = .ok (.bl false) := by rw [v_between d lo hi h, hb]
theorem v_take (z m : Int) (h : 0 < m) (h2 : m < 2 ^ 64) : F_w_take [.int z] [.int m] = .ok (.int (z % m)) [.int (z / m)] := by
  have c := cdivw_small (i := z) h h2
  unfold F_w_take m_w_take
  simp only [Mi.kof_some, Mi.kof_none, Mi.mOp1_ap, Mi.k1_ok, Mi.k1_exc, Mi.mOp2_ap, Mi.k2a_ok, Mi.k2a_exc, Mi.k2b_ok, Mi.k2b_exc, Mi.mOpL_ap, Mi.kL_ok, Mi.kL_exc, Mi.mCons_ap, Mi.kca_ok, Mi.kca_exc, Mi.kcb_ok, Mi.kcb_exc, Mi.mNil_ap, Mi.mC_ap, Mi.mLst_ap, Mi.mTup_ap, Mi.kLst_ok, Mi.kTup_ok, Mi.mVar_ap, Mi.kV_some, Mi.mFrz_ap, Mi.kF_some, Mi.mMove_ap, Mi.kM_some, Mi.at0, Mi.atS, Mi.set0, Mi.setS, Mi.mT_ap, Mi.kT_ok, Mi.kT_exc, Mi.mNotT_ap, Mi.kN_ok, Mi.kN_exc, Mi.mAndT_ap, Mi.kA_ok, Mi.kA_exc, Mi.mOrT_ap, Mi.kO_ok, Mi.kO_exc, Mi.mAndV_ap, Mi.kAV_ok, Mi.mOrV_ap, Mi.kOV_ok, Mi.mIf_ap, Mi.kIf_ok, Mi.mChain_ap, Mi.kCh_ok, Mi.kCh1_ok, Mi.kCh2_ok, Mi.mSeq_ap, Mi.kS_nx, Mi.kS_rt, Mi.kS_exc, Mi.kS_bk, Mi.kS_ct, Mi.mNext_ap, Mi.mDrop_ap, Mi.kD_ok, Mi.kD_exc, Mi.mRet_ap, Mi.kR_ok, Mi.kR_exc, Mi.mRetN_ap, Mi.mIfS_ap, Mi.kI_ok, Mi.kI_exc, Mi.mAsg_ap, Mi.kG_ok, Mi.kG_exc, Mi.kG2_some, Mi.mgName_ap, Mi.mgTup_ap, Mi.mgCons_ap, Mi.kgs_some, Mi.mgNil_ap, Mi.mPar_ap, Mi.kP_ok, Mi.mPar3_ap, Mi.kP3_ok, Mi.ownAt_ap, Mi.kw_own, Mi.mSlotIx_ap, Mi.kX_some, Mi.kX2_ok, Mi.kX3_some, Mi.mCall_ap, Mi.kc_ok, Mi.kf_ok, Mi.kf_exc, Mi.mCallO_ap, Mi.kq_some, Mi.kq2_ok, Mi.kq3_some, Mi.kq4_ok, Mi.mSetIx_ap, Mi.ky_ok, Mi.ky2_some, Mi.ky3_ok, Mi.ky4_some, Mi.mItL_ap, Mi.kIL_ok, Mi.kRs_some, Mi.mItT_ap, Mi.kIT_ok, Mi.mRng1_ap, Mi.kr1_ok, Mi.mRng2_ap, Mi.kr2_ok, Mi.mFor_ap, Mi.kFo_ok, Mi.mLoop_nil, Mi.kl1_some, Mi.kl2_nx, Mi.kl2_ct, Mi.kl2_bk, Mi.kl2_rt, Mi.kl2_exc, Mi.mLc_ap, Mi.kLc_ok, Mi.lc_nil, Mi.kz1_some, Mi.kz2_ok, Mi.kz3_ok, Mi.mYes_ap, Mi.mAug_ap, Mi.kU_some, Mi.kU2_int, Mi.mTry_ap, Mi.kTr_nx, Mi.kTr_rt, Mi.mMeth_ap, Mi.kMe_lst, Mi.kMe_own, Mi.mAppend_ap, Mi.kAp_some, Mi.kAp2_ok, Mi.kAp3_some, Mi.dAdd_int, Mi.dAdd_str, Mi.dAdd_tup, Mi.dAdd_ll, Mi.dAdd_lo, Mi.dAdd_ol, Mi.dAdd_oo, Mi.dSub_int, Mi.dMul_int, Mi.dMod_int, Mi.dFdiv_int, Mi.dPow_int, Mi.dNeg_int, Mi.dDivmod_int, Mi.dGt_int, Mi.dGe_int, Mi.dLe_int, Mi.dLtI_int, Mi.dLt_int, Mi.dEq_int, Mi.dNe_int, Mi.dMax2_int, Mi.dMin2_int, Mi.fn1_ap, Mi.fn2_ap, Mi.dLen_tup, Mi.dLen_lst, Mi.dLen_cst, Mi.dLen_own, Mi.fnM_ap, Mi.kfn_nx, Mi.kfn_rt, Mi.kfn_exc, Mi.fnO_ap, Mi.kfo_nx, Mi.kfo_rt, Mi.env0, Mi.envN, Mi.envS, Mi.wipeN, Mi.wipeS, Mi.lit_own, Mi.lit_lst, Mi.lit_cst, Mi.ix_own, Mi.ix_lst, Mi.ix_cst, Mi.ix_tup, Mi.dix_own, Mi.dix_lst, Mi.dix_cst, Mi.dix_tup, Mi.rng0, Mi.toL, Mi.end_lawL, Mi.btw_int, Mi.btw_bl, Mi.btw_non, Mi.btw_str, Mi.is_non_int, Mi.is_bl_int, Mi.is_int_int, Mi.is_str_int, Mi.is_tup_int, Mi.is_lst_int, Mi.is_cst_int, Mi.is_own_int, Mi.is_non_bool, Mi.is_bl_bool, Mi.is_int_bool, Mi.is_str_bool, Mi.is_tup_bool, Mi.is_lst_bool, Mi.is_cst_bool, Mi.is_own_bool, Mi.is_non_tuple, Mi.is_bl_tuple, Mi.is_int_tuple, Mi.is_str_tuple, Mi.is_tup_tuple, Mi.is_lst_tuple, Mi.is_cst_tuple, Mi.is_own_tuple, Mi.is_non_list, Mi.is_bl_list, Mi.is_int_list, Mi.is_str_list, Mi.is_tup_list, Mi.is_lst_list, Mi.is_cst_list, Mi.is_own_list, Mi.is_non_str, Mi.is_bl_str, Mi.is_int_str, Mi.is_str_str, Mi.is_tup_str, Mi.is_lst_str, Mi.is_cst_str, Mi.is_own_str, Mi.cast_lit, Mi.mPart_ap, Mi.kPt_ok, Mi.mNoPart_ap, Mi.mSl_ap, Mi.kSl1_ok, Mi.kSl2_ok, Mi.kSl3_ok, Mi.dSl_tup, Mi.dSl_lst, Mi.dSl_cst, Mi.mZip_ap, Mi.kZ_tup, Mi.kZ_lst, Mi.mPick_ap, Mi.kPk_ok, Mi.kPk2_some, Mi.at_0, Mi.at_1, Mi.at_2, Mi.at_3, Mi.isT_non, Mi.isT_bl, Mi.isT_int, Mi.isT_str, Mi.isT_tup, Mi.isT_lst, Mi.isT_cst, Mi.isT_own, Mi.dInt_bl, Mi.dIs_f_non, Mi.dIs_t_non, Mi.dIs_f_bl, Mi.dIs_t_bl, Mi.dIs_f_int, Mi.dIs_t_int, Mi.dIs_f_str, Mi.dIs_t_str, Mi.dIs_f_tup, Mi.dIs_t_tup, Mi.dIs_f_lst, Mi.dIs_t_lst, Mi.dIs_f_own, Mi.dIs_t_own, Mi.dIs_f_cst, Mi.dIs_t_cst, Mi.mLR1_ap, Mi.kLR1_ok, Mi.mLR2_ap, Mi.kLR2_ok, Mi.kLR2b_ok, Mi.mCallB_ap, Mi.kcB_some, Mi.kcB1_ok, Mi.kcB2_some, Mi.kcB3_bl, Mi.kcB3_exc, Mi.mExtend_ap, Mi.kEx_some, Mi.kEx2_ok, Mi.kEx3_some, Mi.dNotIn2, Mi.dIn2, Mi.dIsB_tt, Mi.dIsB_ft, Mi.dNotB_tt, Mi.dNotB_ft, D.frz, frzs, D.plain, plains, Bool.and_self, Bool.and_true, Bool.true_and, Bool.and_false, Bool.false_and, List.length_cons, List.length_nil, List.length_set, Nat.reduceAdd, Nat.zero_add, Nat.reduceLT, Nat.reduceLeDiff, sizeLine_eq, if_true, if_false, Bool.not_true, Bool.not_false, Bool.false_eq_true, decide_true, decide_false, and_self, and_true, true_and, List.cons_append, List.nil_append, Option.map_some, Option.bind_some, Int.reduceToNat, Int.reducePow, Int.reduceNeg, Int.reduceEq, Int.reduceLT, Int.reduceLE, Int.reduceAdd, Int.reduceSub, Int.reduceMul, eq_self, Mi.dat, not_true_eq_false, not_false_eq_true, Bool.or_self, Bool.or_true, Bool.or_false, Bool.false_or, Bool.true_or, false_and, and_false, true_or, or_true, false_or, or_false, atI_pos, Int.reduceLE, c, h]
  rfl
theorem v_cell (ns : List Int) (k : Int) (h0 : 0 ≤ k) (hk : k < 2 ^ 32) (hb : ∀ z ∈ ns, Builtin.Int.intBits z ≤ 1048576) : ∃ z : Int, z.natAbs < 2 ^ 1048576 ∧ F_w_cell [.cst (ns.map D.int), .int k] = .ok (.int z) := by
  have hp := plains_ints ns
  have hz := frzs_ints ns
  have c1 : CMulX 6151 k := cmulx64 (by decide) (by omega)
  by_cases c : k < ns.length
  · have hk : k.toNat < ns.length := by omega
    refine ⟨ns[k.toNat], natAbs_of_bits (hb _ (List.getElem_mem hk)), ?_⟩
    have e : atI (ns.map D.int) k = some (.int ns[k.toNat]) := by
      rw [atI_pos h0 (by rw [List.length_map]; exact hk), List.getElem?_map, List.getElem?_eq_getElem hk]
      rfl
    unfold F_w_cell m_w_cell
    simp only [Mi.kof_some, Mi.kof_none, Mi.mOp1_ap, Mi.k1_ok, Mi.k1_exc, Mi.mOp2_ap, Mi.k2a_ok, Mi.k2a_exc, Mi.k2b_ok, Mi.k2b_exc, Mi.mOpL_ap, Mi.kL_ok, Mi.kL_exc, Mi.mCons_ap, Mi.kca_ok, Mi.kca_exc, Mi.kcb_ok, Mi.kcb_exc, Mi.mNil_ap, Mi.mC_ap, Mi.mLst_ap, Mi.mTup_ap, Mi.kLst_ok, Mi.kTup_ok, Mi.mVar_ap, Mi.kV_some, Mi.mFrz_ap, Mi.kF_some, Mi.mMove_ap, Mi.kM_some, Mi.at0, Mi.atS, Mi.set0, Mi.setS, Mi.mT_ap, Mi.kT_ok, Mi.kT_exc, Mi.mNotT_ap, Mi.kN_ok, Mi.kN_exc, Mi.mAndT_ap, Mi.kA_ok, Mi.kA_exc, Mi.mOrT_ap, Mi.kO_ok, Mi.kO_exc, Mi.mAndV_ap, Mi.kAV_ok, Mi.mOrV_ap, Mi.kOV_ok, Mi.mIf_ap, Mi.kIf_ok, Mi.mChain_ap, Mi.kCh_ok, Mi.kCh1_ok, Mi.kCh2_ok, Mi.mSeq_ap, Mi.kS_nx, Mi.kS_rt, Mi.kS_exc, Mi.kS_bk, Mi.kS_ct, Mi.mNext_ap, Mi.mDrop_ap, Mi.kD_ok, Mi.kD_exc, Mi.mRet_ap, Mi.kR_ok, Mi.kR_exc, Mi.mRetN_ap, Mi.mIfS_ap, Mi.kI_ok, Mi.kI_exc, Mi.mAsg_ap, Mi.kG_ok, Mi.kG_exc, Mi.kG2_some, Mi.mgName_ap, Mi.mgTup_ap, Mi.mgCons_ap, Mi.kgs_some, Mi.mgNil_ap, Mi.mPar_ap, Mi.kP_ok, Mi.mPar3_ap, Mi.kP3_ok, Mi.ownAt_ap, Mi.kw_own, Mi.mSlotIx_ap, Mi.kX_some, Mi.kX2_ok, Mi.kX3_some, Mi.mCall_ap, Mi.kc_ok, Mi.kf_ok, Mi.kf_exc, Mi.mCallO_ap, Mi.kq_some, Mi.kq2_ok, Mi.kq3_some, Mi.kq4_ok, Mi.mSetIx_ap, Mi.ky_ok, Mi.ky2_some, Mi.ky3_ok, Mi.ky4_some, Mi.mItL_ap, Mi.kIL_ok, Mi.kRs_some, Mi.mItT_ap, Mi.kIT_ok, Mi.mRng1_ap, Mi.kr1_ok, Mi.mRng2_ap, Mi.kr2_ok, Mi.mFor_ap, Mi.kFo_ok, Mi.mLoop_nil, Mi.kl1_some, Mi.kl2_nx, Mi.kl2_ct, Mi.kl2_bk, Mi.kl2_rt, Mi.kl2_exc, Mi.mLc_ap, Mi.kLc_ok, Mi.lc_nil, Mi.kz1_some, Mi.kz2_ok, Mi.kz3_ok, Mi.mYes_ap, Mi.mAug_ap, Mi.kU_some, Mi.kU2_int, Mi.mTry_ap, Mi.kTr_nx, Mi.kTr_rt, Mi.mMeth_ap, Mi.kMe_lst, Mi.kMe_own, Mi.mAppend_ap, Mi.kAp_some, Mi.kAp2_ok, Mi.kAp3_some, Mi.dAdd_int, Mi.dAdd_str, Mi.dAdd_tup, Mi.dAdd_ll, Mi.dAdd_lo, Mi.dAdd_ol, Mi.dAdd_oo, Mi.dSub_int, Mi.dMul_int, Mi.dMod_int, Mi.dFdiv_int, Mi.dPow_int, Mi.dNeg_int, Mi.dDivmod_int, Mi.dGt_int, Mi.dGe_int, Mi.dLe_int, Mi.dLtI_int, Mi.dLt_int, Mi.dEq_int, Mi.dNe_int, Mi.dMax2_int, Mi.dMin2_int, Mi.fn1_ap, Mi.fn2_ap, Mi.dLen_tup, Mi.dLen_lst, Mi.dLen_cst, Mi.dLen_own, Mi.fnM_ap, Mi.kfn_nx, Mi.kfn_rt, Mi.kfn_exc, Mi.fnO_ap, Mi.kfo_nx, Mi.kfo_rt, Mi.env0, Mi.envN, Mi.envS, Mi.wipeN, Mi.wipeS, Mi.lit_own, Mi.lit_lst, Mi.lit_cst, Mi.ix_own, Mi.ix_lst, Mi.ix_cst, Mi.ix_tup, Mi.dix_own, Mi.dix_lst, Mi.dix_cst, Mi.dix_tup, Mi.rng0, Mi.toL, Mi.end_lawL, Mi.btw_int, Mi.btw_bl, Mi.btw_non, Mi.btw_str, Mi.is_non_int, Mi.is_bl_int, Mi.is_int_int, Mi.is_str_int, Mi.is_tup_int, Mi.is_lst_int, Mi.is_cst_int, Mi.is_own_int, Mi.is_non_bool, Mi.is_bl_bool, Mi.is_int_bool, Mi.is_str_bool, Mi.is_tup_bool, Mi.is_lst_bool, Mi.is_cst_bool, Mi.is_own_bool, Mi.is_non_tuple, Mi.is_bl_tuple, Mi.is_int_tuple, Mi.is_str_tuple, Mi.is_tup_tuple, Mi.is_lst_tuple, Mi.is_cst_tuple, Mi.is_own_tuple, Mi.is_non_list, Mi.is_bl_list, Mi.is_int_list, Mi.is_str_list, Mi.is_tup_list, Mi.is_lst_list, Mi.is_cst_list, Mi.is_own_list, Mi.is_non_str, Mi.is_bl_str, Mi.is_int_str, Mi.is_str_str, Mi.is_tup_str, Mi.is_lst_str, Mi.is_cst_str, Mi.is_own_str, Mi.cast_lit, Mi.mPart_ap, Mi.kPt_ok, Mi.mNoPart_ap, Mi.mSl_ap, Mi.kSl1_ok, Mi.kSl2_ok, Mi.kSl3_ok, Mi.dSl_tup, Mi.dSl_lst, Mi.dSl_cst, Mi.mZip_ap, Mi.kZ_tup, Mi.kZ_lst, Mi.mPick_ap, Mi.kPk_ok, Mi.kPk2_some, Mi.at_0, Mi.at_1, Mi.at_2, Mi.at_3, Mi.isT_non, Mi.isT_bl, Mi.isT_int, Mi.isT_str, Mi.isT_tup, Mi.isT_lst, Mi.isT_cst, Mi.isT_own, Mi.dInt_bl, Mi.dIs_f_non, Mi.dIs_t_non, Mi.dIs_f_bl, Mi.dIs_t_bl, Mi.dIs_f_int, Mi.dIs_t_int, Mi.dIs_f_str, Mi.dIs_t_str, Mi.dIs_f_tup, Mi.dIs_t_tup, Mi.dIs_f_lst, Mi.dIs_t_lst, Mi.dIs_f_own, Mi.dIs_t_own, Mi.dIs_f_cst, Mi.dIs_t_cst, Mi.mLR1_ap, Mi.kLR1_ok, Mi.mLR2_ap, Mi.kLR2_ok, Mi.kLR2b_ok, Mi.mCallB_ap, Mi.kcB_some, Mi.kcB1_ok, Mi.kcB2_some, Mi.kcB3_bl, Mi.kcB3_exc, Mi.mExtend_ap, Mi.kEx_some, Mi.kEx2_ok, Mi.kEx3_some, Mi.dNotIn2, Mi.dIn2, Mi.dIsB_tt, Mi.dIsB_ft, Mi.dNotB_tt, Mi.dNotB_ft, D.frz, frzs, D.plain, plains, Bool.and_self, Bool.and_true, Bool.true_and, Bool.and_false, Bool.false_and, List.length_cons, List.length_nil, List.length_set, Nat.reduceAdd, Nat.zero_add, Nat.reduceLT, Nat.reduceLeDiff, sizeLine_eq, if_true, if_false, Bool.not_true, Bool.not_false, Bool.false_eq_true, decide_true, decide_false, and_self, and_true, true_and, List.cons_append, List.nil_append, Option.map_some, Option.bind_some, Int.reduceToNat, Int.reducePow, Int.reduceNeg, Int.reduceEq, Int.reduceLT, Int.reduceLE, Int.reduceAdd, Int.reduceSub, Int.reduceMul, eq_self, Mi.dat, not_true_eq_false, not_false_eq_true, Bool.or_self, Bool.or_true, Bool.or_false, Bool.false_or, Bool.true_or, false_and, and_false, true_or, or_true, false_or, or_false, hp, hz, c1, e, List.length_map, c]
  · refine ⟨6151 * k + 29, natAbs_mono (m := 64) (by omega) (by decide), ?_⟩
    unfold F_w_cell m_w_cell
    simp only [Mi.kof_some, Mi.kof_none, Mi.mOp1_ap, Mi.k1_ok, Mi.k1_exc, Mi.mOp2_ap, Mi.k2a_ok, Mi.k2a_exc, Mi.k2b_ok, Mi.k2b_exc, Mi.mOpL_ap, Mi.kL_ok, Mi.kL_exc, Mi.mCons_ap, Mi.kca_ok, Mi.kca_exc, Mi.kcb_ok, Mi.kcb_exc, Mi.mNil_ap, Mi.mC_ap, Mi.mLst_ap, Mi.mTup_ap, Mi.kLst_ok, Mi.kTup_ok, Mi.mVar_ap, Mi.kV_some, Mi.mFrz_ap, Mi.kF_some, Mi.mMove_ap, Mi.kM_some, Mi.at0, Mi.atS, Mi.set0, Mi.setS, Mi.mT_ap, Mi.kT_ok, Mi.kT_exc, Mi.mNotT_ap, Mi.kN_ok, Mi.kN_exc, Mi.mAndT_ap, Mi.kA_ok, Mi.kA_exc, Mi.mOrT_ap, Mi.kO_ok, Mi.kO_exc, Mi.mAndV_ap, Mi.kAV_ok, Mi.mOrV_ap, Mi.kOV_ok, Mi.mIf_ap, Mi.kIf_ok, Mi.mChain_ap, Mi.kCh_ok, Mi.kCh1_ok, Mi.kCh2_ok, Mi.mSeq_ap, Mi.kS_nx, Mi.kS_rt, Mi.kS_exc, Mi.kS_bk, Mi.kS_ct, Mi.mNext_ap, Mi.mDrop_ap, Mi.kD_ok, Mi.kD_exc, Mi.mRet_ap, Mi.kR_ok, Mi.kR_exc, Mi.mRetN_ap, Mi.mIfS_ap, Mi.kI_ok, Mi.kI_exc, Mi.mAsg_ap, Mi.kG_ok, Mi.kG_exc, Mi.kG2_some, Mi.mgName_ap, Mi.mgTup_ap, Mi.mgCons_ap, Mi.kgs_some, Mi.mgNil_ap, Mi.mPar_ap, Mi.kP_ok, Mi.mPar3_ap, Mi.kP3_ok, Mi.ownAt_ap, Mi.kw_own, Mi.mSlotIx_ap, Mi.kX_some, Mi.kX2_ok, Mi.kX3_some, Mi.mCall_ap, Mi.kc_ok, Mi.kf_ok, Mi.kf_exc, Mi.mCallO_ap, Mi.kq_some, Mi.kq2_ok, Mi.kq3_some, Mi.kq4_ok, Mi.mSetIx_ap, Mi.ky_ok, Mi.ky2_some, Mi.ky3_ok, Mi.ky4_some, Mi.mItL_ap, Mi.kIL_ok, Mi.kRs_some, Mi.mItT_ap, Mi.kIT_ok, Mi.mRng1_ap, Mi.kr1_ok, Mi.mRng2_ap, Mi.kr2_ok, Mi.mFor_ap, Mi.kFo_ok, Mi.mLoop_nil, Mi.kl1_some, Mi.kl2_nx, Mi.kl2_ct, Mi.kl2_bk, Mi.kl2_rt, Mi.kl2_exc, Mi.mLc_ap, Mi.kLc_ok, Mi.lc_nil, Mi.kz1_some, Mi.kz2_ok, Mi.kz3_ok, Mi.mYes_ap, Mi.mAug_ap, Mi.kU_some, Mi.kU2_int, Mi.mTry_ap, Mi.kTr_nx, Mi.kTr_rt, Mi.mMeth_ap, Mi.kMe_lst, Mi.kMe_own, Mi.mAppend_ap, Mi.kAp_some, Mi.kAp2_ok, Mi.kAp3_some, Mi.dAdd_int, Mi.dAdd_str, Mi.dAdd_tup, Mi.dAdd_ll, Mi.dAdd_lo, Mi.dAdd_ol, Mi.dAdd_oo, Mi.dSub_int, Mi.dMul_int, Mi.dMod_int, Mi.dFdiv_int, Mi.dPow_int, Mi.dNeg_int, Mi.dDivmod_int, Mi.dGt_int, Mi.dGe_int, Mi.dLe_int, Mi.dLtI_int, Mi.dLt_int, Mi.dEq_int, Mi.dNe_int, Mi.dMax2_int, Mi.dMin2_int, Mi.fn1_ap, Mi.fn2_ap, Mi.dLen_tup, Mi.dLen_lst, Mi.dLen_cst, Mi.dLen_own, Mi.fnM_ap, Mi.kfn_nx, Mi.kfn_rt, Mi.kfn_exc, Mi.fnO_ap, Mi.kfo_nx, Mi.kfo_rt, Mi.env0, Mi.envN, Mi.envS, Mi.wipeN, Mi.wipeS, Mi.lit_own, Mi.lit_lst, Mi.lit_cst, Mi.ix_own, Mi.ix_lst, Mi.ix_cst, Mi.ix_tup, Mi.dix_own, Mi.dix_lst, Mi.dix_cst, Mi.dix_tup, Mi.rng0, Mi.toL, Mi.end_lawL, Mi.btw_int, Mi.btw_bl, Mi.btw_non, Mi.btw_str, Mi.is_non_int, Mi.is_bl_int, Mi.is_int_int, Mi.is_str_int, Mi.is_tup_int, Mi.is_lst_int, Mi.is_cst_int, Mi.is_own_int, Mi.is_non_bool, Mi.is_bl_bool, Mi.is_int_bool, Mi.is_str_bool, Mi.is_tup_bool, Mi.is_lst_bool, Mi.is_cst_bool, Mi.is_own_bool, Mi.is_non_tuple, Mi.is_bl_tuple, Mi.is_int_tuple, Mi.is_str_tuple, Mi.is_tup_tuple, Mi.is_lst_tuple, Mi.is_cst_tuple, Mi.is_own_tuple, Mi.is_non_list, Mi.is_bl_list, Mi.is_int_list, Mi.is_str_list, Mi.is_tup_list, Mi.is_lst_list, Mi.is_cst_list, Mi.is_own_list, Mi.is_non_str, Mi.is_bl_str, Mi.is_int_str, Mi.is_str_str, Mi.is_tup_str, Mi.is_lst_str, Mi.is_cst_str, Mi.is_own_str, Mi.cast_lit, Mi.mPart_ap, Mi.kPt_ok, Mi.mNoPart_ap, Mi.mSl_ap, Mi.kSl1_ok, Mi.kSl2_ok, Mi.kSl3_ok, Mi.dSl_tup, Mi.dSl_lst, Mi.dSl_cst, Mi.mZip_ap, Mi.kZ_tup, Mi.kZ_lst, Mi.mPick_ap, Mi.kPk_ok, Mi.kPk2_some, Mi.at_0, Mi.at_1, Mi.at_2, Mi.at_3, Mi.isT_non, Mi.isT_bl, Mi.isT_int, Mi.isT_str, Mi.isT_tup, Mi.isT_lst, Mi.isT_cst, Mi.isT_own, Mi.dInt_bl, Mi.dIs_f_non, Mi.dIs_t_non, Mi.dIs_f_bl, Mi.dIs_t_bl, Mi.dIs_f_int, Mi.dIs_t_int, Mi.dIs_f_str, Mi.dIs_t_str, Mi.dIs_f_tup, Mi.dIs_t_tup, Mi.dIs_f_lst, Mi.dIs_t_lst, Mi.dIs_f_own, Mi.dIs_t_own, Mi.dIs_f_cst, Mi.dIs_t_cst, Mi.mLR1_ap, Mi.kLR1_ok, Mi.mLR2_ap, Mi.kLR2_ok, Mi.kLR2b_ok, Mi.mCallB_ap, Mi.kcB_some, Mi.kcB1_ok, Mi.kcB2_some, Mi.kcB3_bl, Mi.kcB3_exc, Mi.mExtend_ap, Mi.kEx_some, Mi.kEx2_ok, Mi.kEx3_some, Mi.dNotIn2, Mi.dIn2, Mi.dIsB_tt, Mi.dIsB_ft, Mi.dNotB_tt, Mi.dNotB_ft, D.frz, frzs, D.plain, plains, Bool.and_self, Bool.and_true, Bool.true_and, Bool.and_false, Bool.false_and, List.length_cons, List.length_nil, List.length_set, Nat.reduceAdd, Nat.zero_add, Nat.reduceLT, Nat.reduceLeDiff, sizeLine_eq, if_true, if_false, Bool.not_true, Bool.not_false, Bool.false_eq_true, decide_true, decide_false, and_self, and_true, true_and, List.cons_append, List.nil_append, Option.map_some, Option.bind_some, Int.reduceToNat, Int.reducePow, Int.reduceNeg, Int.reduceEq, Int.reduceLT, Int.reduceLE, Int.reduceAdd, Int.reduceSub, Int.reduceMul, eq_self, Mi.dat, not_true_eq_false, not_false_eq_true, Bool.or_self, Bool.or_true, Bool.or_false, Bool.false_or, Bool.true_or, false_and, and_false, true_or, or_true, false_or, or_false, hp, hz, c1, List.length_map, c]
def b_box : MS := mSeq (mAsg (mOp2 dMod (mOp2 dAdd (mOp2 dAdd (mOp2 dAdd (mOp2 dMul (mVar 4) (mC (.int 48271))) (mOp2 dMul (mOp2 dMul (mC (.int 7)) (mVar 5)) (mVar 5))) (mOp2 dMul (mC (.int 11)) (mVar 1))) (mC (.int 1))) (mC (.int 2147483647))) (mgName 4)) (mAsg (mOp2 dAdd (mOp2 dMul (mVar 3) (mC (.int 2147483647))) (mVar 4)) (mgName 3))
/-- the turns of a box -/
theorem box_loop (s0 : D) (k : Int) (c : D) (hk0 : 0 ≤ k) (hk1 : k < 1000) :
    ∀ (m : Nat) (lo x y : Int) (n : Nat) (o : Option D), 0 ≤ lo → lo + m ≤ 1000 → n + 32 * m ≤ 1000 → x.natAbs < 2 ^ n → 64 ≤ n → 0 ≤ y → y < 2147483647 → ∃ (x' : Int) (o4 o' : Option D), x'.natAbs < 2 ^ (n + 32 * m) ∧
      mLoop (mgName 5) b_box (rangeD lo m) [some s0, some (.int k), some c, some (.int x), some (.int y), o] = .nx [some s0, some (.int k), some c, some (.int x'), o4, o']
  | 0, lo, x, y, n, o, _, _, _, hx, _, _, _ => ⟨x, some (.int y), o, hx, by simp only [Mi.kof_some, Mi.kof_none, Mi.mOp1_ap, Mi.k1_ok, Mi.k1_exc, Mi.mOp2_ap, Mi.k2a_ok, Mi.k2a_exc, Mi.k2b_ok, Mi.k2b_exc, Mi.mOpL_ap, Mi.kL_ok, Mi.kL_exc, Mi.mCons_ap, Mi.kca_ok, Mi.kca_exc, Mi.kcb_ok, Mi.kcb_exc, Mi.mNil_ap, Mi.mC_ap, Mi.mLst_ap, Mi.mTup_ap, Mi.kLst_ok, Mi.kTup_ok, Mi.mVar_ap, Mi.kV_some, Mi.mFrz_ap, Mi.kF_some, Mi.mMove_ap, Mi.kM_some, Mi.at0, Mi.atS, Mi.set0, Mi.setS, Mi.mT_ap, Mi.kT_ok, Mi.kT_exc, Mi.mNotT_ap, Mi.kN_ok, Mi.kN_exc, Mi.mAndT_ap, Mi.kA_ok, Mi.kA_exc, Mi.mOrT_ap, Mi.kO_ok, Mi.kO_exc, Mi.mAndV_ap, Mi.kAV_ok, Mi.mOrV_ap, Mi.kOV_ok, Mi.mIf_ap, Mi.kIf_ok, Mi.mChain_ap, Mi.kCh_ok, Mi.kCh1_ok, Mi.kCh2_ok, Mi.mSeq_ap, Mi.kS_nx, Mi.kS_rt, Mi.kS_exc, Mi.kS_bk, Mi.kS_ct, Mi.mNext_ap, Mi.mDrop_ap, Mi.kD_ok, Mi.kD_exc, Mi.mRet_ap, Mi.kR_ok, Mi.kR_exc, Mi.mRetN_ap, Mi.mIfS_ap, Mi.kI_ok, Mi.kI_exc, Mi.mAsg_ap, Mi.kG_ok, Mi.kG_exc, Mi.kG2_some, Mi.mgName_ap, Mi.mgTup_ap, Mi.mgCons_ap, Mi.kgs_some, Mi.mgNil_ap, Mi.mPar_ap, Mi.kP_ok, Mi.mPar3_ap, Mi.kP3_ok, Mi.ownAt_ap, Mi.kw_own, Mi.mSlotIx_ap, Mi.kX_some, Mi.kX2_ok, Mi.kX3_some, Mi.mCall_ap, Mi.kc_ok, Mi.kf_ok, Mi.kf_exc, Mi.mCallO_ap, Mi.kq_some, Mi.kq2_ok, Mi.kq3_some, Mi.kq4_ok, Mi.mSetIx_ap, Mi.ky_ok, Mi.ky2_some, Mi.ky3_ok, Mi.ky4_some, Mi.mItL_ap, Mi.kIL_ok, Mi.kRs_some, Mi.mItT_ap, Mi.kIT_ok, Mi.mRng1_ap, Mi.kr1_ok, Mi.mRng2_ap, Mi.kr2_ok, Mi.mFor_ap, Mi.kFo_ok, Mi.mLoop_nil, Mi.kl1_some, Mi.kl2_nx, Mi.kl2_ct, Mi.kl2_bk, Mi.kl2_rt, Mi.kl2_exc, Mi.mLc_ap, Mi.kLc_ok, Mi.lc_nil, Mi.kz1_some, Mi.kz2_ok, Mi.kz3_ok, Mi.mYes_ap, Mi.mAug_ap, Mi.kU_some, Mi.kU2_int, Mi.mTry_ap, Mi.kTr_nx, Mi.kTr_rt, Mi.mMeth_ap, Mi.kMe_lst, Mi.kMe_own, Mi.mAppend_ap, Mi.kAp_some, Mi.kAp2_ok, Mi.kAp3_some, Mi.dAdd_int, Mi.dAdd_str, Mi.dAdd_tup, Mi.dAdd_ll, Mi.dAdd_lo, Mi.dAdd_ol, Mi.dAdd_oo, Mi.dSub_int, Mi.dMul_int, Mi.dMod_int, Mi.dFdiv_int, Mi.dPow_int, Mi.dNeg_int, Mi.dDivmod_int, Mi.dGt_int, Mi.dGe_int, Mi.dLe_int, Mi.dLtI_int, Mi.dLt_int, Mi.dEq_int, Mi.dNe_int, Mi.dMax2_int, Mi.dMin2_int, Mi.fn1_ap, Mi.fn2_ap, Mi.dLen_tup, Mi.dLen_lst, Mi.dLen_cst, Mi.dLen_own, Mi.fnM_ap, Mi.kfn_nx, Mi.kfn_rt, Mi.kfn_exc, Mi.fnO_ap, Mi.kfo_nx, Mi.kfo_rt, Mi.env0, Mi.envN, Mi.envS, Mi.wipeN, Mi.wipeS, Mi.lit_own, Mi.lit_lst, Mi.lit_cst, Mi.ix_own, Mi.ix_lst, Mi.ix_cst, Mi.ix_tup, Mi.dix_own, Mi.dix_lst, Mi.dix_cst, Mi.dix_tup, Mi.rng0, Mi.toL, Mi.end_lawL, Mi.btw_int, Mi.btw_bl, Mi.btw_non, Mi.btw_str, Mi.is_non_int, Mi.is_bl_int, Mi.is_int_int, Mi.is_str_int, Mi.is_tup_int, Mi.is_lst_int, Mi.is_cst_int, Mi.is_own_int, Mi.is_non_bool, Mi.is_bl_bool, Mi.is_int_bool, Mi.is_str_bool, Mi.is_tup_bool, Mi.is_lst_bool, Mi.is_cst_bool, Mi.is_own_bool, Mi.is_non_tuple, Mi.is_bl_tuple, Mi.is_int_tuple, Mi.is_str_tuple, Mi.is_tup_tuple, Mi.is_lst_tuple, Mi.is_cst_tuple, Mi.is_own_tuple, Mi.is_non_list, Mi.is_bl_list, Mi.is_int_list, Mi.is_str_list, Mi.is_tup_list, Mi.is_lst_list, Mi.is_cst_list, Mi.is_own_list, Mi.is_non_str, Mi.is_bl_str, Mi.is_int_str, Mi.is_str_str, Mi.is_tup_str, Mi.is_lst_str, Mi.is_cst_str, Mi.is_own_str, Mi.cast_lit, Mi.mPart_ap, Mi.kPt_ok, Mi.mNoPart_ap, Mi.mSl_ap, Mi.kSl1_ok, Mi.kSl2_ok, Mi.kSl3_ok, Mi.dSl_tup, Mi.dSl_lst, Mi.dSl_cst, Mi.mZip_ap, Mi.kZ_tup, Mi.kZ_lst, Mi.mPick_ap, Mi.kPk_ok, Mi.kPk2_some, Mi.at_0, Mi.at_1, Mi.at_2, Mi.at_3, Mi.isT_non, Mi.isT_bl, Mi.isT_int, Mi.isT_str, Mi.isT_tup, Mi.isT_lst, Mi.isT_cst, Mi.isT_own, Mi.dInt_bl, Mi.dIs_f_non, Mi.dIs_t_non, Mi.dIs_f_bl, Mi.dIs_t_bl, Mi.dIs_f_int, Mi.dIs_t_int, Mi.dIs_f_str, Mi.dIs_t_str, Mi.dIs_f_tup, Mi.dIs_t_tup, Mi.dIs_f_lst, Mi.dIs_t_lst, Mi.dIs_f_own, Mi.dIs_t_own, Mi.dIs_f_cst, Mi.dIs_t_cst, Mi.mLR1_ap, Mi.kLR1_ok, Mi.mLR2_ap, Mi.kLR2_ok, Mi.kLR2b_ok, Mi.mCallB_ap, Mi.kcB_some, Mi.kcB1_ok, Mi.kcB2_some, Mi.kcB3_bl, Mi.kcB3_exc, Mi.mExtend_ap, Mi.kEx_some, Mi.kEx2_ok, Mi.kEx3_some, Mi.dNotIn2, Mi.dIn2, Mi.dIsB_tt, Mi.dIsB_ft, Mi.dNotB_tt, Mi.dNotB_ft, D.frz, frzs, D.plain, plains, Bool.and_self, Bool.and_true, Bool.true_and, Bool.and_false, Bool.false_and, List.length_cons, List.length_nil, List.length_set, Nat.reduceAdd, Nat.zero_add, Nat.reduceLT, Nat.reduceLeDiff, sizeLine_eq, if_true, if_false, Bool.not_true, Bool.not_false, Bool.false_eq_true, decide_true, decide_false, and_self, and_true, true_and, List.cons_append, List.nil_append, Option.map_some, Option.bind_some, Int.reduceToNat, Int.reducePow, Int.reduceNeg, Int.reduceEq, Int.reduceLT, Int.reduceLE, Int.reduceAdd, Int.reduceSub, Int.reduceMul, eq_self, Mi.dat, not_true_eq_false, not_false_eq_true, Bool.or_self, Bool.or_true, Bool.or_false, Bool.false_or, Bool.true_or, false_and, and_false, true_or, or_true, false_or, or_false]⟩
  | m + 1, lo, x, y, n, o, h0, h1, h2, hx, hn, y0, y1 => by
    obtain ⟨r, er⟩ : ∃ r, (y * 48271 + 7 * lo * lo + 11 * k + 1) % 2147483647 = r := ⟨_, rfl⟩
    have r0 : 0 ≤ r := by rw [← er]; exact Int.emod_nonneg _ (by decide)
    have r1 : r < 2147483647 := by rw [← er]; exact Int.emod_lt_of_pos _ (by decide)
    have c1 : CMulX x 2147483647 := cmulx_of hx (n := 31) (by decide) (by omega)
    have c2 : CMulX y 48271 := cmulx64 (by omega) (by decide)
    have c3 : CMulX 7 lo := cmulx64 (by decide) (by omega)
    have c4 : CMulX (7 * lo) lo := cmulx64 (by omega) (by omega)
    have c5 : CMulX 11 k := cmulx64 (by decide) (by omega)
    have p : (0 : Int) < 2147483647 := by decide
    have e1 : (x * 2147483647).natAbs < 2 ^ (n + 31) := natAbs_mul_lt hx (by decide)
    have e2 : (x * 2147483647 + r).natAbs < 2 ^ (n + 31 + 1) := natAbs_add_lt e1 (n := 31) (by omega) (by omega)
    obtain ⟨x', o4, o', hx', hl⟩ := box_loop s0 k c hk0 hk1 m (lo + 1) (x * 2147483647 + r) r (n + 32) (some (.int lo)) (by omega) (by omega) (by omega) e2 (by omega) r0 r1
    refine ⟨x', o4, o', by rw [show n + 32 * (m + 1) = n + 32 + 32 * m by omega]; exact hx', ?_⟩
    have hg : mgName 5 (.int lo) [some s0, some (.int k), some c, some (.int x), some (.int y), o] = some [some s0, some (.int k), some c, some (.int x), some (.int y), some (.int lo)] := rfl
    have hb : b_box [some s0, some (.int k), some c, some (.int x), some (.int y), some (.int lo)] = .nx [some s0, some (.int k), some c, some (.int (x * 2147483647 + r)), some (.int r), some (.int lo)] := by
      unfold b_box
      simp -implicitDefEqProofs only [Mi.kof_some, Mi.kof_none, Mi.mOp1_ap, Mi.k1_ok, Mi.k1_exc, Mi.mOp2_ap, Mi.k2a_ok, Mi.k2a_exc, Mi.k2b_ok, Mi.k2b_exc, Mi.mOpL_ap, Mi.kL_ok, Mi.kL_exc, Mi.mCons_ap, Mi.kca_ok, Mi.kca_exc, Mi.kcb_ok, Mi.kcb_exc, Mi.mNil_ap, Mi.mC_ap, Mi.mLst_ap, Mi.mTup_ap, Mi.kLst_ok, Mi.kTup_ok, Mi.mVar_ap, Mi.kV_some, Mi.mFrz_ap, Mi.kF_some, Mi.mMove_ap, Mi.kM_some, Mi.at0, Mi.atS, Mi.set0, Mi.setS, Mi.mT_ap, Mi.kT_ok, Mi.kT_exc, Mi.mNotT_ap, Mi.kN_ok, Mi.kN_exc, Mi.mAndT_ap, Mi.kA_ok, Mi.kA_exc, Mi.mOrT_ap, Mi.kO_ok, Mi.kO_exc, Mi.mAndV_ap, Mi.kAV_ok, Mi.mOrV_ap, Mi.kOV_ok, Mi.mIf_ap, Mi.kIf_ok, Mi.mChain_ap, Mi.kCh_ok, Mi.kCh1_ok, Mi.kCh2_ok, Mi.mSeq_ap, Mi.kS_nx, Mi.kS_rt, Mi.kS_exc, Mi.kS_bk, Mi.kS_ct, Mi.mNext_ap, Mi.mDrop_ap, Mi.kD_ok, Mi.kD_exc, Mi.mRet_ap, Mi.kR_ok, Mi.kR_exc, Mi.mRetN_ap, Mi.mIfS_ap, Mi.kI_ok, Mi.kI_exc, Mi.mAsg_ap, Mi.kG_ok, Mi.kG_exc, Mi.kG2_some, Mi.mgName_ap, Mi.mgTup_ap, Mi.mgCons_ap, Mi.kgs_some, Mi.mgNil_ap, Mi.mPar_ap, Mi.kP_ok, Mi.mPar3_ap, Mi.kP3_ok, Mi.ownAt_ap, Mi.kw_own, Mi.mSlotIx_ap, Mi.kX_some, Mi.kX2_ok, Mi.kX3_some, Mi.mCall_ap, Mi.kc_ok, Mi.kf_ok, Mi.kf_exc, Mi.mCallO_ap, Mi.kq_some, Mi.kq2_ok, Mi.kq3_some, Mi.kq4_ok, Mi.mSetIx_ap, Mi.ky_ok, Mi.ky2_some, Mi.ky3_ok, Mi.ky4_some, Mi.mItL_ap, Mi.kIL_ok, Mi.kRs_some, Mi.mItT_ap, Mi.kIT_ok, Mi.mRng1_ap, Mi.kr1_ok, Mi.mRng2_ap, Mi.kr2_ok, Mi.mFor_ap, Mi.kFo_ok, Mi.mLoop_nil, Mi.kl1_some, Mi.kl2_nx, Mi.kl2_ct, Mi.kl2_bk, Mi.kl2_rt, Mi.kl2_exc, Mi.mLc_ap, Mi.kLc_ok, Mi.lc_nil, Mi.kz1_some, Mi.kz2_ok, Mi.kz3_ok, Mi.mYes_ap, Mi.mAug_ap, Mi.kU_some, Mi.kU2_int, Mi.mTry_ap, Mi.kTr_nx, Mi.kTr_rt, Mi.mMeth_ap, Mi.kMe_lst, Mi.kMe_own, Mi.mAppend_ap, Mi.kAp_some, Mi.kAp2_ok, Mi.kAp3_some, Mi.dAdd_int, Mi.dAdd_str, Mi.dAdd_tup, Mi.dAdd_ll, Mi.dAdd_lo, Mi.dAdd_ol, Mi.dAdd_oo, Mi.dSub_int, Mi.dMul_int, Mi.dMod_int, Mi.dFdiv_int, Mi.dPow_int, Mi.dNeg_int, Mi.dDivmod_int, Mi.dGt_int, Mi.dGe_int, Mi.dLe_int, Mi.dLtI_int, Mi.dLt_int, Mi.dEq_int, Mi.dNe_int, Mi.dMax2_int, Mi.dMin2_int, Mi.fn1_ap, Mi.fn2_ap, Mi.dLen_tup, Mi.dLen_lst, Mi.dLen_cst, Mi.dLen_own, Mi.fnM_ap, Mi.kfn_nx, Mi.kfn_rt, Mi.kfn_exc, Mi.fnO_ap, Mi.kfo_nx, Mi.kfo_rt, Mi.env0, Mi.envN, Mi.envS, Mi.wipeN, Mi.wipeS, Mi.lit_own, Mi.lit_lst, Mi.lit_cst, Mi.ix_own, Mi.ix_lst, Mi.ix_cst, Mi.ix_tup, Mi.dix_own, Mi.dix_lst, Mi.dix_cst, Mi.dix_tup, Mi.rng0, Mi.toL, Mi.end_lawL, Mi.btw_int, Mi.btw_bl, Mi.btw_non, Mi.btw_str, Mi.is_non_int, Mi.is_bl_int, Mi.is_int_int, Mi.is_str_int, Mi.is_tup_int, Mi.is_lst_int, Mi.is_cst_int, Mi.is_own_int, Mi.is_non_bool, Mi.is_bl_bool, Mi.is_int_bool, Mi.is_str_bool, Mi.is_tup_bool, Mi.is_lst_bool, Mi.is_cst_bool, Mi.is_own_bool, Mi.is_non_tuple, Mi.is_bl_tuple, Mi.is_int_tuple, Mi.is_str_tuple, Mi.is_tup_tuple, Mi.is_lst_tuple, Mi.is_cst_tuple, Mi.is_own_tuple, Mi.is_non_list, Mi.is_bl_list, Mi.is_int_list, Mi.is_str_list, Mi.is_tup_list, Mi.is_lst_list, Mi.is_cst_list, Mi.is_own_list, Mi.is_non_str, Mi.is_bl_str, Mi.is_int_str, Mi.is_str_str, Mi.is_tup_str, Mi.is_lst_str, Mi.is_cst_str, Mi.is_own_str, Mi.cast_lit, Mi.mPart_ap, Mi.kPt_ok, Mi.mNoPart_ap, Mi.mSl_ap, Mi.kSl1_ok, Mi.kSl2_ok, Mi.kSl3_ok, Mi.dSl_tup, Mi.dSl_lst, Mi.dSl_cst, Mi.mZip_ap, Mi.kZ_tup, Mi.kZ_lst, Mi.mPick_ap, Mi.kPk_ok, Mi.kPk2_some, Mi.at_0, Mi.at_1, Mi.at_2, Mi.at_3, Mi.isT_non, Mi.isT_bl, Mi.isT_int, Mi.isT_str, Mi.isT_tup, Mi.isT_lst, Mi.isT_cst, Mi.isT_own, Mi.dInt_bl, Mi.dIs_f_non, Mi.dIs_t_non, Mi.dIs_f_bl, Mi.dIs_t_bl, Mi.dIs_f_int, Mi.dIs_t_int, Mi.dIs_f_str, Mi.dIs_t_str, Mi.dIs_f_tup, Mi.dIs_t_tup, Mi.dIs_f_lst, Mi.dIs_t_lst, Mi.dIs_f_own, Mi.dIs_t_own, Mi.dIs_f_cst, Mi.dIs_t_cst, Mi.mLR1_ap, Mi.kLR1_ok, Mi.mLR2_ap, Mi.kLR2_ok, Mi.kLR2b_ok, Mi.mCallB_ap, Mi.kcB_some, Mi.kcB1_ok, Mi.kcB2_some, Mi.kcB3_bl, Mi.kcB3_exc, Mi.mExtend_ap, Mi.kEx_some, Mi.kEx2_ok, Mi.kEx3_some, Mi.dNotIn2, Mi.dIn2, Mi.dIsB_tt, Mi.dIsB_ft, Mi.dNotB_tt, Mi.dNotB_ft, D.frz, frzs, D.plain, plains, Bool.and_self, Bool.and_true, Bool.true_and, Bool.and_false, Bool.false_and, List.length_cons, List.length_nil, List.length_set, Nat.reduceAdd, Nat.zero_add, Nat.reduceLT, Nat.reduceLeDiff, sizeLine_eq, if_true, if_false, Bool.not_true, Bool.not_false, Bool.false_eq_true, decide_true, decide_false, and_self, and_true, true_and, List.cons_append, List.nil_append, Option.map_some, Option.bind_some, Int.reduceToNat, Int.reducePow, Int.reduceNeg, Int.reduceEq, Int.reduceLT, Int.reduceLE, Int.reduceAdd, Int.reduceSub, Int.reduceMul, eq_self, Mi.dat, not_true_eq_false, not_false_eq_true, Bool.or_self, Bool.or_true, Bool.or_false, Bool.false_or, Bool.true_or, false_and, and_false, true_or, or_true, false_or, or_false, c1, c2, c3, c4, c5, p, er]
    rw [Mi.rngS, Mi.mLoop_cons, hg, Mi.kl1_some, hb, Mi.kl2_nx, hl]
theorem v_box (ns : List Int) (k : Int) (h0 : 0 ≤ k) (hk : k < 1000) (hb : ∀ z ∈ ns, Builtin.Int.intBits z ≤ 1048576) : ∃ z : Int, F_w_box [.cst (ns.map D.int), .int k] = .ok (.own [.int z]) := by
  have hp := plains_ints ns
  have hz := frzs_ints ns
  obtain ⟨c, hc, ec⟩ := v_cell ns k h0 (by omega) hb
  have p2 : (0 : Int) < 2 := by decide
  have p3 : (0 : Int) < 2147483647 := by decide
  have w2 : CDivW c 2 := cdivw_small (by decide) (by decide)
  have s24 : small62 24 := by decide
  by_cases e : c % 2 = 0
  · refine ⟨c / 2, ?_⟩
    unfold F_w_box m_w_box
    simp only [Mi.kof_some, Mi.kof_none, Mi.mOp1_ap, Mi.k1_ok, Mi.k1_exc, Mi.mOp2_ap, Mi.k2a_ok, Mi.k2a_exc, Mi.k2b_ok, Mi.k2b_exc, Mi.mOpL_ap, Mi.kL_ok, Mi.kL_exc, Mi.mCons_ap, Mi.kca_ok, Mi.kca_exc, Mi.kcb_ok, Mi.kcb_exc, Mi.mNil_ap, Mi.mC_ap, Mi.mLst_ap, Mi.mTup_ap, Mi.kLst_ok, Mi.kTup_ok, Mi.mVar_ap, Mi.kV_some, Mi.mFrz_ap, Mi.kF_some, Mi.mMove_ap, Mi.kM_some, Mi.at0, Mi.atS, Mi.set0, Mi.setS, Mi.mT_ap, Mi.kT_ok, Mi.kT_exc, Mi.mNotT_ap, Mi.kN_ok, Mi.kN_exc, Mi.mAndT_ap, Mi.kA_ok, Mi.kA_exc, Mi.mOrT_ap, Mi.kO_ok, Mi.kO_exc, Mi.mAndV_ap, Mi.kAV_ok, Mi.mOrV_ap, Mi.kOV_ok, Mi.mIf_ap, Mi.kIf_ok, Mi.mChain_ap, Mi.kCh_ok, Mi.kCh1_ok, Mi.kCh2_ok, Mi.mSeq_ap, Mi.kS_nx, Mi.kS_rt, Mi.kS_exc, Mi.kS_bk, Mi.kS_ct, Mi.mNext_ap, Mi.mDrop_ap, Mi.kD_ok, Mi.kD_exc, Mi.mRet_ap, Mi.kR_ok, Mi.kR_exc, Mi.mRetN_ap, Mi.mIfS_ap, Mi.kI_ok, Mi.kI_exc, Mi.mAsg_ap, Mi.kG_ok, Mi.kG_exc, Mi.kG2_some, Mi.mgName_ap, Mi.mgTup_ap, Mi.mgCons_ap, Mi.kgs_some, Mi.mgNil_ap, Mi.mPar_ap, Mi.kP_ok, Mi.mPar3_ap, Mi.kP3_ok, Mi.ownAt_ap, Mi.kw_own, Mi.mSlotIx_ap, Mi.kX_some, Mi.kX2_ok, Mi.kX3_some, Mi.mCall_ap, Mi.kc_ok, Mi.kf_ok, Mi.kf_exc, Mi.mCallO_ap, Mi.kq_some, Mi.kq2_ok, Mi.kq3_some, Mi.kq4_ok, Mi.mSetIx_ap, Mi.ky_ok, Mi.ky2_some, Mi.ky3_ok, Mi.ky4_some, Mi.mItL_ap, Mi.kIL_ok, Mi.kRs_some, Mi.mItT_ap, Mi.kIT_ok, Mi.mRng1_ap, Mi.kr1_ok, Mi.mRng2_ap, Mi.kr2_ok, Mi.mFor_ap, Mi.kFo_ok, Mi.mLoop_nil, Mi.kl1_some, Mi.kl2_nx, Mi.kl2_ct, Mi.kl2_bk, Mi.kl2_rt, Mi.kl2_exc, Mi.mLc_ap, Mi.kLc_ok, Mi.lc_nil, Mi.kz1_some, Mi.kz2_ok, Mi.kz3_ok, Mi.mYes_ap, Mi.mAug_ap, Mi.kU_some, Mi.kU2_int, Mi.mTry_ap, Mi.kTr_nx, Mi.kTr_rt, Mi.mMeth_ap, Mi.kMe_lst, Mi.kMe_own, Mi.mAppend_ap, Mi.kAp_some, Mi.kAp2_ok, Mi.kAp3_some, Mi.dAdd_int, Mi.dAdd_str, Mi.dAdd_tup, Mi.dAdd_ll, Mi.dAdd_lo, Mi.dAdd_ol, Mi.dAdd_oo, Mi.dSub_int, Mi.dMul_int, Mi.dMod_int, Mi.dFdiv_int, Mi.dPow_int, Mi.dNeg_int, Mi.dDivmod_int, Mi.dGt_int, Mi.dGe_int, Mi.dLe_int, Mi.dLtI_int, Mi.dLt_int, Mi.dEq_int, Mi.dNe_int, Mi.dMax2_int, Mi.dMin2_int, Mi.fn1_ap, Mi.fn2_ap, Mi.dLen_tup, Mi.dLen_lst, Mi.dLen_cst, Mi.dLen_own, Mi.fnM_ap, Mi.kfn_nx, Mi.kfn_rt, Mi.kfn_exc, Mi.fnO_ap, Mi.kfo_nx, Mi.kfo_rt, Mi.env0, Mi.envN, Mi.envS, Mi.wipeN, Mi.wipeS, Mi.lit_own, Mi.lit_lst, Mi.lit_cst, Mi.ix_own, Mi.ix_lst, Mi.ix_cst, Mi.ix_tup, Mi.dix_own, Mi.dix_lst, Mi.dix_cst, Mi.dix_tup, Mi.rng0, Mi.toL, Mi.end_lawL, Mi.btw_int, Mi.btw_bl, Mi.btw_non, Mi.btw_str, Mi.is_non_int, Mi.is_bl_int, Mi.is_int_int, Mi.is_str_int, Mi.is_tup_int, Mi.is_lst_int, Mi.is_cst_int, Mi.is_own_int, Mi.is_non_bool, Mi.is_bl_bool, Mi.is_int_bool, Mi.is_str_bool, Mi.is_tup_bool, Mi.is_lst_bool, Mi.is_cst_bool, Mi.is_own_bool, Mi.is_non_tuple, Mi.is_bl_tuple, Mi.is_int_tuple, Mi.is_str_tuple, Mi.is_tup_tuple, Mi.is_lst_tuple, Mi.is_cst_tuple, Mi.is_own_tuple, Mi.is_non_list, Mi.is_bl_list, Mi.is_int_list, Mi.is_str_list, Mi.is_tup_list, Mi.is_lst_list, Mi.is_cst_list, Mi.is_own_list, Mi.is_non_str, Mi.is_bl_str, Mi.is_int_str, Mi.is_str_str, Mi.is_tup_str, Mi.is_lst_str, Mi.is_cst_str, Mi.is_own_str, Mi.cast_lit, Mi.mPart_ap, Mi.kPt_ok, Mi.mNoPart_ap, Mi.mSl_ap, Mi.kSl1_ok, Mi.kSl2_ok, Mi.kSl3_ok, Mi.dSl_tup, Mi.dSl_lst, Mi.dSl_cst, Mi.mZip_ap, Mi.kZ_tup, Mi.kZ_lst, Mi.mPick_ap, Mi.kPk_ok, Mi.kPk2_some, Mi.at_0, Mi.at_1, Mi.at_2, Mi.at_3, Mi.isT_non, Mi.isT_bl, Mi.isT_int, Mi.isT_str, Mi.isT_tup, Mi.isT_lst, Mi.isT_cst, Mi.isT_own, Mi.dInt_bl, Mi.dIs_f_non, Mi.dIs_t_non, Mi.dIs_f_bl, Mi.dIs_t_bl, Mi.dIs_f_int, Mi.dIs_t_int, Mi.dIs_f_str, Mi.dIs_t_str, Mi.dIs_f_tup, Mi.dIs_t_tup, Mi.dIs_f_lst, Mi.dIs_t_lst, Mi.dIs_f_own, Mi.dIs_t_own, Mi.dIs_f_cst, Mi.dIs_t_cst, Mi.mLR1_ap, Mi.kLR1_ok, Mi.mLR2_ap, Mi.kLR2_ok, Mi.kLR2b_ok, Mi.mCallB_ap, Mi.kcB_some, Mi.kcB1_ok, Mi.kcB2_some, Mi.kcB3_bl, Mi.kcB3_exc, Mi.mExtend_ap, Mi.kEx_some, Mi.kEx2_ok, Mi.kEx3_some, Mi.dNotIn2, Mi.dIn2, Mi.dIsB_tt, Mi.dIsB_ft, Mi.dNotB_tt, Mi.dNotB_ft, D.frz, frzs, D.plain, plains, Bool.and_self, Bool.and_true, Bool.true_and, Bool.and_false, Bool.false_and, List.length_cons, List.length_nil, List.length_set, Nat.reduceAdd, Nat.zero_add, Nat.reduceLT, Nat.reduceLeDiff, sizeLine_eq, if_true, if_false, Bool.not_true, Bool.not_false, Bool.false_eq_true, decide_true, decide_false, and_self, and_true, true_and, List.cons_append, List.nil_append, Option.map_some, Option.bind_some, Int.reduceToNat, Int.reducePow, Int.reduceNeg, Int.reduceEq, Int.reduceLT, Int.reduceLE, Int.reduceAdd, Int.reduceSub, Int.reduceMul, eq_self, Mi.dat, not_true_eq_false, not_false_eq_true, Bool.or_self, Bool.or_true, Bool.or_false, Bool.false_or, Bool.true_or, false_and, and_false, true_or, or_true, false_or, or_false, hp, hz, ec, p2, e, w2]
  · obtain ⟨x', o4, o', _, hl⟩ := box_loop (.cst (ns.map D.int)) k (.int c) h0 hk 24 0 0 (c % 2147483647) 64 none (by decide) (by decide) (by decide) (by decide) (by decide) (Int.emod_nonneg _ (by decide)) (Int.emod_lt_of_pos _ (by decide))
    refine ⟨x', ?_⟩
    unfold b_box at hl
    unfold F_w_box m_w_box
    simp -implicitDefEqProofs only [Mi.kof_some, Mi.kof_none, Mi.mOp1_ap, Mi.k1_ok, Mi.k1_exc, Mi.mOp2_ap, Mi.k2a_ok, Mi.k2a_exc, Mi.k2b_ok, Mi.k2b_exc, Mi.mOpL_ap, Mi.kL_ok, Mi.kL_exc, Mi.mCons_ap, Mi.kca_ok, Mi.kca_exc, Mi.kcb_ok, Mi.kcb_exc, Mi.mNil_ap, Mi.mC_ap, Mi.mLst_ap, Mi.mTup_ap, Mi.kLst_ok, Mi.kTup_ok, Mi.mVar_ap, Mi.kV_some, Mi.mFrz_ap, Mi.kF_some, Mi.mMove_ap, Mi.kM_some, Mi.at0, Mi.atS, Mi.set0, Mi.setS, Mi.mT_ap, Mi.kT_ok, Mi.kT_exc, Mi.mNotT_ap, Mi.kN_ok, Mi.kN_exc, Mi.mAndT_ap, Mi.kA_ok, Mi.kA_exc, Mi.mOrT_ap, Mi.kO_ok, Mi.kO_exc, Mi.mAndV_ap, Mi.kAV_ok, Mi.mOrV_ap, Mi.kOV_ok, Mi.mIf_ap, Mi.kIf_ok, Mi.mChain_ap, Mi.kCh_ok, Mi.kCh1_ok, Mi.kCh2_ok, Mi.mSeq_ap, Mi.kS_nx, Mi.kS_rt, Mi.kS_exc, Mi.kS_bk, Mi.kS_ct, Mi.mNext_ap, Mi.mDrop_ap, Mi.kD_ok, Mi.kD_exc, Mi.mRet_ap, Mi.kR_ok, Mi.kR_exc, Mi.mRetN_ap, Mi.mIfS_ap, Mi.kI_ok, Mi.kI_exc, Mi.mAsg_ap, Mi.kG_ok, Mi.kG_exc, Mi.kG2_some, Mi.mgName_ap, Mi.mgTup_ap, Mi.mgCons_ap, Mi.kgs_some, Mi.mgNil_ap, Mi.mPar_ap, Mi.kP_ok, Mi.mPar3_ap, Mi.kP3_ok, Mi.ownAt_ap, Mi.kw_own, Mi.mSlotIx_ap, Mi.kX_some, Mi.kX2_ok, Mi.kX3_some, Mi.mCall_ap, Mi.kc_ok, Mi.kf_ok, Mi.kf_exc, Mi.mCallO_ap, Mi.kq_some, Mi.kq2_ok, Mi.kq3_some, Mi.kq4_ok, Mi.mSetIx_ap, Mi.ky_ok, Mi.ky2_some, Mi.ky3_ok, Mi.ky4_some, Mi.mItL_ap, Mi.kIL_ok, Mi.kRs_some, Mi.mItT_ap, Mi.kIT_ok, Mi.mRng1_ap, Mi.kr1_ok, Mi.mRng2_ap, Mi.kr2_ok, Mi.mFor_ap, Mi.kFo_ok, Mi.mLoop_nil, Mi.kl1_some, Mi.kl2_nx, Mi.kl2_ct, Mi.kl2_bk, Mi.kl2_rt, Mi.kl2_exc, Mi.mLc_ap, Mi.kLc_ok, Mi.lc_nil, Mi.kz1_some, Mi.kz2_ok, Mi.kz3_ok, Mi.mYes_ap, Mi.mAug_ap, Mi.kU_some, Mi.kU2_int, Mi.mTry_ap, Mi.kTr_nx, Mi.kTr_rt, Mi.mMeth_ap, Mi.kMe_lst, Mi.kMe_own, Mi.mAppend_ap, Mi.kAp_some, Mi.kAp2_ok, Mi.kAp3_some, Mi.dAdd_int, Mi.dAdd_str, Mi.dAdd_tup, Mi.dAdd_ll, Mi.dAdd_lo, Mi.dAdd_ol, Mi.dAdd_oo, Mi.dSub_int, Mi.dMul_int, Mi.dMod_int, Mi.dFdiv_int, Mi.dPow_int, Mi.dNeg_int, Mi.dDivmod_int, Mi.dGt_int, Mi.dGe_int, Mi.dLe_int, Mi.dLtI_int, Mi.dLt_int, Mi.dEq_int, Mi.dNe_int, Mi.dMax2_int, Mi.dMin2_int, Mi.fn1_ap, Mi.fn2_ap, Mi.dLen_tup, Mi.dLen_lst, Mi.dLen_cst, Mi.dLen_own, Mi.fnM_ap, Mi.kfn_nx, Mi.kfn_rt, Mi.kfn_exc, Mi.fnO_ap, Mi.kfo_nx, Mi.kfo_rt, Mi.env0, Mi.envN, Mi.envS, Mi.wipeN, Mi.wipeS, Mi.lit_own, Mi.lit_lst, Mi.lit_cst, Mi.ix_own, Mi.ix_lst, Mi.ix_cst, Mi.ix_tup, Mi.dix_own, Mi.dix_lst, Mi.dix_cst, Mi.dix_tup, Mi.rng0, Mi.toL, Mi.end_lawL, Mi.btw_int, Mi.btw_bl, Mi.btw_non, Mi.btw_str, Mi.is_non_int, Mi.is_bl_int, Mi.is_int_int, Mi.is_str_int, Mi.is_tup_int, Mi.is_lst_int, Mi.is_cst_int, Mi.is_own_int, Mi.is_non_bool, Mi.is_bl_bool, Mi.is_int_bool, Mi.is_str_bool, Mi.is_tup_bool, Mi.is_lst_bool, Mi.is_cst_bool, Mi.is_own_bool, Mi.is_non_tuple, Mi.is_bl_tuple, Mi.is_int_tuple, Mi.is_str_tuple, Mi.is_tup_tuple, Mi.is_lst_tuple, Mi.is_cst_tuple, Mi.is_own_tuple, Mi.is_non_list, Mi.is_bl_list, Mi.is_int_list, Mi.is_str_list, Mi.is_tup_list, Mi.is_lst_list, Mi.is_cst_list, Mi.is_own_list, Mi.is_non_str, Mi.is_bl_str, Mi.is_int_str, Mi.is_str_str, Mi.is_tup_str, Mi.is_lst_str, Mi.is_cst_str, Mi.is_own_str, Mi.cast_lit, Mi.mPart_ap, Mi.kPt_ok, Mi.mNoPart_ap, Mi.mSl_ap, Mi.kSl1_ok, Mi.kSl2_ok, Mi.kSl3_ok, Mi.dSl_tup, Mi.dSl_lst, Mi.dSl_cst, Mi.mZip_ap, Mi.kZ_tup, Mi.kZ_lst, Mi.mPick_ap, Mi.kPk_ok, Mi.kPk2_some, Mi.at_0, Mi.at_1, Mi.at_2, Mi.at_3, Mi.isT_non, Mi.isT_bl, Mi.isT_int, Mi.isT_str, Mi.isT_tup, Mi.isT_lst, Mi.isT_cst, Mi.isT_own, Mi.dInt_bl, Mi.dIs_f_non, Mi.dIs_t_non, Mi.dIs_f_bl, Mi.dIs_t_bl, Mi.dIs_f_int, Mi.dIs_t_int, Mi.dIs_f_str, Mi.dIs_t_str, Mi.dIs_f_tup, Mi.dIs_t_tup, Mi.dIs_f_lst, Mi.dIs_t_lst, Mi.dIs_f_own, Mi.dIs_t_own, Mi.dIs_f_cst, Mi.dIs_t_cst, Mi.mLR1_ap, Mi.kLR1_ok, Mi.mLR2_ap, Mi.kLR2_ok, Mi.kLR2b_ok, Mi.mCallB_ap, Mi.kcB_some, Mi.kcB1_ok, Mi.kcB2_some, Mi.kcB3_bl, Mi.kcB3_exc, Mi.mExtend_ap, Mi.kEx_some, Mi.kEx2_ok, Mi.kEx3_some, Mi.dNotIn2, Mi.dIn2, Mi.dIsB_tt, Mi.dIsB_ft, Mi.dNotB_tt, Mi.dNotB_ft, D.frz, frzs, D.plain, plains, Bool.and_self, Bool.and_true, Bool.true_and, Bool.and_false, Bool.false_and, List.length_cons, List.length_nil, List.length_set, Nat.reduceAdd, Nat.zero_add, Nat.reduceLT, Nat.reduceLeDiff, sizeLine_eq, if_true, if_false, Bool.not_true, Bool.not_false, Bool.false_eq_true, decide_true, decide_false, and_self, and_true, true_and, List.cons_append, List.nil_append, Option.map_some, Option.bind_some, Int.reduceToNat, Int.reducePow, Int.reduceNeg, Int.reduceEq, Int.reduceLT, Int.reduceLE, Int.reduceAdd, Int.reduceSub, Int.reduceMul, eq_self, Mi.dat, not_true_eq_false, not_false_eq_true, Bool.or_self, Bool.or_true, Bool.or_false, Bool.false_or, Bool.true_or, false_and, and_false, true_or, or_true, false_or, or_false, hp, hz, ec, p2, p3, e, w2, s24, hl]
structure Good (n k a b : Int) : Prop where
  n0 : 3 ≤ n
  n1 : n ≤ 1000000
  k0 : 1 ≤ k
  k1 : k ≤ n - 2
  a0 : 0 ≤ a
  a1 : a < k
  b0 : 0 ≤ b
  b1 : b ≤ k
def isGood (d : D) : Prop := ∃ n k a b, d = .tup [.int n, .int k, .int a, .int b] ∧ Good n k a b
theorem at_mem {P : D → Prop} : ∀ {xs : List D} {i : Int}, (∀ x ∈ xs, P x) → 0 ≤ i → i < xs.length → ∃ x, atI xs i = some x ∧ P x := by
  intro xs i h h0 h1
  have hk : i.toNat < xs.length := by omega
  exact ⟨xs[i.toNat], by rw [atI_pos h0 hk, List.getElem?_eq_getElem hk], h _ (List.getElem_mem hk)⟩
theorem are_good {n k a b : Int} (G : Good n k a b) : F_are_numbers [.tup [.int n, .int k, .int a, .int b]] = .ok (.bl true) := by
  obtain ⟨h1, h2, h3, h4, h5, h6, h7, h8⟩ := G
  have h6 : a ≤ k - 1 := by omega
  unfold F_are_numbers m_are_numbers
  simp -implicitDefEqProofs only [Mi.kof_some, Mi.kof_none, Mi.mOp1_ap, Mi.k1_ok, Mi.k1_exc, Mi.mOp2_ap, Mi.k2a_ok, Mi.k2a_exc, Mi.k2b_ok, Mi.k2b_exc, Mi.mOpL_ap, Mi.kL_ok, Mi.kL_exc, Mi.mCons_ap, Mi.kca_ok, Mi.kca_exc, Mi.kcb_ok, Mi.kcb_exc, Mi.mNil_ap, Mi.mC_ap, Mi.mLst_ap, Mi.mTup_ap, Mi.kLst_ok, Mi.kTup_ok, Mi.mVar_ap, Mi.kV_some, Mi.mFrz_ap, Mi.kF_some, Mi.mMove_ap, Mi.kM_some, Mi.at0, Mi.atS, Mi.set0, Mi.setS, Mi.mT_ap, Mi.kT_ok, Mi.kT_exc, Mi.mNotT_ap, Mi.kN_ok, Mi.kN_exc, Mi.mAndT_ap, Mi.kA_ok, Mi.kA_exc, Mi.mOrT_ap, Mi.kO_ok, Mi.kO_exc, Mi.mAndV_ap, Mi.kAV_ok, Mi.mOrV_ap, Mi.kOV_ok, Mi.mIf_ap, Mi.kIf_ok, Mi.mChain_ap, Mi.kCh_ok, Mi.kCh1_ok, Mi.kCh2_ok, Mi.mSeq_ap, Mi.kS_nx, Mi.kS_rt, Mi.kS_exc, Mi.kS_bk, Mi.kS_ct, Mi.mNext_ap, Mi.mDrop_ap, Mi.kD_ok, Mi.kD_exc, Mi.mRet_ap, Mi.kR_ok, Mi.kR_exc, Mi.mRetN_ap, Mi.mIfS_ap, Mi.kI_ok, Mi.kI_exc, Mi.mAsg_ap, Mi.kG_ok, Mi.kG_exc, Mi.kG2_some, Mi.mgName_ap, Mi.mgTup_ap, Mi.mgCons_ap, Mi.kgs_some, Mi.mgNil_ap, Mi.mPar_ap, Mi.kP_ok, Mi.mPar3_ap, Mi.kP3_ok, Mi.ownAt_ap, Mi.kw_own, Mi.mSlotIx_ap, Mi.kX_some, Mi.kX2_ok, Mi.kX3_some, Mi.mCall_ap, Mi.kc_ok, Mi.kf_ok, Mi.kf_exc, Mi.mCallO_ap, Mi.kq_some, Mi.kq2_ok, Mi.kq3_some, Mi.kq4_ok, Mi.mSetIx_ap, Mi.ky_ok, Mi.ky2_some, Mi.ky3_ok, Mi.ky4_some, Mi.mItL_ap, Mi.kIL_ok, Mi.kRs_some, Mi.mItT_ap, Mi.kIT_ok, Mi.mRng1_ap, Mi.kr1_ok, Mi.mRng2_ap, Mi.kr2_ok, Mi.mFor_ap, Mi.kFo_ok, Mi.mLoop_nil, Mi.kl1_some, Mi.kl2_nx, Mi.kl2_ct, Mi.kl2_bk, Mi.kl2_rt, Mi.kl2_exc, Mi.mLc_ap, Mi.kLc_ok, Mi.lc_nil, Mi.kz1_some, Mi.kz2_ok, Mi.kz3_ok, Mi.mYes_ap, Mi.mAug_ap, Mi.kU_some, Mi.kU2_int, Mi.mTry_ap, Mi.kTr_nx, Mi.kTr_rt, Mi.mMeth_ap, Mi.kMe_lst, Mi.kMe_own, Mi.mAppend_ap, Mi.kAp_some, Mi.kAp2_ok, Mi.kAp3_some, Mi.dAdd_int, Mi.dAdd_str, Mi.dAdd_tup, Mi.dAdd_ll, Mi.dAdd_lo, Mi.dAdd_ol, Mi.dAdd_oo, Mi.dSub_int, Mi.dMul_int, Mi.dMod_int, Mi.dFdiv_int, Mi.dPow_int, Mi.dNeg_int, Mi.dDivmod_int, Mi.dGt_int, Mi.dGe_int, Mi.dLe_int, Mi.dLtI_int, Mi.dLt_int, Mi.dEq_int, Mi.dNe_int, Mi.dMax2_int, Mi.dMin2_int, Mi.fn1_ap, Mi.fn2_ap, Mi.dLen_tup, Mi.dLen_lst, Mi.dLen_cst, Mi.dLen_own, Mi.fnM_ap, Mi.kfn_nx, Mi.kfn_rt, Mi.kfn_exc, Mi.fnO_ap, Mi.kfo_nx, Mi.kfo_rt, Mi.env0, Mi.envN, Mi.envS, Mi.wipeN, Mi.wipeS, Mi.lit_own, Mi.lit_lst, Mi.lit_cst, Mi.ix_own, Mi.ix_lst, Mi.ix_cst, Mi.ix_tup, Mi.dix_own, Mi.dix_lst, Mi.dix_cst, Mi.dix_tup, Mi.rng0, Mi.toL, Mi.end_lawL, Mi.btw_int, Mi.btw_bl, Mi.btw_non, Mi.btw_str, Mi.is_non_int, Mi.is_bl_int, Mi.is_int_int, Mi.is_str_int, Mi.is_tup_int, Mi.is_lst_int, Mi.is_cst_int, Mi.is_own_int, Mi.is_non_bool, Mi.is_bl_bool, Mi.is_int_bool, Mi.is_str_bool, Mi.is_tup_bool, Mi.is_lst_bool, Mi.is_cst_bool, Mi.is_own_bool, Mi.is_non_tuple, Mi.is_bl_tuple, Mi.is_int_tuple, Mi.is_str_tuple, Mi.is_tup_tuple, Mi.is_lst_tuple, Mi.is_cst_tuple, Mi.is_own_tuple, Mi.is_non_list, Mi.is_bl_list, Mi.is_int_list, Mi.is_str_list, Mi.is_tup_list, Mi.is_lst_list, Mi.is_cst_list, Mi.is_own_list, Mi.is_non_str, Mi.is_bl_str, Mi.is_int_str, Mi.is_str_str, Mi.is_tup_str, Mi.is_lst_str, Mi.is_cst_str, Mi.is_own_str, Mi.cast_lit, Mi.mPart_ap, Mi.kPt_ok, Mi.mNoPart_ap, Mi.mSl_ap, Mi.kSl1_ok, Mi.kSl2_ok, Mi.kSl3_ok, Mi.dSl_tup, Mi.dSl_lst, Mi.dSl_cst, Mi.mZip_ap, Mi.kZ_tup, Mi.kZ_lst, Mi.mPick_ap, Mi.kPk_ok, Mi.kPk2_some, Mi.at_0, Mi.at_1, Mi.at_2, Mi.at_3, Mi.isT_non, Mi.isT_bl, Mi.isT_int, Mi.isT_str, Mi.isT_tup, Mi.isT_lst, Mi.isT_cst, Mi.isT_own, Mi.dInt_bl, Mi.dIs_f_non, Mi.dIs_t_non, Mi.dIs_f_bl, Mi.dIs_t_bl, Mi.dIs_f_int, Mi.dIs_t_int, Mi.dIs_f_str, Mi.dIs_t_str, Mi.dIs_f_tup, Mi.dIs_t_tup, Mi.dIs_f_lst, Mi.dIs_t_lst, Mi.dIs_f_own, Mi.dIs_t_own, Mi.dIs_f_cst, Mi.dIs_t_cst, Mi.mLR1_ap, Mi.kLR1_ok, Mi.mLR2_ap, Mi.kLR2_ok, Mi.kLR2b_ok, Mi.mCallB_ap, Mi.kcB_some, Mi.kcB1_ok, Mi.kcB2_some, Mi.kcB3_bl, Mi.kcB3_exc, Mi.mExtend_ap, Mi.kEx_some, Mi.kEx2_ok, Mi.kEx3_some, Mi.dNotIn2, Mi.dIn2, Mi.dIsB_tt, Mi.dIsB_ft, Mi.dNotB_tt, Mi.dNotB_ft, D.frz, frzs, D.plain, plains, Bool.and_self, Bool.and_true, Bool.true_and, Bool.and_false, Bool.false_and, List.length_cons, List.length_nil, List.length_set, Nat.reduceAdd, Nat.zero_add, Nat.reduceLT, Nat.reduceLeDiff, sizeLine_eq, if_true, if_false, Bool.not_true, Bool.not_false, Bool.false_eq_true, decide_true, decide_false, and_self, and_true, true_and, List.cons_append, List.nil_append, Option.map_some, Option.bind_some, Int.reduceToNat, Int.reducePow, Int.reduceNeg, Int.reduceEq, Int.reduceLT, Int.reduceLE, Int.reduceAdd, Int.reduceSub, Int.reduceMul, eq_self, Mi.dat, not_true_eq_false, not_false_eq_true, Bool.or_self, Bool.or_true, Bool.or_false, Bool.false_or, Bool.true_or, false_and, and_false, true_or, or_true, false_or, or_false, vb_int, h1, h2, h3, h4, h5, h6, h7, h8]
end Lw
namespace Lw
open PySem PySem.Spec PyProof.Rows L2 Mi
/-- a box gives numbers -/
def Gives (z : Int) : Prop := ∃ n k a b z' : Int, Good n k a b ∧ F_w_numbers [.int z] [] = .ok (.tup [.int n, .int k, .int a, .int b]) [.int z']
theorem num_0 (z : Int) (h : z % 6 = 0) : Gives z := by
  have t1 := v_take z 6 (by decide) (by decide)
  have t2 := v_take (z / 6) 18 (by decide) (by decide)
  have w : CPow 10 6 := by decide
  obtain ⟨x, hx, n, k, a, b, rfl, G⟩ := at_mem (P := isGood) (i := z / 6 % 18) (xs := [.tup [.int 5, .int 2, .int 0, .int 1], .tup [.int 9, .int 4, .int 1, .int 2], .tup [.int 10, .int 3, .int 0, .int 1], .tup [.int 13, .int 6, .int 2, .int 3], .tup [.int 15, .int 6, .int 1, .int 3], .tup [.int 16, .int 5, .int 0, .int 2], .tup [.int 16, .int 6, .int 2, .int 2],
     .tup [.int 27, .int 10, .int 1, .int 5], .tup [.int 28, .int 9, .int 0, .int 4], .tup [.int 21, .int 10, .int 3, .int 6], .tup [.int 50, .int 7, .int 0, .int 1], .tup [.int 49, .int 16, .int 3, .int 6], .tup [.int 3250, .int 57, .int 0, .int 1],
     .tup [.int 21, .int 10, .int 4, .int 5], .tup [.int 33, .int 16, .int 7, .int 8], .tup [.int 57, .int 14, .int 1, .int 4], .tup [.int 99, .int 14, .int 1, .int 2], .tup [.int 999999, .int 999997, .int 7, .int 1]]) (by
    intro x hx
    simp only [List.mem_cons, List.not_mem_nil, or_false] at hx
    rcases hx with rfl | rfl | rfl | rfl | rfl | rfl | rfl | rfl | rfl | rfl | rfl | rfl | rfl | rfl | rfl | rfl | rfl | rfl <;> exact ⟨_, _, _, _, rfl, by constructor <;> decide⟩) (Int.emod_nonneg _ (by decide)) (by show z / 6 % 18 < 18; exact Int.emod_lt_of_pos _ (by decide))
  refine ⟨n, k, a, b, z / 6 / 18, G, ?_⟩
  unfold F_w_numbers m_w_numbers
  simp -implicitDefEqProofs only [Mi.kof_some, Mi.kof_none, Mi.mOp1_ap, Mi.k1_ok, Mi.k1_exc, Mi.mOp2_ap, Mi.k2a_ok, Mi.k2a_exc, Mi.k2b_ok, Mi.k2b_exc, Mi.mOpL_ap, Mi.kL_ok, Mi.kL_exc, Mi.mCons_ap, Mi.kca_ok, Mi.kca_exc, Mi.kcb_ok, Mi.kcb_exc, Mi.mNil_ap, Mi.mC_ap, Mi.mLst_ap, Mi.mTup_ap, Mi.kLst_ok, Mi.kTup_ok, Mi.mVar_ap, Mi.kV_some, Mi.mFrz_ap, Mi.kF_some, Mi.mMove_ap, Mi.kM_some, Mi.at0, Mi.atS, Mi.set0, Mi.setS, Mi.mT_ap, Mi.kT_ok, Mi.kT_exc, Mi.mNotT_ap, Mi.kN_ok, Mi.kN_exc, Mi.mAndT_ap, Mi.kA_ok, Mi.kA_exc, Mi.mOrT_ap, Mi.kO_ok, Mi.kO_exc, Mi.mAndV_ap, Mi.kAV_ok, Mi.mOrV_ap, Mi.kOV_ok, Mi.mIf_ap, Mi.kIf_ok, Mi.mChain_ap, Mi.kCh_ok, Mi.kCh1_ok, Mi.kCh2_ok, Mi.mSeq_ap, Mi.kS_nx, Mi.kS_rt, Mi.kS_exc, Mi.kS_bk, Mi.kS_ct, Mi.mNext_ap, Mi.mDrop_ap, Mi.kD_ok, Mi.kD_exc, Mi.mRet_ap, Mi.kR_ok, Mi.kR_exc, Mi.mRetN_ap, Mi.mIfS_ap, Mi.kI_ok, Mi.kI_exc, Mi.mAsg_ap, Mi.kG_ok, Mi.kG_exc, Mi.kG2_some, Mi.mgName_ap, Mi.mgTup_ap, Mi.mgCons_ap, Mi.kgs_some, Mi.mgNil_ap, Mi.mPar_ap, Mi.kP_ok, Mi.mPar3_ap, Mi.kP3_ok, Mi.ownAt_ap, Mi.kw_own, Mi.mSlotIx_ap, Mi.kX_some, Mi.kX2_ok, Mi.kX3_some, Mi.mCall_ap, Mi.kc_ok, Mi.kf_ok, Mi.kf_exc, Mi.mCallO_ap, Mi.kq_some, Mi.kq2_ok, Mi.kq3_some, Mi.kq4_ok, Mi.mSetIx_ap, Mi.ky_ok, Mi.ky2_some, Mi.ky3_ok, Mi.ky4_some, Mi.mItL_ap, Mi.kIL_ok, Mi.kRs_some, Mi.mItT_ap, Mi.kIT_ok, Mi.mRng1_ap, Mi.kr1_ok, Mi.mRng2_ap, Mi.kr2_ok, Mi.mFor_ap, Mi.kFo_ok, Mi.mLoop_nil, Mi.kl1_some, Mi.kl2_nx, Mi.kl2_ct, Mi.kl2_bk, Mi.kl2_rt, Mi.kl2_exc, Mi.mLc_ap, Mi.kLc_ok, Mi.lc_nil, Mi.kz1_some, Mi.kz2_ok, Mi.kz3_ok, Mi.mYes_ap, Mi.mAug_ap, Mi.kU_some, Mi.kU2_int, Mi.mTry_ap, Mi.kTr_nx, Mi.kTr_rt, Mi.mMeth_ap, Mi.kMe_lst, Mi.kMe_own, Mi.mAppend_ap, Mi.kAp_some, Mi.kAp2_ok, Mi.kAp3_some, Mi.dAdd_int, Mi.dAdd_str, Mi.dAdd_tup, Mi.dAdd_ll, Mi.dAdd_lo, Mi.dAdd_ol, Mi.dAdd_oo, Mi.dSub_int, Mi.dMul_int, Mi.dMod_int, Mi.dFdiv_int, Mi.dPow_int, Mi.dNeg_int, Mi.dDivmod_int, Mi.dGt_int, Mi.dGe_int, Mi.dLe_int, Mi.dLtI_int, Mi.dLt_int, Mi.dEq_int, Mi.dNe_int, Mi.dMax2_int, Mi.dMin2_int, Mi.fn1_ap, Mi.fn2_ap, Mi.dLen_tup, Mi.dLen_lst, Mi.dLen_cst, Mi.dLen_own, Mi.fnM_ap, Mi.kfn_nx, Mi.kfn_rt, Mi.kfn_exc, Mi.fnO_ap, Mi.kfo_nx, Mi.kfo_rt, Mi.env0, Mi.envN, Mi.envS, Mi.wipeN, Mi.wipeS, Mi.lit_own, Mi.lit_lst, Mi.lit_cst, Mi.ix_own, Mi.ix_lst, Mi.ix_cst, Mi.ix_tup, Mi.dix_own, Mi.dix_lst, Mi.dix_cst, Mi.dix_tup, Mi.rng0, Mi.toL, Mi.end_lawL, Mi.btw_int, Mi.btw_bl, Mi.btw_non, Mi.btw_str, Mi.is_non_int, Mi.is_bl_int, Mi.is_int_int, Mi.is_str_int, Mi.is_tup_int, Mi.is_lst_int, Mi.is_cst_int, Mi.is_own_int, Mi.is_non_bool, Mi.is_bl_bool, Mi.is_int_bool, Mi.is_str_bool, Mi.is_tup_bool, Mi.is_lst_bool, Mi.is_cst_bool, Mi.is_own_bool, Mi.is_non_tuple, Mi.is_bl_tuple, Mi.is_int_tuple, Mi.is_str_tuple, Mi.is_tup_tuple, Mi.is_lst_tuple, Mi.is_cst_tuple, Mi.is_own_tuple, Mi.is_non_list, Mi.is_bl_list, Mi.is_int_list, Mi.is_str_list, Mi.is_tup_list, Mi.is_lst_list, Mi.is_cst_list, Mi.is_own_list, Mi.is_non_str, Mi.is_bl_str, Mi.is_int_str, Mi.is_str_str, Mi.is_tup_str, Mi.is_lst_str, Mi.is_cst_str, Mi.is_own_str, Mi.cast_lit, Mi.mPart_ap, Mi.kPt_ok, Mi.mNoPart_ap, Mi.mSl_ap, Mi.kSl1_ok, Mi.kSl2_ok, Mi.kSl3_ok, Mi.dSl_tup, Mi.dSl_lst, Mi.dSl_cst, Mi.mZip_ap, Mi.kZ_tup, Mi.kZ_lst, Mi.mPick_ap, Mi.kPk_ok, Mi.kPk2_some, Mi.at_0, Mi.at_1, Mi.at_2, Mi.at_3, Mi.isT_non, Mi.isT_bl, Mi.isT_int, Mi.isT_str, Mi.isT_tup, Mi.isT_lst, Mi.isT_cst, Mi.isT_own, Mi.dInt_bl, Mi.dIs_f_non, Mi.dIs_t_non, Mi.dIs_f_bl, Mi.dIs_t_bl, Mi.dIs_f_int, Mi.dIs_t_int, Mi.dIs_f_str, Mi.dIs_t_str, Mi.dIs_f_tup, Mi.dIs_t_tup, Mi.dIs_f_lst, Mi.dIs_t_lst, Mi.dIs_f_own, Mi.dIs_t_own, Mi.dIs_f_cst, Mi.dIs_t_cst, Mi.mLR1_ap, Mi.kLR1_ok, Mi.mLR2_ap, Mi.kLR2_ok, Mi.kLR2b_ok, Mi.mCallB_ap, Mi.kcB_some, Mi.kcB1_ok, Mi.kcB2_some, Mi.kcB3_bl, Mi.kcB3_exc, Mi.mExtend_ap, Mi.kEx_some, Mi.kEx2_ok, Mi.kEx3_some, Mi.dNotIn2, Mi.dIn2, Mi.dIsB_tt, Mi.dIsB_ft, Mi.dNotB_tt, Mi.dNotB_ft, D.frz, frzs, D.plain, plains, Bool.and_self, Bool.and_true, Bool.true_and, Bool.and_false, Bool.false_and, List.length_cons, List.length_nil, List.length_set, Nat.reduceAdd, Nat.zero_add, Nat.reduceLT, Nat.reduceLeDiff, sizeLine_eq, if_true, if_false, Bool.not_true, Bool.not_false, Bool.false_eq_true, decide_true, decide_false, and_self, and_true, true_and, List.cons_append, List.nil_append, Option.map_some, Option.bind_some, Int.reduceToNat, Int.reducePow, Int.reduceNeg, Int.reduceEq, Int.reduceLT, Int.reduceLE, Int.reduceAdd, Int.reduceSub, Int.reduceMul, eq_self, Mi.dat, not_true_eq_false, not_false_eq_true, Bool.or_self, Bool.or_true, Bool.or_false, Bool.false_or, Bool.true_or, false_and, and_false, true_or, or_true, false_or, or_false, t1, t2, h, w, hx]
/-- what is drawn first: n and k -/
theorem first_nk (z : Int) : ∃ m1 r1 z1 r2 z2 : Int, atI [D.int 12, D.int 60, D.int 999997] (z % 3) = some (.int m1) ∧ z / 3 % m1 = r1 ∧ z / 3 / m1 = z1 ∧ z1 % (4 + r1 - 2) = r2 ∧ z1 / (4 + r1 - 2) = z2 ∧ 0 ≤ r1 ∧ r1 ≤ 999996 ∧ 0 ≤ r2 ∧ r2 < 2 + r1 ∧ 0 < m1 ∧ m1 ≤ 999997 := by
  obtain ⟨m1, h1, p1, q1⟩ : ∃ m1 : Int, atI [D.int 12, D.int 60, D.int 999997] (z % 3) = some (.int m1) ∧ 0 < m1 ∧ m1 ≤ 999997 := by
    have : z % 3 = 0 ∨ z % 3 = 1 ∨ z % 3 = 2 := by omega
    rcases this with e | e | e <;> rw [e]
    · exact ⟨12, rfl, by decide, by decide⟩
    · exact ⟨60, rfl, by decide, by decide⟩
    · exact ⟨999997, rfl, by decide, by decide⟩
  have g0 : 0 ≤ z / 3 % m1 := Int.emod_nonneg _ (by omega)
  have g1 : z / 3 % m1 < m1 := Int.emod_lt_of_pos _ p1
  have g2 : 0 ≤ z / 3 / m1 % (4 + z / 3 % m1 - 2) := Int.emod_nonneg _ (by omega)
  have g3 : z / 3 / m1 % (4 + z / 3 % m1 - 2) < 4 + z / 3 % m1 - 2 := Int.emod_lt_of_pos _ (by omega)
  exact ⟨m1, _, _, _, _, h1, rfl, rfl, rfl, rfl, g0, by omega, g2, by omega, p1, q1⟩
theorem mul_ge {m s l : Int} (h : l ≤ m) (hs : 0 ≤ s) : l * s ≤ m * s := Int.mul_le_mul_of_nonneg_right h hs
theorem num_1 (z : Int) (h : z % 6 = 1) : Gives z := by
  obtain ⟨m1, r1, z1, r2, z2, h1, e1, e2, e3, e4, b1, b2, b3, b4, b5, b6⟩ := first_nk (z / 6)
  have t1 := v_take z 6 (by decide) (by decide)
  have t2 := v_take (z / 6) 3 (by decide) (by decide)
  have t3 := v_take (z / 6 / 3) m1 b5 (by omega)
  have t4 := v_take z1 (4 + r1 - 2) (by omega) (by omega)
  have t5 := v_take z2 900 (by decide) (by decide)
  have t6 := v_take (z2 / 900) 900 (by decide) (by decide)
  have t7 := v_take (z2 / 900 / 900) 2 (by decide) (by decide)
  obtain ⟨m, em⟩ : ∃ m, 2 + z2 % 900 = m := ⟨_, rfl⟩
  obtain ⟨s, es⟩ : ∃ s, 2 + z2 / 900 % 900 = s := ⟨_, rfl⟩
  have gm : 2 ≤ m ∧ m ≤ 901 := by omega
  have gs : 2 ≤ s ∧ s ≤ 901 := by omega
  have w : CPow 10 6 := by decide
  have c1 : CMulX m s := cmulx64 (by omega) (by omega)
  have c2 : CMulX (m - 1) s := cmulx64 (by omega) (by omega)
  have c3 : CMulX (m - 2) s := cmulx64 (by omega) (by omega)
  have x1 : 2 * s ≤ m * s := mul_ge gm.1 (by omega)
  have x2 : m * s ≤ 901 * s := mul_ge gm.2 (by omega)
  have x3 : (m - 1) * s = m * s - s := by rw [Int.sub_mul, Int.one_mul]
  have x4 : (m - 2) * s = m * s - 2 * s := by rw [Int.sub_mul]
  obtain ⟨x, hx, n, k, a, b, rfl, G⟩ := at_mem (P := isGood) (i := z2 / 900 / 900 % 2) (xs := [.tup [.int (m * s), .int (s - 1), .int (s - 2), .int 0], .tup [.int (m * s), .int ((m - 1) * s), .int ((m - 2) * s), .int ((m - 1) * s)]]) (by
    intro x hx
    simp only [List.mem_cons, List.not_mem_nil, or_false] at hx
    rcases hx with rfl | rfl
    · exact ⟨_, _, _, _, rfl, by constructor <;> omega⟩
    · rw [x3, x4]; exact ⟨_, _, _, _, rfl, by constructor <;> omega⟩) (Int.emod_nonneg _ (by decide)) (by show z2 / 900 / 900 % 2 < 2; exact Int.emod_lt_of_pos _ (by decide))
  refine ⟨n, k, a, b, z2 / 900 / 900 / 2, G, ?_⟩
  unfold F_w_numbers m_w_numbers
  simp -implicitDefEqProofs only [Mi.kof_some, Mi.kof_none, Mi.mOp1_ap, Mi.k1_ok, Mi.k1_exc, Mi.mOp2_ap, Mi.k2a_ok, Mi.k2a_exc, Mi.k2b_ok, Mi.k2b_exc, Mi.mOpL_ap, Mi.kL_ok, Mi.kL_exc, Mi.mCons_ap, Mi.kca_ok, Mi.kca_exc, Mi.kcb_ok, Mi.kcb_exc, Mi.mNil_ap, Mi.mC_ap, Mi.mLst_ap, Mi.mTup_ap, Mi.kLst_ok, Mi.kTup_ok, Mi.mVar_ap, Mi.kV_some, Mi.mFrz_ap, Mi.kF_some, Mi.mMove_ap, Mi.kM_some, Mi.at0, Mi.atS, Mi.set0, Mi.setS, Mi.mT_ap, Mi.kT_ok, Mi.kT_exc, Mi.mNotT_ap, Mi.kN_ok, Mi.kN_exc, Mi.mAndT_ap, Mi.kA_ok, Mi.kA_exc, Mi.mOrT_ap, Mi.kO_ok, Mi.kO_exc, Mi.mAndV_ap, Mi.kAV_ok, Mi.mOrV_ap, Mi.kOV_ok, Mi.mIf_ap, Mi.kIf_ok, Mi.mChain_ap, Mi.kCh_ok, Mi.kCh1_ok, Mi.kCh2_ok, Mi.mSeq_ap, Mi.kS_nx, Mi.kS_rt, Mi.kS_exc, Mi.kS_bk, Mi.kS_ct, Mi.mNext_ap, Mi.mDrop_ap, Mi.kD_ok, Mi.kD_exc, Mi.mRet_ap, Mi.kR_ok, Mi.kR_exc, Mi.mRetN_ap, Mi.mIfS_ap, Mi.kI_ok, Mi.kI_exc, Mi.mAsg_ap, Mi.kG_ok, Mi.kG_exc, Mi.kG2_some, Mi.mgName_ap, Mi.mgTup_ap, Mi.mgCons_ap, Mi.kgs_some, Mi.mgNil_ap, Mi.mPar_ap, Mi.kP_ok, Mi.mPar3_ap, Mi.kP3_ok, Mi.ownAt_ap, Mi.kw_own, Mi.mSlotIx_ap, Mi.kX_some, Mi.kX2_ok, Mi.kX3_some, Mi.mCall_ap, Mi.kc_ok, Mi.kf_ok, Mi.kf_exc, Mi.mCallO_ap, Mi.kq_some, Mi.kq2_ok, Mi.kq3_some, Mi.kq4_ok, Mi.mSetIx_ap, Mi.ky_ok, Mi.ky2_some, Mi.ky3_ok, Mi.ky4_some, Mi.mItL_ap, Mi.kIL_ok, Mi.kRs_some, Mi.mItT_ap, Mi.kIT_ok, Mi.mRng1_ap, Mi.kr1_ok, Mi.mRng2_ap, Mi.kr2_ok, Mi.mFor_ap, Mi.kFo_ok, Mi.mLoop_nil, Mi.kl1_some, Mi.kl2_nx, Mi.kl2_ct, Mi.kl2_bk, Mi.kl2_rt, Mi.kl2_exc, Mi.mLc_ap, Mi.kLc_ok, Mi.lc_nil, Mi.kz1_some, Mi.kz2_ok, Mi.kz3_ok, Mi.mYes_ap, Mi.mAug_ap, Mi.kU_some, Mi.kU2_int, Mi.mTry_ap, Mi.kTr_nx, Mi.kTr_rt, Mi.mMeth_ap, Mi.kMe_lst, Mi.kMe_own, Mi.mAppend_ap, Mi.kAp_some, Mi.kAp2_ok, Mi.kAp3_some, Mi.dAdd_int, Mi.dAdd_str, Mi.dAdd_tup, Mi.dAdd_ll, Mi.dAdd_lo, Mi.dAdd_ol, Mi.dAdd_oo, Mi.dSub_int, Mi.dMul_int, Mi.dMod_int, Mi.dFdiv_int, Mi.dPow_int, Mi.dNeg_int, Mi.dDivmod_int, Mi.dGt_int, Mi.dGe_int, Mi.dLe_int, Mi.dLtI_int, Mi.dLt_int, Mi.dEq_int, Mi.dNe_int, Mi.dMax2_int, Mi.dMin2_int, Mi.fn1_ap, Mi.fn2_ap, Mi.dLen_tup, Mi.dLen_lst, Mi.dLen_cst, Mi.dLen_own, Mi.fnM_ap, Mi.kfn_nx, Mi.kfn_rt, Mi.kfn_exc, Mi.fnO_ap, Mi.kfo_nx, Mi.kfo_rt, Mi.env0, Mi.envN, Mi.envS, Mi.wipeN, Mi.wipeS, Mi.lit_own, Mi.lit_lst, Mi.lit_cst, Mi.ix_own, Mi.ix_lst, Mi.ix_cst, Mi.ix_tup, Mi.dix_own, Mi.dix_lst, Mi.dix_cst, Mi.dix_tup, Mi.rng0, Mi.toL, Mi.end_lawL, Mi.btw_int, Mi.btw_bl, Mi.btw_non, Mi.btw_str, Mi.is_non_int, Mi.is_bl_int, Mi.is_int_int, Mi.is_str_int, Mi.is_tup_int, Mi.is_lst_int, Mi.is_cst_int, Mi.is_own_int, Mi.is_non_bool, Mi.is_bl_bool, Mi.is_int_bool, Mi.is_str_bool, Mi.is_tup_bool, Mi.is_lst_bool, Mi.is_cst_bool, Mi.is_own_bool, Mi.is_non_tuple, Mi.is_bl_tuple, Mi.is_int_tuple, Mi.is_str_tuple, Mi.is_tup_tuple, Mi.is_lst_tuple, Mi.is_cst_tuple, Mi.is_own_tuple, Mi.is_non_list, Mi.is_bl_list, Mi.is_int_list, Mi.is_str_list, Mi.is_tup_list, Mi.is_lst_list, Mi.is_cst_list, Mi.is_own_list, Mi.is_non_str, Mi.is_bl_str, Mi.is_int_str, Mi.is_str_str, Mi.is_tup_str, Mi.is_lst_str, Mi.is_cst_str, Mi.is_own_str, Mi.cast_lit, Mi.mPart_ap, Mi.kPt_ok, Mi.mNoPart_ap, Mi.mSl_ap, Mi.kSl1_ok, Mi.kSl2_ok, Mi.kSl3_ok, Mi.dSl_tup, Mi.dSl_lst, Mi.dSl_cst, Mi.mZip_ap, Mi.kZ_tup, Mi.kZ_lst, Mi.mPick_ap, Mi.kPk_ok, Mi.kPk2_some, Mi.at_0, Mi.at_1, Mi.at_2, Mi.at_3, Mi.isT_non, Mi.isT_bl, Mi.isT_int, Mi.isT_str, Mi.isT_tup, Mi.isT_lst, Mi.isT_cst, Mi.isT_own, Mi.dInt_bl, Mi.dIs_f_non, Mi.dIs_t_non, Mi.dIs_f_bl, Mi.dIs_t_bl, Mi.dIs_f_int, Mi.dIs_t_int, Mi.dIs_f_str, Mi.dIs_t_str, Mi.dIs_f_tup, Mi.dIs_t_tup, Mi.dIs_f_lst, Mi.dIs_t_lst, Mi.dIs_f_own, Mi.dIs_t_own, Mi.dIs_f_cst, Mi.dIs_t_cst, Mi.mLR1_ap, Mi.kLR1_ok, Mi.mLR2_ap, Mi.kLR2_ok, Mi.kLR2b_ok, Mi.mCallB_ap, Mi.kcB_some, Mi.kcB1_ok, Mi.kcB2_some, Mi.kcB3_bl, Mi.kcB3_exc, Mi.mExtend_ap, Mi.kEx_some, Mi.kEx2_ok, Mi.kEx3_some, Mi.dNotIn2, Mi.dIn2, Mi.dIsB_tt, Mi.dIsB_ft, Mi.dNotB_tt, Mi.dNotB_ft, D.frz, frzs, D.plain, plains, Bool.and_self, Bool.and_true, Bool.true_and, Bool.and_false, Bool.false_and, List.length_cons, List.length_nil, List.length_set, Nat.reduceAdd, Nat.zero_add, Nat.reduceLT, Nat.reduceLeDiff, sizeLine_eq, if_true, if_false, Bool.not_true, Bool.not_false, Bool.false_eq_true, decide_true, decide_false, and_self, and_true, true_and, List.cons_append, List.nil_append, Option.map_some, Option.bind_some, Int.reduceToNat, Int.reducePow, Int.reduceNeg, Int.reduceEq, Int.reduceLT, Int.reduceLE, Int.reduceAdd, Int.reduceSub, Int.reduceMul, eq_self, Mi.dat, not_true_eq_false, not_false_eq_true, Bool.or_self, Bool.or_true, Bool.or_false, Bool.false_or, Bool.true_or, false_and, and_false, true_or, or_true, false_or, or_false, t1, t2, t3, t4, t5, t6, t7, h, h1, e1, e2, e3, e4, em, es, w, c1, c2, c3, hx]
theorem min_lo {x y l : Int} (h1 : l ≤ x) (h2 : l ≤ y) : l ≤ (if y < x then y else x) := by
  by_cases c : y < x
  · rw [if_pos c]; exact h2
  · rw [if_neg c]; exact h1
theorem min_hi {x y : Int} : (if y < x then y else x) ≤ x := by
  by_cases c : y < x
  · rw [if_pos c]; omega
  · rw [if_neg c]; omega
theorem sq_facts {m : Int} (h1 : 4 ≤ m) (h2 : m ≤ 903) : 5 * m ≤ m * m + 4 ∧ m * m ≤ 815409 ∧ m * (m - 1) = m * m - m := by
  have x1 : 0 ≤ (m - 4) * (m - 1) := Int.mul_nonneg (by omega) (by omega)
  have x2 : m * m ≤ 903 * m := mul_ge h2 (by omega)
  have x3 : (m - 4) * (m - 1) = m * m - 5 * m + 4 := by rw [Int.sub_mul, Int.mul_sub, Int.mul_one]; omega
  have x4 : m * (m - 1) = m * m - m := by rw [Int.mul_sub, Int.mul_one]
  omega
/-- ways two and three -/
theorem num_23 (z : Int) (h : z % 6 = 2 ∨ z % 6 = 3) : Gives z := by
  obtain ⟨m1, r1, z1, r2, z2, h1, e1, e2, e3, e4, b1, b2, b3, b4, b5, b6⟩ := first_nk (z / 6)
  have t1 := v_take z 6 (by decide) (by decide)
  have t2 := v_take (z / 6) 3 (by decide) (by decide)
  have t3 := v_take (z / 6 / 3) m1 b5 (by omega)
  have t4 := v_take z1 (4 + r1 - 2) (by omega) (by omega)
  obtain ⟨m2, h2, p2, q2⟩ : ∃ m2 : Int, atI [D.int 9, D.int 900] (z2 % 2) = some (.int m2) ∧ 0 < m2 ∧ m2 ≤ 900 := by
    have : z2 % 2 = 0 ∨ z2 % 2 = 1 := by omega
    rcases this with e | e <;> rw [e]
    · exact ⟨9, rfl, by decide, by decide⟩
    · exact ⟨900, rfl, by decide, by decide⟩
  have t5 := v_take z2 2 (by decide) (by decide)
  have t6 := v_take (z2 / 2) m2 p2 (by omega)
  have g5 : 0 ≤ z2 / 2 % m2 := Int.emod_nonneg _ (by omega)
  have g6 : z2 / 2 % m2 < m2 := Int.emod_lt_of_pos _ p2
  obtain ⟨m, em⟩ : ∃ m, 4 + z2 / 2 % m2 = m := ⟨_, rfl⟩
  obtain ⟨z3, ez⟩ : ∃ z3, z2 / 2 / m2 = z3 := ⟨_, rfl⟩
  have t7 := v_take z3 3 (by decide) (by decide)
  have t8 := v_take (z3 / 3) 2 (by decide) (by decide)
  have t9 := v_take (z3 / 3 / 2) 3 (by decide) (by decide)
  obtain ⟨y1, y2, y3⟩ := sq_facts (m := m) (by omega) (by omega)
  have w : CPow 10 6 := by decide
  have c1 : CMulX m m := cmulx64 (by omega) (by omega)
  have c2 : CMulX m (m - 1) := cmulx64 (by omega) (by omega)
  have c3 : CMulX 2 m := cmulx64 (by decide) (by omega)
  have c4 : CMulX 4 m := cmulx64 (by decide) (by omega)
  have w2 : CDivW (m * (m - 1)) 2 := cdivw_small (by decide) (by decide)
  obtain ⟨x, hx, n, k, a, b, rfl, G⟩ := at_mem (P := isGood) (i := z3 % 3) (xs := [.tup [.int (m * m), .int (2 * m - 2), .int (m - 2), .int 2], .tup [.int (m * (m - 1) / 2), .int (2 * m - 4), .int (m - 2), .int 4], .tup [.int (4 * m + 1), .int (2 * m), .int (m - 1), .int m]]) (by
    intro x hx
    simp only [List.mem_cons, List.not_mem_nil, or_false] at hx
    rcases hx with rfl | rfl | rfl
    · exact ⟨_, _, _, _, rfl, by constructor <;> omega⟩
    · rw [y3]; exact ⟨_, _, _, _, rfl, by constructor <;> omega⟩
    · exact ⟨_, _, _, _, rfl, by constructor <;> omega⟩) (Int.emod_nonneg _ (by decide)) (by show z3 % 3 < 3; exact Int.emod_lt_of_pos _ (by decide))
  rcases h with h | h
  · refine ⟨n, k, a, b, z3 / 3, G, ?_⟩
    unfold F_w_numbers m_w_numbers
    simp -implicitDefEqProofs only [Mi.kof_some, Mi.kof_none, Mi.mOp1_ap, Mi.k1_ok, Mi.k1_exc, Mi.mOp2_ap, Mi.k2a_ok, Mi.k2a_exc, Mi.k2b_ok, Mi.k2b_exc, Mi.mOpL_ap, Mi.kL_ok, Mi.kL_exc, Mi.mCons_ap, Mi.kca_ok, Mi.kca_exc, Mi.kcb_ok, Mi.kcb_exc, Mi.mNil_ap, Mi.mC_ap, Mi.mLst_ap, Mi.mTup_ap, Mi.kLst_ok, Mi.kTup_ok, Mi.mVar_ap, Mi.kV_some, Mi.mFrz_ap, Mi.kF_some, Mi.mMove_ap, Mi.kM_some, Mi.at0, Mi.atS, Mi.set0, Mi.setS, Mi.mT_ap, Mi.kT_ok, Mi.kT_exc, Mi.mNotT_ap, Mi.kN_ok, Mi.kN_exc, Mi.mAndT_ap, Mi.kA_ok, Mi.kA_exc, Mi.mOrT_ap, Mi.kO_ok, Mi.kO_exc, Mi.mAndV_ap, Mi.kAV_ok, Mi.mOrV_ap, Mi.kOV_ok, Mi.mIf_ap, Mi.kIf_ok, Mi.mChain_ap, Mi.kCh_ok, Mi.kCh1_ok, Mi.kCh2_ok, Mi.mSeq_ap, Mi.kS_nx, Mi.kS_rt, Mi.kS_exc, Mi.kS_bk, Mi.kS_ct, Mi.mNext_ap, Mi.mDrop_ap, Mi.kD_ok, Mi.kD_exc, Mi.mRet_ap, Mi.kR_ok, Mi.kR_exc, Mi.mRetN_ap, Mi.mIfS_ap, Mi.kI_ok, Mi.kI_exc, Mi.mAsg_ap, Mi.kG_ok, Mi.kG_exc, Mi.kG2_some, Mi.mgName_ap, Mi.mgTup_ap, Mi.mgCons_ap, Mi.kgs_some, Mi.mgNil_ap, Mi.mPar_ap, Mi.kP_ok, Mi.mPar3_ap, Mi.kP3_ok, Mi.ownAt_ap, Mi.kw_own, Mi.mSlotIx_ap, Mi.kX_some, Mi.kX2_ok, Mi.kX3_some, Mi.mCall_ap, Mi.kc_ok, Mi.kf_ok, Mi.kf_exc, Mi.mCallO_ap, Mi.kq_some, Mi.kq2_ok, Mi.kq3_some, Mi.kq4_ok, Mi.mSetIx_ap, Mi.ky_ok, Mi.ky2_some, Mi.ky3_ok, Mi.ky4_some, Mi.mItL_ap, Mi.kIL_ok, Mi.kRs_some, Mi.mItT_ap, Mi.kIT_ok, Mi.mRng1_ap, Mi.kr1_ok, Mi.mRng2_ap, Mi.kr2_ok, Mi.mFor_ap, Mi.kFo_ok, Mi.mLoop_nil, Mi.kl1_some, Mi.kl2_nx, Mi.kl2_ct, Mi.kl2_bk, Mi.kl2_rt, Mi.kl2_exc, Mi.mLc_ap, Mi.kLc_ok, Mi.lc_nil, Mi.kz1_some, Mi.kz2_ok, Mi.kz3_ok, Mi.mYes_ap, Mi.mAug_ap, Mi.kU_some, Mi.kU2_int, Mi.mTry_ap, Mi.kTr_nx, Mi.kTr_rt, Mi.mMeth_ap, Mi.kMe_lst, Mi.kMe_own, Mi.mAppend_ap, Mi.kAp_some, Mi.kAp2_ok, Mi.kAp3_some, Mi.dAdd_int, Mi.dAdd_str, Mi.dAdd_tup, Mi.dAdd_ll, Mi.dAdd_lo, Mi.dAdd_ol, Mi.dAdd_oo, Mi.dSub_int, Mi.dMul_int, Mi.dMod_int, Mi.dFdiv_int, Mi.dPow_int, Mi.dNeg_int, Mi.dDivmod_int, Mi.dGt_int, Mi.dGe_int, Mi.dLe_int, Mi.dLtI_int, Mi.dLt_int, Mi.dEq_int, Mi.dNe_int, Mi.dMax2_int, Mi.dMin2_int, Mi.fn1_ap, Mi.fn2_ap, Mi.dLen_tup, Mi.dLen_lst, Mi.dLen_cst, Mi.dLen_own, Mi.fnM_ap, Mi.kfn_nx, Mi.kfn_rt, Mi.kfn_exc, Mi.fnO_ap, Mi.kfo_nx, Mi.kfo_rt, Mi.env0, Mi.envN, Mi.envS, Mi.wipeN, Mi.wipeS, Mi.lit_own, Mi.lit_lst, Mi.lit_cst, Mi.ix_own, Mi.ix_lst, Mi.ix_cst, Mi.ix_tup, Mi.dix_own, Mi.dix_lst, Mi.dix_cst, Mi.dix_tup, Mi.rng0, Mi.toL, Mi.end_lawL, Mi.btw_int, Mi.btw_bl, Mi.btw_non, Mi.btw_str, Mi.is_non_int, Mi.is_bl_int, Mi.is_int_int, Mi.is_str_int, Mi.is_tup_int, Mi.is_lst_int, Mi.is_cst_int, Mi.is_own_int, Mi.is_non_bool, Mi.is_bl_bool, Mi.is_int_bool, Mi.is_str_bool, Mi.is_tup_bool, Mi.is_lst_bool, Mi.is_cst_bool, Mi.is_own_bool, Mi.is_non_tuple, Mi.is_bl_tuple, Mi.is_int_tuple, Mi.is_str_tuple, Mi.is_tup_tuple, Mi.is_lst_tuple, Mi.is_cst_tuple, Mi.is_own_tuple, Mi.is_non_list, Mi.is_bl_list, Mi.is_int_list, Mi.is_str_list, Mi.is_tup_list, Mi.is_lst_list, Mi.is_cst_list, Mi.is_own_list, Mi.is_non_str, Mi.is_bl_str, Mi.is_int_str, Mi.is_str_str, Mi.is_tup_str, Mi.is_lst_str, Mi.is_cst_str, Mi.is_own_str, Mi.cast_lit, Mi.mPart_ap, Mi.kPt_ok, Mi.mNoPart_ap, Mi.mSl_ap, Mi.kSl1_ok, Mi.kSl2_ok, Mi.kSl3_ok, Mi.dSl_tup, Mi.dSl_lst, Mi.dSl_cst, Mi.mZip_ap, Mi.kZ_tup, Mi.kZ_lst, Mi.mPick_ap, Mi.kPk_ok, Mi.kPk2_some, Mi.at_0, Mi.at_1, Mi.at_2, Mi.at_3, Mi.isT_non, Mi.isT_bl, Mi.isT_int, Mi.isT_str, Mi.isT_tup, Mi.isT_lst, Mi.isT_cst, Mi.isT_own, Mi.dInt_bl, Mi.dIs_f_non, Mi.dIs_t_non, Mi.dIs_f_bl, Mi.dIs_t_bl, Mi.dIs_f_int, Mi.dIs_t_int, Mi.dIs_f_str, Mi.dIs_t_str, Mi.dIs_f_tup, Mi.dIs_t_tup, Mi.dIs_f_lst, Mi.dIs_t_lst, Mi.dIs_f_own, Mi.dIs_t_own, Mi.dIs_f_cst, Mi.dIs_t_cst, Mi.mLR1_ap, Mi.kLR1_ok, Mi.mLR2_ap, Mi.kLR2_ok, Mi.kLR2b_ok, Mi.mCallB_ap, Mi.kcB_some, Mi.kcB1_ok, Mi.kcB2_some, Mi.kcB3_bl, Mi.kcB3_exc, Mi.mExtend_ap, Mi.kEx_some, Mi.kEx2_ok, Mi.kEx3_some, Mi.dNotIn2, Mi.dIn2, Mi.dIsB_tt, Mi.dIsB_ft, Mi.dNotB_tt, Mi.dNotB_ft, D.frz, frzs, D.plain, plains, Bool.and_self, Bool.and_true, Bool.true_and, Bool.and_false, Bool.false_and, List.length_cons, List.length_nil, List.length_set, Nat.reduceAdd, Nat.zero_add, Nat.reduceLT, Nat.reduceLeDiff, sizeLine_eq, if_true, if_false, Bool.not_true, Bool.not_false, Bool.false_eq_true, decide_true, decide_false, and_self, and_true, true_and, List.cons_append, List.nil_append, Option.map_some, Option.bind_some, Int.reduceToNat, Int.reducePow, Int.reduceNeg, Int.reduceEq, Int.reduceLT, Int.reduceLE, Int.reduceAdd, Int.reduceSub, Int.reduceMul, eq_self, Mi.dat, not_true_eq_false, not_false_eq_true, Bool.or_self, Bool.or_true, Bool.or_false, Bool.false_or, Bool.true_or, false_and, and_false, true_or, or_true, false_or, or_false, t1, t2, t3, t4, t5, t6, t7, h, h1, h2, e1, e2, e3, e4, em, ez, w, w2, c1, c2, c3, c4, hx]
  · obtain ⟨a', ea⟩ : ∃ a', (if a + z3 / 3 % 2 < k - 1 then a + z3 / 3 % 2 else k - 1) = a' := ⟨_, rfl⟩
    obtain ⟨b', eb⟩ : ∃ b', (if b + 1 - z3 / 3 / 2 % 3 + 1 < k then b + 1 - z3 / 3 / 2 % 3 + 1 else k) = b' := ⟨_, rfl⟩
    obtain ⟨g1, g2, g3, g4, g5, g6, g7, g8⟩ := G
    have a0 : 0 ≤ a' := by rw [← ea]; exact min_lo (by omega) (by omega)
    have a1 : a' ≤ k - 1 := by rw [← ea]; exact min_hi
    have b0 : 0 ≤ b' := by rw [← eb]; exact min_lo (by omega) (by omega)
    have b1 : b' ≤ k := by rw [← eb]; exact min_hi
    refine ⟨n, k, a', b', z3 / 3 / 2 / 3, ⟨g1, g2, g3, g4, a0, by omega, b0, b1⟩, ?_⟩
    unfold F_w_numbers m_w_numbers
    simp -implicitDefEqProofs only [Mi.kof_some, Mi.kof_none, Mi.mOp1_ap, Mi.k1_ok, Mi.k1_exc, Mi.mOp2_ap, Mi.k2a_ok, Mi.k2a_exc, Mi.k2b_ok, Mi.k2b_exc, Mi.mOpL_ap, Mi.kL_ok, Mi.kL_exc, Mi.mCons_ap, Mi.kca_ok, Mi.kca_exc, Mi.kcb_ok, Mi.kcb_exc, Mi.mNil_ap, Mi.mC_ap, Mi.mLst_ap, Mi.mTup_ap, Mi.kLst_ok, Mi.kTup_ok, Mi.mVar_ap, Mi.kV_some, Mi.mFrz_ap, Mi.kF_some, Mi.mMove_ap, Mi.kM_some, Mi.at0, Mi.atS, Mi.set0, Mi.setS, Mi.mT_ap, Mi.kT_ok, Mi.kT_exc, Mi.mNotT_ap, Mi.kN_ok, Mi.kN_exc, Mi.mAndT_ap, Mi.kA_ok, Mi.kA_exc, Mi.mOrT_ap, Mi.kO_ok, Mi.kO_exc, Mi.mAndV_ap, Mi.kAV_ok, Mi.mOrV_ap, Mi.kOV_ok, Mi.mIf_ap, Mi.kIf_ok, Mi.mChain_ap, Mi.kCh_ok, Mi.kCh1_ok, Mi.kCh2_ok, Mi.mSeq_ap, Mi.kS_nx, Mi.kS_rt, Mi.kS_exc, Mi.kS_bk, Mi.kS_ct, Mi.mNext_ap, Mi.mDrop_ap, Mi.kD_ok, Mi.kD_exc, Mi.mRet_ap, Mi.kR_ok, Mi.kR_exc, Mi.mRetN_ap, Mi.mIfS_ap, Mi.kI_ok, Mi.kI_exc, Mi.mAsg_ap, Mi.kG_ok, Mi.kG_exc, Mi.kG2_some, Mi.mgName_ap, Mi.mgTup_ap, Mi.mgCons_ap, Mi.kgs_some, Mi.mgNil_ap, Mi.mPar_ap, Mi.kP_ok, Mi.mPar3_ap, Mi.kP3_ok, Mi.ownAt_ap, Mi.kw_own, Mi.mSlotIx_ap, Mi.kX_some, Mi.kX2_ok, Mi.kX3_some, Mi.mCall_ap, Mi.kc_ok, Mi.kf_ok, Mi.kf_exc, Mi.mCallO_ap, Mi.kq_some, Mi.kq2_ok, Mi.kq3_some, Mi.kq4_ok, Mi.mSetIx_ap, Mi.ky_ok, Mi.ky2_some, Mi.ky3_ok, Mi.ky4_some, Mi.mItL_ap, Mi.kIL_ok, Mi.kRs_some, Mi.mItT_ap, Mi.kIT_ok, Mi.mRng1_ap, Mi.kr1_ok, Mi.mRng2_ap, Mi.kr2_ok, Mi.mFor_ap, Mi.kFo_ok, Mi.mLoop_nil, Mi.kl1_some, Mi.kl2_nx, Mi.kl2_ct, Mi.kl2_bk, Mi.kl2_rt, Mi.kl2_exc, Mi.mLc_ap, Mi.kLc_ok, Mi.lc_nil, Mi.kz1_some, Mi.kz2_ok, Mi.kz3_ok, Mi.mYes_ap, Mi.mAug_ap, Mi.kU_some, Mi.kU2_int, Mi.mTry_ap, Mi.kTr_nx, Mi.kTr_rt, Mi.mMeth_ap, Mi.kMe_lst, Mi.kMe_own, Mi.mAppend_ap, Mi.kAp_some, Mi.kAp2_ok, Mi.kAp3_some, Mi.dAdd_int, Mi.dAdd_str, Mi.dAdd_tup, Mi.dAdd_ll, Mi.dAdd_lo, Mi.dAdd_ol, Mi.dAdd_oo, Mi.dSub_int, Mi.dMul_int, Mi.dMod_int, Mi.dFdiv_int, Mi.dPow_int, Mi.dNeg_int, Mi.dDivmod_int, Mi.dGt_int, Mi.dGe_int, Mi.dLe_int, Mi.dLtI_int, Mi.dLt_int, Mi.dEq_int, Mi.dNe_int, Mi.dMax2_int, Mi.dMin2_int, Mi.fn1_ap, Mi.fn2_ap, Mi.dLen_tup, Mi.dLen_lst, Mi.dLen_cst, Mi.dLen_own, Mi.fnM_ap, Mi.kfn_nx, Mi.kfn_rt, Mi.kfn_exc, Mi.fnO_ap, Mi.kfo_nx, Mi.kfo_rt, Mi.env0, Mi.envN, Mi.envS, Mi.wipeN, Mi.wipeS, Mi.lit_own, Mi.lit_lst, Mi.lit_cst, Mi.ix_own, Mi.ix_lst, Mi.ix_cst, Mi.ix_tup, Mi.dix_own, Mi.dix_lst, Mi.dix_cst, Mi.dix_tup, Mi.rng0, Mi.toL, Mi.end_lawL, Mi.btw_int, Mi.btw_bl, Mi.btw_non, Mi.btw_str, Mi.is_non_int, Mi.is_bl_int, Mi.is_int_int, Mi.is_str_int, Mi.is_tup_int, Mi.is_lst_int, Mi.is_cst_int, Mi.is_own_int, Mi.is_non_bool, Mi.is_bl_bool, Mi.is_int_bool, Mi.is_str_bool, Mi.is_tup_bool, Mi.is_lst_bool, Mi.is_cst_bool, Mi.is_own_bool, Mi.is_non_tuple, Mi.is_bl_tuple, Mi.is_int_tuple, Mi.is_str_tuple, Mi.is_tup_tuple, Mi.is_lst_tuple, Mi.is_cst_tuple, Mi.is_own_tuple, Mi.is_non_list, Mi.is_bl_list, Mi.is_int_list, Mi.is_str_list, Mi.is_tup_list, Mi.is_lst_list, Mi.is_cst_list, Mi.is_own_list, Mi.is_non_str, Mi.is_bl_str, Mi.is_int_str, Mi.is_str_str, Mi.is_tup_str, Mi.is_lst_str, Mi.is_cst_str, Mi.is_own_str, Mi.cast_lit, Mi.mPart_ap, Mi.kPt_ok, Mi.mNoPart_ap, Mi.mSl_ap, Mi.kSl1_ok, Mi.kSl2_ok, Mi.kSl3_ok, Mi.dSl_tup, Mi.dSl_lst, Mi.dSl_cst, Mi.mZip_ap, Mi.kZ_tup, Mi.kZ_lst, Mi.mPick_ap, Mi.kPk_ok, Mi.kPk2_some, Mi.at_0, Mi.at_1, Mi.at_2, Mi.at_3, Mi.isT_non, Mi.isT_bl, Mi.isT_int, Mi.isT_str, Mi.isT_tup, Mi.isT_lst, Mi.isT_cst, Mi.isT_own, Mi.dInt_bl, Mi.dIs_f_non, Mi.dIs_t_non, Mi.dIs_f_bl, Mi.dIs_t_bl, Mi.dIs_f_int, Mi.dIs_t_int, Mi.dIs_f_str, Mi.dIs_t_str, Mi.dIs_f_tup, Mi.dIs_t_tup, Mi.dIs_f_lst, Mi.dIs_t_lst, Mi.dIs_f_own, Mi.dIs_t_own, Mi.dIs_f_cst, Mi.dIs_t_cst, Mi.mLR1_ap, Mi.kLR1_ok, Mi.mLR2_ap, Mi.kLR2_ok, Mi.kLR2b_ok, Mi.mCallB_ap, Mi.kcB_some, Mi.kcB1_ok, Mi.kcB2_some, Mi.kcB3_bl, Mi.kcB3_exc, Mi.mExtend_ap, Mi.kEx_some, Mi.kEx2_ok, Mi.kEx3_some, Mi.dNotIn2, Mi.dIn2, Mi.dIsB_tt, Mi.dIsB_ft, Mi.dNotB_tt, Mi.dNotB_ft, D.frz, frzs, D.plain, plains, Bool.and_self, Bool.and_true, Bool.true_and, Bool.and_false, Bool.false_and, List.length_cons, List.length_nil, List.length_set, Nat.reduceAdd, Nat.zero_add, Nat.reduceLT, Nat.reduceLeDiff, sizeLine_eq, if_true, if_false, Bool.not_true, Bool.not_false, Bool.false_eq_true, decide_true, decide_false, and_self, and_true, true_and, List.cons_append, List.nil_append, Option.map_some, Option.bind_some, Int.reduceToNat, Int.reducePow, Int.reduceNeg, Int.reduceEq, Int.reduceLT, Int.reduceLE, Int.reduceAdd, Int.reduceSub, Int.reduceMul, eq_self, Mi.dat, not_true_eq_false, not_false_eq_true, Bool.or_self, Bool.or_true, Bool.or_false, Bool.false_or, Bool.true_or, false_and, and_false, true_or, or_true, false_or, or_false, t1, t2, t3, t4, t5, t6, t7, t8, t9, h, h1, h2, e1, e2, e3, e4, em, ez, w, w2, c1, c2, c3, c4, hx, ea, eb]
theorem num_45 (z : Int) (h : z % 6 = 4 ∨ z % 6 = 5) : Gives z := by
  obtain ⟨m1, r1, z1, r2, z2, h1, e1, e2, e3, e4, b1, b2, b3, b4, b5, b6⟩ := first_nk (z / 6)
  have t1 := v_take z 6 (by decide) (by decide)
  have t2 := v_take (z / 6) 3 (by decide) (by decide)
  have t3 := v_take (z / 6 / 3) m1 b5 (by omega)
  have t4 := v_take z1 (4 + r1 - 2) (by omega) (by omega)
  have t5 := v_take z2 (1 + r2) (by omega) (by omega)
  have t6 := v_take (z2 / (1 + r2)) (1 + r2 + 1) (by omega) (by omega)
  obtain ⟨r5, e5⟩ : ∃ r5, z2 % (1 + r2) = r5 := ⟨_, rfl⟩
  have g5 : 0 ≤ r5 ∧ r5 < 1 + r2 := by rw [← e5]; exact ⟨Int.emod_nonneg _ (by omega), Int.emod_lt_of_pos _ (by omega)⟩
  obtain ⟨r6, e6⟩ : ∃ r6, z2 / (1 + r2) % (1 + r2 + 1) = r6 := ⟨_, rfl⟩
  have g6 : 0 ≤ r6 ∧ r6 < 1 + r2 + 1 := by rw [← e6]; exact ⟨Int.emod_nonneg _ (by omega), Int.emod_lt_of_pos _ (by omega)⟩
  have w : CPow 10 6 := by decide
  rcases h with h | h
  · have c1 : CMulX (1 + r2) (1 + r2 - r5 - 1) := cmulx64 (by omega) (by omega)
    have w2 : CDivW ((1 + r2) * (1 + r2 - r5 - 1)) (4 + r1 - (1 + r2) - 1) := cdivw_small (by omega) (by omega)
    have y0 : 0 ≤ (1 + r2) * (1 + r2 - r5 - 1) / (4 + r1 - (1 + r2) - 1) := Int.ediv_nonneg (Int.mul_nonneg (by omega) (by omega)) (by omega)
    obtain ⟨b', eb⟩ : ∃ b', (if (1 + r2) * (1 + r2 - r5 - 1) / (4 + r1 - (1 + r2) - 1) < 1 + r2 then (1 + r2) * (1 + r2 - r5 - 1) / (4 + r1 - (1 + r2) - 1) else 1 + r2) = b' := ⟨_, rfl⟩
    have b0 : 0 ≤ b' := by rw [← eb]; exact min_lo (by omega) y0
    have b1 : b' ≤ 1 + r2 := by rw [← eb]; exact min_hi
    refine ⟨4 + r1, 1 + r2, r5, b', z2 / (1 + r2) / (1 + r2 + 1), ⟨by omega, by omega, by omega, by omega, by omega, by omega, b0, b1⟩, ?_⟩
    unfold F_w_numbers m_w_numbers
    simp -implicitDefEqProofs only [Mi.kof_some, Mi.kof_none, Mi.mOp1_ap, Mi.k1_ok, Mi.k1_exc, Mi.mOp2_ap, Mi.k2a_ok, Mi.k2a_exc, Mi.k2b_ok, Mi.k2b_exc, Mi.mOpL_ap, Mi.kL_ok, Mi.kL_exc, Mi.mCons_ap, Mi.kca_ok, Mi.kca_exc, Mi.kcb_ok, Mi.kcb_exc, Mi.mNil_ap, Mi.mC_ap, Mi.mLst_ap, Mi.mTup_ap, Mi.kLst_ok, Mi.kTup_ok, Mi.mVar_ap, Mi.kV_some, Mi.mFrz_ap, Mi.kF_some, Mi.mMove_ap, Mi.kM_some, Mi.at0, Mi.atS, Mi.set0, Mi.setS, Mi.mT_ap, Mi.kT_ok, Mi.kT_exc, Mi.mNotT_ap, Mi.kN_ok, Mi.kN_exc, Mi.mAndT_ap, Mi.kA_ok, Mi.kA_exc, Mi.mOrT_ap, Mi.kO_ok, Mi.kO_exc, Mi.mAndV_ap, Mi.kAV_ok, Mi.mOrV_ap, Mi.kOV_ok, Mi.mIf_ap, Mi.kIf_ok, Mi.mChain_ap, Mi.kCh_ok, Mi.kCh1_ok, Mi.kCh2_ok, Mi.mSeq_ap, Mi.kS_nx, Mi.kS_rt, Mi.kS_exc, Mi.kS_bk, Mi.kS_ct, Mi.mNext_ap, Mi.mDrop_ap, Mi.kD_ok, Mi.kD_exc, Mi.mRet_ap, Mi.kR_ok, Mi.kR_exc, Mi.mRetN_ap, Mi.mIfS_ap, Mi.kI_ok, Mi.kI_exc, Mi.mAsg_ap, Mi.kG_ok, Mi.kG_exc, Mi.kG2_some, Mi.mgName_ap, Mi.mgTup_ap, Mi.mgCons_ap, Mi.kgs_some, Mi.mgNil_ap, Mi.mPar_ap, Mi.kP_ok, Mi.mPar3_ap, Mi.kP3_ok, Mi.ownAt_ap, Mi.kw_own, Mi.mSlotIx_ap, Mi.kX_some, Mi.kX2_ok, Mi.kX3_some, Mi.mCall_ap, Mi.kc_ok, Mi.kf_ok, Mi.kf_exc, Mi.mCallO_ap, Mi.kq_some, Mi.kq2_ok, Mi.kq3_some, Mi.kq4_ok, Mi.mSetIx_ap, Mi.ky_ok, Mi.ky2_some, Mi.ky3_ok, Mi.ky4_some, Mi.mItL_ap, Mi.kIL_ok, Mi.kRs_some, Mi.mItT_ap, Mi.kIT_ok, Mi.mRng1_ap, Mi.kr1_ok, Mi.mRng2_ap, Mi.kr2_ok, Mi.mFor_ap, Mi.kFo_ok, Mi.mLoop_nil, Mi.kl1_some, Mi.kl2_nx, Mi.kl2_ct, Mi.kl2_bk, Mi.kl2_rt, Mi.kl2_exc, Mi.mLc_ap, Mi.kLc_ok, Mi.lc_nil, Mi.kz1_some, Mi.kz2_ok, Mi.kz3_ok, Mi.mYes_ap, Mi.mAug_ap, Mi.kU_some, Mi.kU2_int, Mi.mTry_ap, Mi.kTr_nx, Mi.kTr_rt, Mi.mMeth_ap, Mi.kMe_lst, Mi.kMe_own, Mi.mAppend_ap, Mi.kAp_some, Mi.kAp2_ok, Mi.kAp3_some, Mi.dAdd_int, Mi.dAdd_str, Mi.dAdd_tup, Mi.dAdd_ll, Mi.dAdd_lo, Mi.dAdd_ol, Mi.dAdd_oo, Mi.dSub_int, Mi.dMul_int, Mi.dMod_int, Mi.dFdiv_int, Mi.dPow_int, Mi.dNeg_int, Mi.dDivmod_int, Mi.dGt_int, Mi.dGe_int, Mi.dLe_int, Mi.dLtI_int, Mi.dLt_int, Mi.dEq_int, Mi.dNe_int, Mi.dMax2_int, Mi.dMin2_int, Mi.fn1_ap, Mi.fn2_ap, Mi.dLen_tup, Mi.dLen_lst, Mi.dLen_cst, Mi.dLen_own, Mi.fnM_ap, Mi.kfn_nx, Mi.kfn_rt, Mi.kfn_exc, Mi.fnO_ap, Mi.kfo_nx, Mi.kfo_rt, Mi.env0, Mi.envN, Mi.envS, Mi.wipeN, Mi.wipeS, Mi.lit_own, Mi.lit_lst, Mi.lit_cst, Mi.ix_own, Mi.ix_lst, Mi.ix_cst, Mi.ix_tup, Mi.dix_own, Mi.dix_lst, Mi.dix_cst, Mi.dix_tup, Mi.rng0, Mi.toL, Mi.end_lawL, Mi.btw_int, Mi.btw_bl, Mi.btw_non, Mi.btw_str, Mi.is_non_int, Mi.is_bl_int, Mi.is_int_int, Mi.is_str_int, Mi.is_tup_int, Mi.is_lst_int, Mi.is_cst_int, Mi.is_own_int, Mi.is_non_bool, Mi.is_bl_bool, Mi.is_int_bool, Mi.is_str_bool, Mi.is_tup_bool, Mi.is_lst_bool, Mi.is_cst_bool, Mi.is_own_bool, Mi.is_non_tuple, Mi.is_bl_tuple, Mi.is_int_tuple, Mi.is_str_tuple, Mi.is_tup_tuple, Mi.is_lst_tuple, Mi.is_cst_tuple, Mi.is_own_tuple, Mi.is_non_list, Mi.is_bl_list, Mi.is_int_list, Mi.is_str_list, Mi.is_tup_list, Mi.is_lst_list, Mi.is_cst_list, Mi.is_own_list, Mi.is_non_str, Mi.is_bl_str, Mi.is_int_str, Mi.is_str_str, Mi.is_tup_str, Mi.is_lst_str, Mi.is_cst_str, Mi.is_own_str, Mi.cast_lit, Mi.mPart_ap, Mi.kPt_ok, Mi.mNoPart_ap, Mi.mSl_ap, Mi.kSl1_ok, Mi.kSl2_ok, Mi.kSl3_ok, Mi.dSl_tup, Mi.dSl_lst, Mi.dSl_cst, Mi.mZip_ap, Mi.kZ_tup, Mi.kZ_lst, Mi.mPick_ap, Mi.kPk_ok, Mi.kPk2_some, Mi.at_0, Mi.at_1, Mi.at_2, Mi.at_3, Mi.isT_non, Mi.isT_bl, Mi.isT_int, Mi.isT_str, Mi.isT_tup, Mi.isT_lst, Mi.isT_cst, Mi.isT_own, Mi.dInt_bl, Mi.dIs_f_non, Mi.dIs_t_non, Mi.dIs_f_bl, Mi.dIs_t_bl, Mi.dIs_f_int, Mi.dIs_t_int, Mi.dIs_f_str, Mi.dIs_t_str, Mi.dIs_f_tup, Mi.dIs_t_tup, Mi.dIs_f_lst, Mi.dIs_t_lst, Mi.dIs_f_own, Mi.dIs_t_own, Mi.dIs_f_cst, Mi.dIs_t_cst, Mi.mLR1_ap, Mi.kLR1_ok, Mi.mLR2_ap, Mi.kLR2_ok, Mi.kLR2b_ok, Mi.mCallB_ap, Mi.kcB_some, Mi.kcB1_ok, Mi.kcB2_some, Mi.kcB3_bl, Mi.kcB3_exc, Mi.mExtend_ap, Mi.kEx_some, Mi.kEx2_ok, Mi.kEx3_some, Mi.dNotIn2, Mi.dIn2, Mi.dIsB_tt, Mi.dIsB_ft, Mi.dNotB_tt, Mi.dNotB_ft, D.frz, frzs, D.plain, plains, Bool.and_self, Bool.and_true, Bool.true_and, Bool.and_false, Bool.false_and, List.length_cons, List.length_nil, List.length_set, Nat.reduceAdd, Nat.zero_add, Nat.reduceLT, Nat.reduceLeDiff, sizeLine_eq, if_true, if_false, Bool.not_true, Bool.not_false, Bool.false_eq_true, decide_true, decide_false, and_self, and_true, true_and, List.cons_append, List.nil_append, Option.map_some, Option.bind_some, Int.reduceToNat, Int.reducePow, Int.reduceNeg, Int.reduceEq, Int.reduceLT, Int.reduceLE, Int.reduceAdd, Int.reduceSub, Int.reduceMul, eq_self, Mi.dat, not_true_eq_false, not_false_eq_true, Bool.or_self, Bool.or_true, Bool.or_false, Bool.false_or, Bool.true_or, false_and, and_false, true_or, or_true, false_or, or_false, t1, t2, t3, t4, t5, t6, h, h1, e1, e2, e3, e4, e5, e6, w, w2, c1, eb]
  · refine ⟨4 + r1, 1 + r2, r5, r6, z2 / (1 + r2) / (1 + r2 + 1), ⟨by omega, by omega, by omega, by omega, by omega, by omega, by omega, by omega⟩, ?_⟩
    unfold F_w_numbers m_w_numbers
    simp -implicitDefEqProofs only [Mi.kof_some, Mi.kof_none, Mi.mOp1_ap, Mi.k1_ok, Mi.k1_exc, Mi.mOp2_ap, Mi.k2a_ok, Mi.k2a_exc, Mi.k2b_ok, Mi.k2b_exc, Mi.mOpL_ap, Mi.kL_ok, Mi.kL_exc, Mi.mCons_ap, Mi.kca_ok, Mi.kca_exc, Mi.kcb_ok, Mi.kcb_exc, Mi.mNil_ap, Mi.mC_ap, Mi.mLst_ap, Mi.mTup_ap, Mi.kLst_ok, Mi.kTup_ok, Mi.mVar_ap, Mi.kV_some, Mi.mFrz_ap, Mi.kF_some, Mi.mMove_ap, Mi.kM_some, Mi.at0, Mi.atS, Mi.set0, Mi.setS, Mi.mT_ap, Mi.kT_ok, Mi.kT_exc, Mi.mNotT_ap, Mi.kN_ok, Mi.kN_exc, Mi.mAndT_ap, Mi.kA_ok, Mi.kA_exc, Mi.mOrT_ap, Mi.kO_ok, Mi.kO_exc, Mi.mAndV_ap, Mi.kAV_ok, Mi.mOrV_ap, Mi.kOV_ok, Mi.mIf_ap, Mi.kIf_ok, Mi.mChain_ap, Mi.kCh_ok, Mi.kCh1_ok, Mi.kCh2_ok, Mi.mSeq_ap, Mi.kS_nx, Mi.kS_rt, Mi.kS_exc, Mi.kS_bk, Mi.kS_ct, Mi.mNext_ap, Mi.mDrop_ap, Mi.kD_ok, Mi.kD_exc, Mi.mRet_ap, Mi.kR_ok, Mi.kR_exc, Mi.mRetN_ap, Mi.mIfS_ap, Mi.kI_ok, Mi.kI_exc, Mi.mAsg_ap, Mi.kG_ok, Mi.kG_exc, Mi.kG2_some, Mi.mgName_ap, Mi.mgTup_ap, Mi.mgCons_ap, Mi.kgs_some, Mi.mgNil_ap, Mi.mPar_ap, Mi.kP_ok, Mi.mPar3_ap, Mi.kP3_ok, Mi.ownAt_ap, Mi.kw_own, Mi.mSlotIx_ap, Mi.kX_some, Mi.kX2_ok, Mi.kX3_some, Mi.mCall_ap, Mi.kc_ok, Mi.kf_ok, Mi.kf_exc, Mi.mCallO_ap, Mi.kq_some, Mi.kq2_ok, Mi.kq3_some, Mi.kq4_ok, Mi.mSetIx_ap, Mi.ky_ok, Mi.ky2_some, Mi.ky3_ok, Mi.ky4_some, Mi.mItL_ap, Mi.kIL_ok, Mi.kRs_some, Mi.mItT_ap, Mi.kIT_ok, Mi.mRng1_ap, Mi.kr1_ok, Mi.mRng2_ap, Mi.kr2_ok, Mi.mFor_ap, Mi.kFo_ok, Mi.mLoop_nil, Mi.kl1_some, Mi.kl2_nx, Mi.kl2_ct, Mi.kl2_bk, Mi.kl2_rt, Mi.kl2_exc, Mi.mLc_ap, Mi.kLc_ok, Mi.lc_nil, Mi.kz1_some, Mi.kz2_ok, Mi.kz3_ok, Mi.mYes_ap, Mi.mAug_ap, Mi.kU_some, Mi.kU2_int, Mi.mTry_ap, Mi.kTr_nx, Mi.kTr_rt, Mi.mMeth_ap, Mi.kMe_lst, Mi.kMe_own, Mi.mAppend_ap, Mi.kAp_some, Mi.kAp2_ok, Mi.kAp3_some, Mi.dAdd_int, Mi.dAdd_str, Mi.dAdd_tup, Mi.dAdd_ll, Mi.dAdd_lo, Mi.dAdd_ol, Mi.dAdd_oo, Mi.dSub_int, Mi.dMul_int, Mi.dMod_int, Mi.dFdiv_int, Mi.dPow_int, Mi.dNeg_int, Mi.dDivmod_int, Mi.dGt_int, Mi.dGe_int, Mi.dLe_int, Mi.dLtI_int, Mi.dLt_int, Mi.dEq_int, Mi.dNe_int, Mi.dMax2_int, Mi.dMin2_int, Mi.fn1_ap, Mi.fn2_ap, Mi.dLen_tup, Mi.dLen_lst, Mi.dLen_cst, Mi.dLen_own, Mi.fnM_ap, Mi.kfn_nx, Mi.kfn_rt, Mi.kfn_exc, Mi.fnO_ap, Mi.kfo_nx, Mi.kfo_rt, Mi.env0, Mi.envN, Mi.envS, Mi.wipeN, Mi.wipeS, Mi.lit_own, Mi.lit_lst, Mi.lit_cst, Mi.ix_own, Mi.ix_lst, Mi.ix_cst, Mi.ix_tup, Mi.dix_own, Mi.dix_lst, Mi.dix_cst, Mi.dix_tup, Mi.rng0, Mi.toL, Mi.end_lawL, Mi.btw_int, Mi.btw_bl, Mi.btw_non, Mi.btw_str, Mi.is_non_int, Mi.is_bl_int, Mi.is_int_int, Mi.is_str_int, Mi.is_tup_int, Mi.is_lst_int, Mi.is_cst_int, Mi.is_own_int, Mi.is_non_bool, Mi.is_bl_bool, Mi.is_int_bool, Mi.is_str_bool, Mi.is_tup_bool, Mi.is_lst_bool, Mi.is_cst_bool, Mi.is_own_bool, Mi.is_non_tuple, Mi.is_bl_tuple, Mi.is_int_tuple, Mi.is_str_tuple, Mi.is_tup_tuple, Mi.is_lst_tuple, Mi.is_cst_tuple, Mi.is_own_tuple, Mi.is_non_list, Mi.is_bl_list, Mi.is_int_list, Mi.is_str_list, Mi.is_tup_list, Mi.is_lst_list, Mi.is_cst_list, Mi.is_own_list, Mi.is_non_str, Mi.is_bl_str, Mi.is_int_str, Mi.is_str_str, Mi.is_tup_str, Mi.is_lst_str, Mi.is_cst_str, Mi.is_own_str, Mi.cast_lit, Mi.mPart_ap, Mi.kPt_ok, Mi.mNoPart_ap, Mi.mSl_ap, Mi.kSl1_ok, Mi.kSl2_ok, Mi.kSl3_ok, Mi.dSl_tup, Mi.dSl_lst, Mi.dSl_cst, Mi.mZip_ap, Mi.kZ_tup, Mi.kZ_lst, Mi.mPick_ap, Mi.kPk_ok, Mi.kPk2_some, Mi.at_0, Mi.at_1, Mi.at_2, Mi.at_3, Mi.isT_non, Mi.isT_bl, Mi.isT_int, Mi.isT_str, Mi.isT_tup, Mi.isT_lst, Mi.isT_cst, Mi.isT_own, Mi.dInt_bl, Mi.dIs_f_non, Mi.dIs_t_non, Mi.dIs_f_bl, Mi.dIs_t_bl, Mi.dIs_f_int, Mi.dIs_t_int, Mi.dIs_f_str, Mi.dIs_t_str, Mi.dIs_f_tup, Mi.dIs_t_tup, Mi.dIs_f_lst, Mi.dIs_t_lst, Mi.dIs_f_own, Mi.dIs_t_own, Mi.dIs_f_cst, Mi.dIs_t_cst, Mi.mLR1_ap, Mi.kLR1_ok, Mi.mLR2_ap, Mi.kLR2_ok, Mi.kLR2b_ok, Mi.mCallB_ap, Mi.kcB_some, Mi.kcB1_ok, Mi.kcB2_some, Mi.kcB3_bl, Mi.kcB3_exc, Mi.mExtend_ap, Mi.kEx_some, Mi.kEx2_ok, Mi.kEx3_some, Mi.dNotIn2, Mi.dIn2, Mi.dIsB_tt, Mi.dIsB_ft, Mi.dNotB_tt, Mi.dNotB_ft, D.frz, frzs, D.plain, plains, Bool.and_self, Bool.and_true, Bool.true_and, Bool.and_false, Bool.false_and, List.length_cons, List.length_nil, List.length_set, Nat.reduceAdd, Nat.zero_add, Nat.reduceLT, Nat.reduceLeDiff, sizeLine_eq, if_true, if_false, Bool.not_true, Bool.not_false, Bool.false_eq_true, decide_true, decide_false, and_self, and_true, true_and, List.cons_append, List.nil_append, Option.map_some, Option.bind_some, Int.reduceToNat, Int.reducePow, Int.reduceNeg, Int.reduceEq, Int.reduceLT, Int.reduceLE, Int.reduceAdd, Int.reduceSub, Int.reduceMul, eq_self, Mi.dat, not_true_eq_false, not_false_eq_true, Bool.or_self, Bool.or_true, Bool.or_false, Bool.false_or, Bool.true_or, false_and, and_false, true_or, or_true, false_or, or_false, t1, t2, t3, t4, t5, t6, h, h1, e1, e2, e3, e4, e5, e6, w]
theorem v_numbers (z : Int) : Gives z := by
  have : z % 6 = 0 ∨ z % 6 = 1 ∨ (z % 6 = 2 ∨ z % 6 = 3) ∨ (z % 6 = 4 ∨ z % 6 = 5) := by omega
  rcases this with h | h | h | h
  · exact num_0 z h
  · exact num_1 z h
  · exact num_23 z h
  · exact num_45 z h
end Lw
namespace Lw
open PySem PySem.Spec PyProof.Rows L2 Mi
theorem mul_le2 {a b : Int} (h0 : 0 ≤ a) (h : a ≤ b) : a * a ≤ b * b := Int.mul_le_mul h h h0 (Int.le_trans h0 h)
theorem mul_lt2 {a b : Int} (h0 : 0 ≤ a) (h : a < b) : a * a < b * b := by
  have h1 : a * a ≤ a * b := Int.mul_le_mul_of_nonneg_left (Int.le_of_lt h) h0
  have h2 : a * b < b * b := Int.mul_lt_mul_of_pos_right h (Int.lt_of_le_of_lt h0 h)
  omega
theorem le_of_sq {a b : Int} (hb : 0 ≤ b) (h : a * a ≤ b * b) : a ≤ b := by
  by_cases c : a ≤ b
  · exact c
  · have := mul_lt2 hb (show b < a by omega); omega
theorem lt_of_sq {a b : Int} (hb : 0 ≤ b) (h : a * a < b * b) : a < b := by
  by_cases c : a < b
  · exact c
  · have := mul_le2 hb (show b ≤ a by omega); omega
structure Root (q s : Int) : Prop where
  s0 : 0 ≤ s
  lo : s * s ≤ q
  hi : q < (s + 1) * (s + 1)
theorem Root.uniq {q s t : Int} (h : Root q s) (g : Root q t) : s = t := by
  have h1 := lt_of_sq (a := s) (b := t + 1) (by have := g.s0; omega) (by have := h.lo; have := g.hi; omega)
  have h2 := lt_of_sq (a := t) (b := s + 1) (by have := h.s0; omega) (by have := g.lo; have := h.hi; omega)
  omega
def b_side : MS := mSeq (mAsg (mOp2 dFdiv (mOp2 dAdd (mVar 1) (mVar 2)) (mC (.int 2))) (mgName 3)) (mIfS (mT (mOp2 dLe (mOp2 dMul (mVar 3) (mVar 3)) (mVar 0))) (mAsg (mVar 3) (mgName 1)) (mAsg (mVar 3) (mgName 2)))
def c_side : MT := mT (mOp2 dGt (mOp2 dSub (mVar 2) (mVar 1)) (mC (.int 1)))
theorem side_loop {q : Int} (q0 : 0 ≤ q) (q1 : q < 2 ^ 42) : ∀ (f : Nat) (lo hi : Int) (o : Option D), (hi - lo).toNat ≤ 2 ^ f → 0 ≤ lo → lo < hi → hi ≤ q + 1 → lo * lo ≤ q → q < hi * hi →
    ∃ s o2 o', Root q s ∧ ∀ g, f < g → mWhile c_side b_side g [some (.int q), some (.int lo), some (.int hi), o] = .nx [some (.int q), some (.int s), o2, o']
  | 0, lo, hi, o, h, h0, h1, h2, h3, h4 => by
    have e : hi = lo + 1 := by simp at h; omega
    subst e
    refine ⟨lo, some (.int (lo + 1)), o, ⟨h0, h3, h4⟩, fun g hg => ?_⟩
    obtain ⟨g, rfl⟩ : ∃ k, g = k + 1 := ⟨g - 1, by omega⟩
    have c : ¬ (1 < lo + 1 - lo) := by omega
    unfold mWhile c_side
    simp -implicitDefEqProofs only [Mi.kof_some, Mi.kof_none, Mi.mOp1_ap, Mi.k1_ok, Mi.k1_exc, Mi.mOp2_ap, Mi.k2a_ok, Mi.k2a_exc, Mi.k2b_ok, Mi.k2b_exc, Mi.mOpL_ap, Mi.kL_ok, Mi.kL_exc, Mi.mCons_ap, Mi.kca_ok, Mi.kca_exc, Mi.kcb_ok, Mi.kcb_exc, Mi.mNil_ap, Mi.mC_ap, Mi.mLst_ap, Mi.mTup_ap, Mi.kLst_ok, Mi.kTup_ok, Mi.mVar_ap, Mi.kV_some, Mi.mFrz_ap, Mi.kF_some, Mi.mMove_ap, Mi.kM_some, Mi.at0, Mi.atS, Mi.set0, Mi.setS, Mi.mT_ap, Mi.kT_ok, Mi.kT_exc, Mi.mNotT_ap, Mi.kN_ok, Mi.kN_exc, Mi.mAndT_ap, Mi.kA_ok, Mi.kA_exc, Mi.mOrT_ap, Mi.kO_ok, Mi.kO_exc, Mi.mAndV_ap, Mi.kAV_ok, Mi.mOrV_ap, Mi.kOV_ok, Mi.mIf_ap, Mi.kIf_ok, Mi.mChain_ap, Mi.kCh_ok, Mi.kCh1_ok, Mi.kCh2_ok, Mi.mSeq_ap, Mi.kS_nx, Mi.kS_rt, Mi.kS_exc, Mi.kS_bk, Mi.kS_ct, Mi.mNext_ap, Mi.mDrop_ap, Mi.kD_ok, Mi.kD_exc, Mi.mRet_ap, Mi.kR_ok, Mi.kR_exc, Mi.mRetN_ap, Mi.mIfS_ap, Mi.kI_ok, Mi.kI_exc, Mi.mAsg_ap, Mi.kG_ok, Mi.kG_exc, Mi.kG2_some, Mi.mgName_ap, Mi.mgTup_ap, Mi.mgCons_ap, Mi.kgs_some, Mi.mgNil_ap, Mi.mPar_ap, Mi.kP_ok, Mi.mPar3_ap, Mi.kP3_ok, Mi.ownAt_ap, Mi.kw_own, Mi.mSlotIx_ap, Mi.kX_some, Mi.kX2_ok, Mi.kX3_some, Mi.mCall_ap, Mi.kc_ok, Mi.kf_ok, Mi.kf_exc, Mi.mCallO_ap, Mi.kq_some, Mi.kq2_ok, Mi.kq3_some, Mi.kq4_ok, Mi.mSetIx_ap, Mi.ky_ok, Mi.ky2_some, Mi.ky3_ok, Mi.ky4_some, Mi.mItL_ap, Mi.kIL_ok, Mi.kRs_some, Mi.mItT_ap, Mi.kIT_ok, Mi.mRng1_ap, Mi.kr1_ok, Mi.mRng2_ap, Mi.kr2_ok, Mi.mFor_ap, Mi.kFo_ok, Mi.mLoop_nil, Mi.kl1_some, Mi.kl2_nx, Mi.kl2_ct, Mi.kl2_bk, Mi.kl2_rt, Mi.kl2_exc, Mi.mLc_ap, Mi.kLc_ok, Mi.lc_nil, Mi.kz1_some, Mi.kz2_ok, Mi.kz3_ok, Mi.mYes_ap, Mi.mAug_ap, Mi.kU_some, Mi.kU2_int, Mi.mTry_ap, Mi.kTr_nx, Mi.kTr_rt, Mi.mMeth_ap, Mi.kMe_lst, Mi.kMe_own, Mi.mAppend_ap, Mi.kAp_some, Mi.kAp2_ok, Mi.kAp3_some, Mi.dAdd_int, Mi.dAdd_str, Mi.dAdd_tup, Mi.dAdd_ll, Mi.dAdd_lo, Mi.dAdd_ol, Mi.dAdd_oo, Mi.dSub_int, Mi.dMul_int, Mi.dMod_int, Mi.dFdiv_int, Mi.dPow_int, Mi.dNeg_int, Mi.dDivmod_int, Mi.dGt_int, Mi.dGe_int, Mi.dLe_int, Mi.dLtI_int, Mi.dLt_int, Mi.dEq_int, Mi.dNe_int, Mi.dMax2_int, Mi.dMin2_int, Mi.fn1_ap, Mi.fn2_ap, Mi.dLen_tup, Mi.dLen_lst, Mi.dLen_cst, Mi.dLen_own, Mi.fnM_ap, Mi.kfn_nx, Mi.kfn_rt, Mi.kfn_exc, Mi.fnO_ap, Mi.kfo_nx, Mi.kfo_rt, Mi.env0, Mi.envN, Mi.envS, Mi.wipeN, Mi.wipeS, Mi.lit_own, Mi.lit_lst, Mi.lit_cst, Mi.ix_own, Mi.ix_lst, Mi.ix_cst, Mi.ix_tup, Mi.dix_own, Mi.dix_lst, Mi.dix_cst, Mi.dix_tup, Mi.rng0, Mi.toL, Mi.end_lawL, Mi.btw_int, Mi.btw_bl, Mi.btw_non, Mi.btw_str, Mi.is_non_int, Mi.is_bl_int, Mi.is_int_int, Mi.is_str_int, Mi.is_tup_int, Mi.is_lst_int, Mi.is_cst_int, Mi.is_own_int, Mi.is_non_bool, Mi.is_bl_bool, Mi.is_int_bool, Mi.is_str_bool, Mi.is_tup_bool, Mi.is_lst_bool, Mi.is_cst_bool, Mi.is_own_bool, Mi.is_non_tuple, Mi.is_bl_tuple, Mi.is_int_tuple, Mi.is_str_tuple, Mi.is_tup_tuple, Mi.is_lst_tuple, Mi.is_cst_tuple, Mi.is_own_tuple, Mi.is_non_list, Mi.is_bl_list, Mi.is_int_list, Mi.is_str_list, Mi.is_tup_list, Mi.is_lst_list, Mi.is_cst_list, Mi.is_own_list, Mi.is_non_str, Mi.is_bl_str, Mi.is_int_str, Mi.is_str_str, Mi.is_tup_str, Mi.is_lst_str, Mi.is_cst_str, Mi.is_own_str, Mi.cast_lit, Mi.mPart_ap, Mi.kPt_ok, Mi.mNoPart_ap, Mi.mSl_ap, Mi.kSl1_ok, Mi.kSl2_ok, Mi.kSl3_ok, Mi.dSl_tup, Mi.dSl_lst, Mi.dSl_cst, Mi.mZip_ap, Mi.kZ_tup, Mi.kZ_lst, Mi.mPick_ap, Mi.kPk_ok, Mi.kPk2_some, Mi.at_0, Mi.at_1, Mi.at_2, Mi.at_3, Mi.isT_non, Mi.isT_bl, Mi.isT_int, Mi.isT_str, Mi.isT_tup, Mi.isT_lst, Mi.isT_cst, Mi.isT_own, Mi.dInt_bl, Mi.dIs_f_non, Mi.dIs_t_non, Mi.dIs_f_bl, Mi.dIs_t_bl, Mi.dIs_f_int, Mi.dIs_t_int, Mi.dIs_f_str, Mi.dIs_t_str, Mi.dIs_f_tup, Mi.dIs_t_tup, Mi.dIs_f_lst, Mi.dIs_t_lst, Mi.dIs_f_own, Mi.dIs_t_own, Mi.dIs_f_cst, Mi.dIs_t_cst, Mi.mLR1_ap, Mi.kLR1_ok, Mi.mLR2_ap, Mi.kLR2_ok, Mi.kLR2b_ok, Mi.mCallB_ap, Mi.kcB_some, Mi.kcB1_ok, Mi.kcB2_some, Mi.kcB3_bl, Mi.kcB3_exc, Mi.mExtend_ap, Mi.kEx_some, Mi.kEx2_ok, Mi.kEx3_some, Mi.dNotIn2, Mi.dIn2, Mi.dIsB_tt, Mi.dIsB_ft, Mi.dNotB_tt, Mi.dNotB_ft, D.frz, frzs, D.plain, plains, Bool.and_self, Bool.and_true, Bool.true_and, Bool.and_false, Bool.false_and, List.length_cons, List.length_nil, List.length_set, Nat.reduceAdd, Nat.zero_add, Nat.reduceLT, Nat.reduceLeDiff, sizeLine_eq, if_true, if_false, Bool.not_true, Bool.not_false, Bool.false_eq_true, decide_true, decide_false, and_self, and_true, true_and, List.cons_append, List.nil_append, Option.map_some, Option.bind_some, Int.reduceToNat, Int.reducePow, Int.reduceNeg, Int.reduceEq, Int.reduceLT, Int.reduceLE, Int.reduceAdd, Int.reduceSub, Int.reduceMul, eq_self, Mi.dat, not_true_eq_false, not_false_eq_true, Bool.or_self, Bool.or_true, Bool.or_false, Bool.false_or, Bool.true_or, false_and, and_false, true_or, or_true, false_or, or_false, c]
  | f + 1, lo, hi, o, h, h0, h1, h2, h3, h4 => by
    by_cases c : 1 < hi - lo
    · have w2 : CDivW (lo + hi) 2 := cdivw_small (by decide) (by decide)
      obtain ⟨m, em⟩ : ∃ m, (lo + hi) / 2 = m := ⟨_, rfl⟩
      have c1 : CMulX m m := cmulx64 (by omega) (by omega)
      have hp : (2 : Nat) ^ (f + 1) = 2 * 2 ^ f := by rw [Nat.pow_succ]; omega
      obtain ⟨pw, hpw⟩ : ∃ pw, (2 : Nat) ^ f = pw := ⟨_, rfl⟩
      rw [hp, hpw] at h
      by_cases l : m * m ≤ q
      · obtain ⟨s, o2, o', R, hl⟩ := side_loop q0 q1 f m hi (some (.int m)) (by rw [hpw]; omega) (by omega) (by omega) h2 l h4
        refine ⟨s, o2, o', R, fun g hg => ?_⟩
        obtain ⟨g, rfl⟩ : ∃ k, g = k + 1 := ⟨g - 1, by omega⟩
        rw [← hl g (by omega)]
        conv => lhs; unfold mWhile
        unfold c_side b_side
        simp -implicitDefEqProofs only [Mi.kof_some, Mi.kof_none, Mi.mOp1_ap, Mi.k1_ok, Mi.k1_exc, Mi.mOp2_ap, Mi.k2a_ok, Mi.k2a_exc, Mi.k2b_ok, Mi.k2b_exc, Mi.mOpL_ap, Mi.kL_ok, Mi.kL_exc, Mi.mCons_ap, Mi.kca_ok, Mi.kca_exc, Mi.kcb_ok, Mi.kcb_exc, Mi.mNil_ap, Mi.mC_ap, Mi.mLst_ap, Mi.mTup_ap, Mi.kLst_ok, Mi.kTup_ok, Mi.mVar_ap, Mi.kV_some, Mi.mFrz_ap, Mi.kF_some, Mi.mMove_ap, Mi.kM_some, Mi.at0, Mi.atS, Mi.set0, Mi.setS, Mi.mT_ap, Mi.kT_ok, Mi.kT_exc, Mi.mNotT_ap, Mi.kN_ok, Mi.kN_exc, Mi.mAndT_ap, Mi.kA_ok, Mi.kA_exc, Mi.mOrT_ap, Mi.kO_ok, Mi.kO_exc, Mi.mAndV_ap, Mi.kAV_ok, Mi.mOrV_ap, Mi.kOV_ok, Mi.mIf_ap, Mi.kIf_ok, Mi.mChain_ap, Mi.kCh_ok, Mi.kCh1_ok, Mi.kCh2_ok, Mi.mSeq_ap, Mi.kS_nx, Mi.kS_rt, Mi.kS_exc, Mi.kS_bk, Mi.kS_ct, Mi.mNext_ap, Mi.mDrop_ap, Mi.kD_ok, Mi.kD_exc, Mi.mRet_ap, Mi.kR_ok, Mi.kR_exc, Mi.mRetN_ap, Mi.mIfS_ap, Mi.kI_ok, Mi.kI_exc, Mi.mAsg_ap, Mi.kG_ok, Mi.kG_exc, Mi.kG2_some, Mi.mgName_ap, Mi.mgTup_ap, Mi.mgCons_ap, Mi.kgs_some, Mi.mgNil_ap, Mi.mPar_ap, Mi.kP_ok, Mi.mPar3_ap, Mi.kP3_ok, Mi.ownAt_ap, Mi.kw_own, Mi.mSlotIx_ap, Mi.kX_some, Mi.kX2_ok, Mi.kX3_some, Mi.mCall_ap, Mi.kc_ok, Mi.kf_ok, Mi.kf_exc, Mi.mCallO_ap, Mi.kq_some, Mi.kq2_ok, Mi.kq3_some, Mi.kq4_ok, Mi.mSetIx_ap, Mi.ky_ok, Mi.ky2_some, Mi.ky3_ok, Mi.ky4_some, Mi.mItL_ap, Mi.kIL_ok, Mi.kRs_some, Mi.mItT_ap, Mi.kIT_ok, Mi.mRng1_ap, Mi.kr1_ok, Mi.mRng2_ap, Mi.kr2_ok, Mi.mFor_ap, Mi.kFo_ok, Mi.mLoop_nil, Mi.kl1_some, Mi.kl2_nx, Mi.kl2_ct, Mi.kl2_bk, Mi.kl2_rt, Mi.kl2_exc, Mi.mLc_ap, Mi.kLc_ok, Mi.lc_nil, Mi.kz1_some, Mi.kz2_ok, Mi.kz3_ok, Mi.mYes_ap, Mi.mAug_ap, Mi.kU_some, Mi.kU2_int, Mi.mTry_ap, Mi.kTr_nx, Mi.kTr_rt, Mi.mMeth_ap, Mi.kMe_lst, Mi.kMe_own, Mi.mAppend_ap, Mi.kAp_some, Mi.kAp2_ok, Mi.kAp3_some, Mi.dAdd_int, Mi.dAdd_str, Mi.dAdd_tup, Mi.dAdd_ll, Mi.dAdd_lo, Mi.dAdd_ol, Mi.dAdd_oo, Mi.dSub_int, Mi.dMul_int, Mi.dMod_int, Mi.dFdiv_int, Mi.dPow_int, Mi.dNeg_int, Mi.dDivmod_int, Mi.dGt_int, Mi.dGe_int, Mi.dLe_int, Mi.dLtI_int, Mi.dLt_int, Mi.dEq_int, Mi.dNe_int, Mi.dMax2_int, Mi.dMin2_int, Mi.fn1_ap, Mi.fn2_ap, Mi.dLen_tup, Mi.dLen_lst, Mi.dLen_cst, Mi.dLen_own, Mi.fnM_ap, Mi.kfn_nx, Mi.kfn_rt, Mi.kfn_exc, Mi.fnO_ap, Mi.kfo_nx, Mi.kfo_rt, Mi.env0, Mi.envN, Mi.envS, Mi.wipeN, Mi.wipeS, Mi.lit_own, Mi.lit_lst, Mi.lit_cst, Mi.ix_own, Mi.ix_lst, Mi.ix_cst, Mi.ix_tup, Mi.dix_own, Mi.dix_lst, Mi.dix_cst, Mi.dix_tup, Mi.rng0, Mi.toL, Mi.end_lawL, Mi.btw_int, Mi.btw_bl, Mi.btw_non, Mi.btw_str, Mi.is_non_int, Mi.is_bl_int, Mi.is_int_int, Mi.is_str_int, Mi.is_tup_int, Mi.is_lst_int, Mi.is_cst_int, Mi.is_own_int, Mi.is_non_bool, Mi.is_bl_bool, Mi.is_int_bool, Mi.is_str_bool, Mi.is_tup_bool, Mi.is_lst_bool, Mi.is_cst_bool, Mi.is_own_bool, Mi.is_non_tuple, Mi.is_bl_tuple, Mi.is_int_tuple, Mi.is_str_tuple, Mi.is_tup_tuple, Mi.is_lst_tuple, Mi.is_cst_tuple, Mi.is_own_tuple, Mi.is_non_list, Mi.is_bl_list, Mi.is_int_list, Mi.is_str_list, Mi.is_tup_list, Mi.is_lst_list, Mi.is_cst_list, Mi.is_own_list, Mi.is_non_str, Mi.is_bl_str, Mi.is_int_str, Mi.is_str_str, Mi.is_tup_str, Mi.is_lst_str, Mi.is_cst_str, Mi.is_own_str, Mi.cast_lit, Mi.mPart_ap, Mi.kPt_ok, Mi.mNoPart_ap, Mi.mSl_ap, Mi.kSl1_ok, Mi.kSl2_ok, Mi.kSl3_ok, Mi.dSl_tup, Mi.dSl_lst, Mi.dSl_cst, Mi.mZip_ap, Mi.kZ_tup, Mi.kZ_lst, Mi.mPick_ap, Mi.kPk_ok, Mi.kPk2_some, Mi.at_0, Mi.at_1, Mi.at_2, Mi.at_3, Mi.isT_non, Mi.isT_bl, Mi.isT_int, Mi.isT_str, Mi.isT_tup, Mi.isT_lst, Mi.isT_cst, Mi.isT_own, Mi.dInt_bl, Mi.dIs_f_non, Mi.dIs_t_non, Mi.dIs_f_bl, Mi.dIs_t_bl, Mi.dIs_f_int, Mi.dIs_t_int, Mi.dIs_f_str, Mi.dIs_t_str, Mi.dIs_f_tup, Mi.dIs_t_tup, Mi.dIs_f_lst, Mi.dIs_t_lst, Mi.dIs_f_own, Mi.dIs_t_own, Mi.dIs_f_cst, Mi.dIs_t_cst, Mi.mLR1_ap, Mi.kLR1_ok, Mi.mLR2_ap, Mi.kLR2_ok, Mi.kLR2b_ok, Mi.mCallB_ap, Mi.kcB_some, Mi.kcB1_ok, Mi.kcB2_some, Mi.kcB3_bl, Mi.kcB3_exc, Mi.mExtend_ap, Mi.kEx_some, Mi.kEx2_ok, Mi.kEx3_some, Mi.dNotIn2, Mi.dIn2, Mi.dIsB_tt, Mi.dIsB_ft, Mi.dNotB_tt, Mi.dNotB_ft, D.frz, frzs, D.plain, plains, Bool.and_self, Bool.and_true, Bool.true_and, Bool.and_false, Bool.false_and, List.length_cons, List.length_nil, List.length_set, Nat.reduceAdd, Nat.zero_add, Nat.reduceLT, Nat.reduceLeDiff, sizeLine_eq, if_true, if_false, Bool.not_true, Bool.not_false, Bool.false_eq_true, decide_true, decide_false, and_self, and_true, true_and, List.cons_append, List.nil_append, Option.map_some, Option.bind_some, Int.reduceToNat, Int.reducePow, Int.reduceNeg, Int.reduceEq, Int.reduceLT, Int.reduceLE, Int.reduceAdd, Int.reduceSub, Int.reduceMul, eq_self, Mi.dat, not_true_eq_false, not_false_eq_true, Bool.or_self, Bool.or_true, Bool.or_false, Bool.false_or, Bool.true_or, false_and, and_false, true_or, or_true, false_or, or_false, c, w2, em, c1, l]
      · obtain ⟨s, o2, o', R, hl⟩ := side_loop q0 q1 f lo m (some (.int m)) (by rw [hpw]; omega) h0 (by omega) (by omega) h3 (by omega)
        refine ⟨s, o2, o', R, fun g hg => ?_⟩
        obtain ⟨g, rfl⟩ : ∃ k, g = k + 1 := ⟨g - 1, by omega⟩
        rw [← hl g (by omega)]
        conv => lhs; unfold mWhile
        unfold c_side b_side
        simp -implicitDefEqProofs only [Mi.kof_some, Mi.kof_none, Mi.mOp1_ap, Mi.k1_ok, Mi.k1_exc, Mi.mOp2_ap, Mi.k2a_ok, Mi.k2a_exc, Mi.k2b_ok, Mi.k2b_exc, Mi.mOpL_ap, Mi.kL_ok, Mi.kL_exc, Mi.mCons_ap, Mi.kca_ok, Mi.kca_exc, Mi.kcb_ok, Mi.kcb_exc, Mi.mNil_ap, Mi.mC_ap, Mi.mLst_ap, Mi.mTup_ap, Mi.kLst_ok, Mi.kTup_ok, Mi.mVar_ap, Mi.kV_some, Mi.mFrz_ap, Mi.kF_some, Mi.mMove_ap, Mi.kM_some, Mi.at0, Mi.atS, Mi.set0, Mi.setS, Mi.mT_ap, Mi.kT_ok, Mi.kT_exc, Mi.mNotT_ap, Mi.kN_ok, Mi.kN_exc, Mi.mAndT_ap, Mi.kA_ok, Mi.kA_exc, Mi.mOrT_ap, Mi.kO_ok, Mi.kO_exc, Mi.mAndV_ap, Mi.kAV_ok, Mi.mOrV_ap, Mi.kOV_ok, Mi.mIf_ap, Mi.kIf_ok, Mi.mChain_ap, Mi.kCh_ok, Mi.kCh1_ok, Mi.kCh2_ok, Mi.mSeq_ap, Mi.kS_nx, Mi.kS_rt, Mi.kS_exc, Mi.kS_bk, Mi.kS_ct, Mi.mNext_ap, Mi.mDrop_ap, Mi.kD_ok, Mi.kD_exc, Mi.mRet_ap, Mi.kR_ok, Mi.kR_exc, Mi.mRetN_ap, Mi.mIfS_ap, Mi.kI_ok, Mi.kI_exc, Mi.mAsg_ap, Mi.kG_ok, Mi.kG_exc, Mi.kG2_some, Mi.mgName_ap, Mi.mgTup_ap, Mi.mgCons_ap, Mi.kgs_some, Mi.mgNil_ap, Mi.mPar_ap, Mi.kP_ok, Mi.mPar3_ap, Mi.kP3_ok, Mi.ownAt_ap, Mi.kw_own, Mi.mSlotIx_ap, Mi.kX_some, Mi.kX2_ok, Mi.kX3_some, Mi.mCall_ap, Mi.kc_ok, Mi.kf_ok, Mi.kf_exc, Mi.mCallO_ap, Mi.kq_some, Mi.kq2_ok, Mi.kq3_some, Mi.kq4_ok, Mi.mSetIx_ap, Mi.ky_ok, Mi.ky2_some, Mi.ky3_ok, Mi.ky4_some, Mi.mItL_ap, Mi.kIL_ok, Mi.kRs_some, Mi.mItT_ap, Mi.kIT_ok, Mi.mRng1_ap, Mi.kr1_ok, Mi.mRng2_ap, Mi.kr2_ok, Mi.mFor_ap, Mi.kFo_ok, Mi.mLoop_nil, Mi.kl1_some, Mi.kl2_nx, Mi.kl2_ct, Mi.kl2_bk, Mi.kl2_rt, Mi.kl2_exc, Mi.mLc_ap, Mi.kLc_ok, Mi.lc_nil, Mi.kz1_some, Mi.kz2_ok, Mi.kz3_ok, Mi.mYes_ap, Mi.mAug_ap, Mi.kU_some, Mi.kU2_int, Mi.mTry_ap, Mi.kTr_nx, Mi.kTr_rt, Mi.mMeth_ap, Mi.kMe_lst, Mi.kMe_own, Mi.mAppend_ap, Mi.kAp_some, Mi.kAp2_ok, Mi.kAp3_some, Mi.dAdd_int, Mi.dAdd_str, Mi.dAdd_tup, Mi.dAdd_ll, Mi.dAdd_lo, Mi.dAdd_ol, Mi.dAdd_oo, Mi.dSub_int, Mi.dMul_int, Mi.dMod_int, Mi.dFdiv_int, Mi.dPow_int, Mi.dNeg_int, Mi.dDivmod_int, Mi.dGt_int, Mi.dGe_int, Mi.dLe_int, Mi.dLtI_int, Mi.dLt_int, Mi.dEq_int, Mi.dNe_int, Mi.dMax2_int, Mi.dMin2_int, Mi.fn1_ap, Mi.fn2_ap, Mi.dLen_tup, Mi.dLen_lst, Mi.dLen_cst, Mi.dLen_own, Mi.fnM_ap, Mi.kfn_nx, Mi.kfn_rt, Mi.kfn_exc, Mi.fnO_ap, Mi.kfo_nx, Mi.kfo_rt, Mi.env0, Mi.envN, Mi.envS, Mi.wipeN, Mi.wipeS, Mi.lit_own, Mi.lit_lst, Mi.lit_cst, Mi.ix_own, Mi.ix_lst, Mi.ix_cst, Mi.ix_tup, Mi.dix_own, Mi.dix_lst, Mi.dix_cst, Mi.dix_tup, Mi.rng0, Mi.toL, Mi.end_lawL, Mi.btw_int, Mi.btw_bl, Mi.btw_non, Mi.btw_str, Mi.is_non_int, Mi.is_bl_int, Mi.is_int_int, Mi.is_str_int, Mi.is_tup_int, Mi.is_lst_int, Mi.is_cst_int, Mi.is_own_int, Mi.is_non_bool, Mi.is_bl_bool, Mi.is_int_bool, Mi.is_str_bool, Mi.is_tup_bool, Mi.is_lst_bool, Mi.is_cst_bool, Mi.is_own_bool, Mi.is_non_tuple, Mi.is_bl_tuple, Mi.is_int_tuple, Mi.is_str_tuple, Mi.is_tup_tuple, Mi.is_lst_tuple, Mi.is_cst_tuple, Mi.is_own_tuple, Mi.is_non_list, Mi.is_bl_list, Mi.is_int_list, Mi.is_str_list, Mi.is_tup_list, Mi.is_lst_list, Mi.is_cst_list, Mi.is_own_list, Mi.is_non_str, Mi.is_bl_str, Mi.is_int_str, Mi.is_str_str, Mi.is_tup_str, Mi.is_lst_str, Mi.is_cst_str, Mi.is_own_str, Mi.cast_lit, Mi.mPart_ap, Mi.kPt_ok, Mi.mNoPart_ap, Mi.mSl_ap, Mi.kSl1_ok, Mi.kSl2_ok, Mi.kSl3_ok, Mi.dSl_tup, Mi.dSl_lst, Mi.dSl_cst, Mi.mZip_ap, Mi.kZ_tup, Mi.kZ_lst, Mi.mPick_ap, Mi.kPk_ok, Mi.kPk2_some, Mi.at_0, Mi.at_1, Mi.at_2, Mi.at_3, Mi.isT_non, Mi.isT_bl, Mi.isT_int, Mi.isT_str, Mi.isT_tup, Mi.isT_lst, Mi.isT_cst, Mi.isT_own, Mi.dInt_bl, Mi.dIs_f_non, Mi.dIs_t_non, Mi.dIs_f_bl, Mi.dIs_t_bl, Mi.dIs_f_int, Mi.dIs_t_int, Mi.dIs_f_str, Mi.dIs_t_str, Mi.dIs_f_tup, Mi.dIs_t_tup, Mi.dIs_f_lst, Mi.dIs_t_lst, Mi.dIs_f_own, Mi.dIs_t_own, Mi.dIs_f_cst, Mi.dIs_t_cst, Mi.mLR1_ap, Mi.kLR1_ok, Mi.mLR2_ap, Mi.kLR2_ok, Mi.kLR2b_ok, Mi.mCallB_ap, Mi.kcB_some, Mi.kcB1_ok, Mi.kcB2_some, Mi.kcB3_bl, Mi.kcB3_exc, Mi.mExtend_ap, Mi.kEx_some, Mi.kEx2_ok, Mi.kEx3_some, Mi.dNotIn2, Mi.dIn2, Mi.dIsB_tt, Mi.dIsB_ft, Mi.dNotB_tt, Mi.dNotB_ft, D.frz, frzs, D.plain, plains, Bool.and_self, Bool.and_true, Bool.true_and, Bool.and_false, Bool.false_and, List.length_cons, List.length_nil, List.length_set, Nat.reduceAdd, Nat.zero_add, Nat.reduceLT, Nat.reduceLeDiff, sizeLine_eq, if_true, if_false, Bool.not_true, Bool.not_false, Bool.false_eq_true, decide_true, decide_false, and_self, and_true, true_and, List.cons_append, List.nil_append, Option.map_some, Option.bind_some, Int.reduceToNat, Int.reducePow, Int.reduceNeg, Int.reduceEq, Int.reduceLT, Int.reduceLE, Int.reduceAdd, Int.reduceSub, Int.reduceMul, eq_self, Mi.dat, not_true_eq_false, not_false_eq_true, Bool.or_self, Bool.or_true, Bool.or_false, Bool.false_or, Bool.true_or, false_and, and_false, true_or, or_true, false_or, or_false, c, w2, em, c1, l]
    · have e : hi = lo + 1 := by omega
      subst e
      refine ⟨lo, some (.int (lo + 1)), o, ⟨h0, h3, h4⟩, fun g hg => ?_⟩
      obtain ⟨g, rfl⟩ : ∃ k, g = k + 1 := ⟨g - 1, by omega⟩
      unfold mWhile c_side
      simp -implicitDefEqProofs only [Mi.kof_some, Mi.kof_none, Mi.mOp1_ap, Mi.k1_ok, Mi.k1_exc, Mi.mOp2_ap, Mi.k2a_ok, Mi.k2a_exc, Mi.k2b_ok, Mi.k2b_exc, Mi.mOpL_ap, Mi.kL_ok, Mi.kL_exc, Mi.mCons_ap, Mi.kca_ok, Mi.kca_exc, Mi.kcb_ok, Mi.kcb_exc, Mi.mNil_ap, Mi.mC_ap, Mi.mLst_ap, Mi.mTup_ap, Mi.kLst_ok, Mi.kTup_ok, Mi.mVar_ap, Mi.kV_some, Mi.mFrz_ap, Mi.kF_some, Mi.mMove_ap, Mi.kM_some, Mi.at0, Mi.atS, Mi.set0, Mi.setS, Mi.mT_ap, Mi.kT_ok, Mi.kT_exc, Mi.mNotT_ap, Mi.kN_ok, Mi.kN_exc, Mi.mAndT_ap, Mi.kA_ok, Mi.kA_exc, Mi.mOrT_ap, Mi.kO_ok, Mi.kO_exc, Mi.mAndV_ap, Mi.kAV_ok, Mi.mOrV_ap, Mi.kOV_ok, Mi.mIf_ap, Mi.kIf_ok, Mi.mChain_ap, Mi.kCh_ok, Mi.kCh1_ok, Mi.kCh2_ok, Mi.mSeq_ap, Mi.kS_nx, Mi.kS_rt, Mi.kS_exc, Mi.kS_bk, Mi.kS_ct, Mi.mNext_ap, Mi.mDrop_ap, Mi.kD_ok, Mi.kD_exc, Mi.mRet_ap, Mi.kR_ok, Mi.kR_exc, Mi.mRetN_ap, Mi.mIfS_ap, Mi.kI_ok, Mi.kI_exc, Mi.mAsg_ap, Mi.kG_ok, Mi.kG_exc, Mi.kG2_some, Mi.mgName_ap, Mi.mgTup_ap, Mi.mgCons_ap, Mi.kgs_some, Mi.mgNil_ap, Mi.mPar_ap, Mi.kP_ok, Mi.mPar3_ap, Mi.kP3_ok, Mi.ownAt_ap, Mi.kw_own, Mi.mSlotIx_ap, Mi.kX_some, Mi.kX2_ok, Mi.kX3_some, Mi.mCall_ap, Mi.kc_ok, Mi.kf_ok, Mi.kf_exc, Mi.mCallO_ap, Mi.kq_some, Mi.kq2_ok, Mi.kq3_some, Mi.kq4_ok, Mi.mSetIx_ap, Mi.ky_ok, Mi.ky2_some, Mi.ky3_ok, Mi.ky4_some, Mi.mItL_ap, Mi.kIL_ok, Mi.kRs_some, Mi.mItT_ap, Mi.kIT_ok, Mi.mRng1_ap, Mi.kr1_ok, Mi.mRng2_ap, Mi.kr2_ok, Mi.mFor_ap, Mi.kFo_ok, Mi.mLoop_nil, Mi.kl1_some, Mi.kl2_nx, Mi.kl2_ct, Mi.kl2_bk, Mi.kl2_rt, Mi.kl2_exc, Mi.mLc_ap, Mi.kLc_ok, Mi.lc_nil, Mi.kz1_some, Mi.kz2_ok, Mi.kz3_ok, Mi.mYes_ap, Mi.mAug_ap, Mi.kU_some, Mi.kU2_int, Mi.mTry_ap, Mi.kTr_nx, Mi.kTr_rt, Mi.mMeth_ap, Mi.kMe_lst, Mi.kMe_own, Mi.mAppend_ap, Mi.kAp_some, Mi.kAp2_ok, Mi.kAp3_some, Mi.dAdd_int, Mi.dAdd_str, Mi.dAdd_tup, Mi.dAdd_ll, Mi.dAdd_lo, Mi.dAdd_ol, Mi.dAdd_oo, Mi.dSub_int, Mi.dMul_int, Mi.dMod_int, Mi.dFdiv_int, Mi.dPow_int, Mi.dNeg_int, Mi.dDivmod_int, Mi.dGt_int, Mi.dGe_int, Mi.dLe_int, Mi.dLtI_int, Mi.dLt_int, Mi.dEq_int, Mi.dNe_int, Mi.dMax2_int, Mi.dMin2_int, Mi.fn1_ap, Mi.fn2_ap, Mi.dLen_tup, Mi.dLen_lst, Mi.dLen_cst, Mi.dLen_own, Mi.fnM_ap, Mi.kfn_nx, Mi.kfn_rt, Mi.kfn_exc, Mi.fnO_ap, Mi.kfo_nx, Mi.kfo_rt, Mi.env0, Mi.envN, Mi.envS, Mi.wipeN, Mi.wipeS, Mi.lit_own, Mi.lit_lst, Mi.lit_cst, Mi.ix_own, Mi.ix_lst, Mi.ix_cst, Mi.ix_tup, Mi.dix_own, Mi.dix_lst, Mi.dix_cst, Mi.dix_tup, Mi.rng0, Mi.toL, Mi.end_lawL, Mi.btw_int, Mi.btw_bl, Mi.btw_non, Mi.btw_str, Mi.is_non_int, Mi.is_bl_int, Mi.is_int_int, Mi.is_str_int, Mi.is_tup_int, Mi.is_lst_int, Mi.is_cst_int, Mi.is_own_int, Mi.is_non_bool, Mi.is_bl_bool, Mi.is_int_bool, Mi.is_str_bool, Mi.is_tup_bool, Mi.is_lst_bool, Mi.is_cst_bool, Mi.is_own_bool, Mi.is_non_tuple, Mi.is_bl_tuple, Mi.is_int_tuple, Mi.is_str_tuple, Mi.is_tup_tuple, Mi.is_lst_tuple, Mi.is_cst_tuple, Mi.is_own_tuple, Mi.is_non_list, Mi.is_bl_list, Mi.is_int_list, Mi.is_str_list, Mi.is_tup_list, Mi.is_lst_list, Mi.is_cst_list, Mi.is_own_list, Mi.is_non_str, Mi.is_bl_str, Mi.is_int_str, Mi.is_str_str, Mi.is_tup_str, Mi.is_lst_str, Mi.is_cst_str, Mi.is_own_str, Mi.cast_lit, Mi.mPart_ap, Mi.kPt_ok, Mi.mNoPart_ap, Mi.mSl_ap, Mi.kSl1_ok, Mi.kSl2_ok, Mi.kSl3_ok, Mi.dSl_tup, Mi.dSl_lst, Mi.dSl_cst, Mi.mZip_ap, Mi.kZ_tup, Mi.kZ_lst, Mi.mPick_ap, Mi.kPk_ok, Mi.kPk2_some, Mi.at_0, Mi.at_1, Mi.at_2, Mi.at_3, Mi.isT_non, Mi.isT_bl, Mi.isT_int, Mi.isT_str, Mi.isT_tup, Mi.isT_lst, Mi.isT_cst, Mi.isT_own, Mi.dInt_bl, Mi.dIs_f_non, Mi.dIs_t_non, Mi.dIs_f_bl, Mi.dIs_t_bl, Mi.dIs_f_int, Mi.dIs_t_int, Mi.dIs_f_str, Mi.dIs_t_str, Mi.dIs_f_tup, Mi.dIs_t_tup, Mi.dIs_f_lst, Mi.dIs_t_lst, Mi.dIs_f_own, Mi.dIs_t_own, Mi.dIs_f_cst, Mi.dIs_t_cst, Mi.mLR1_ap, Mi.kLR1_ok, Mi.mLR2_ap, Mi.kLR2_ok, Mi.kLR2b_ok, Mi.mCallB_ap, Mi.kcB_some, Mi.kcB1_ok, Mi.kcB2_some, Mi.kcB3_bl, Mi.kcB3_exc, Mi.mExtend_ap, Mi.kEx_some, Mi.kEx2_ok, Mi.kEx3_some, Mi.dNotIn2, Mi.dIn2, Mi.dIsB_tt, Mi.dIsB_ft, Mi.dNotB_tt, Mi.dNotB_ft, D.frz, frzs, D.plain, plains, Bool.and_self, Bool.and_true, Bool.true_and, Bool.and_false, Bool.false_and, List.length_cons, List.length_nil, List.length_set, Nat.reduceAdd, Nat.zero_add, Nat.reduceLT, Nat.reduceLeDiff, sizeLine_eq, if_true, if_false, Bool.not_true, Bool.not_false, Bool.false_eq_true, decide_true, decide_false, and_self, and_true, true_and, List.cons_append, List.nil_append, Option.map_some, Option.bind_some, Int.reduceToNat, Int.reducePow, Int.reduceNeg, Int.reduceEq, Int.reduceLT, Int.reduceLE, Int.reduceAdd, Int.reduceSub, Int.reduceMul, eq_self, Mi.dat, not_true_eq_false, not_false_eq_true, Bool.or_self, Bool.or_true, Bool.or_false, Bool.false_or, Bool.true_or, false_and, and_false, true_or, or_true, false_or, or_false, c]
theorem sq_succ (q : Int) : (q + 1) * (q + 1) = q * q + q + q + 1 := by rw [Int.add_mul, Int.mul_add]; omega
theorem v_side {q : Int} (q0 : 0 ≤ q) (q1 : q < 2 ^ 42) : ∃ s, Root q s ∧ F_side_of [.int q] = .ok (.int s) := by
  have s1 := sq_succ q
  have s2 : 0 ≤ q * q := Int.mul_nonneg q0 q0
  obtain ⟨s, o2, o', R, hl⟩ := side_loop q0 q1 42 0 (q + 1) none (by have : (q + 1 - 0).toNat ≤ 4398046511104 := by omega
                                                                     exact this) (by decide) (by omega) (by omega) (by omega) (by omega)
  refine ⟨s, R, ?_⟩
  have hl := hl 1000000 (by decide)
  unfold b_side c_side at hl
  unfold F_side_of m_side_of
  simp -implicitDefEqProofs only [Mi.kof_some, Mi.kof_none, Mi.mOp1_ap, Mi.k1_ok, Mi.k1_exc, Mi.mOp2_ap, Mi.k2a_ok, Mi.k2a_exc, Mi.k2b_ok, Mi.k2b_exc, Mi.mOpL_ap, Mi.kL_ok, Mi.kL_exc, Mi.mCons_ap, Mi.kca_ok, Mi.kca_exc, Mi.kcb_ok, Mi.kcb_exc, Mi.mNil_ap, Mi.mC_ap, Mi.mLst_ap, Mi.mTup_ap, Mi.kLst_ok, Mi.kTup_ok, Mi.mVar_ap, Mi.kV_some, Mi.mFrz_ap, Mi.kF_some, Mi.mMove_ap, Mi.kM_some, Mi.at0, Mi.atS, Mi.set0, Mi.setS, Mi.mT_ap, Mi.kT_ok, Mi.kT_exc, Mi.mNotT_ap, Mi.kN_ok, Mi.kN_exc, Mi.mAndT_ap, Mi.kA_ok, Mi.kA_exc, Mi.mOrT_ap, Mi.kO_ok, Mi.kO_exc, Mi.mAndV_ap, Mi.kAV_ok, Mi.mOrV_ap, Mi.kOV_ok, Mi.mIf_ap, Mi.kIf_ok, Mi.mChain_ap, Mi.kCh_ok, Mi.kCh1_ok, Mi.kCh2_ok, Mi.mSeq_ap, Mi.kS_nx, Mi.kS_rt, Mi.kS_exc, Mi.kS_bk, Mi.kS_ct, Mi.mNext_ap, Mi.mDrop_ap, Mi.kD_ok, Mi.kD_exc, Mi.mRet_ap, Mi.kR_ok, Mi.kR_exc, Mi.mRetN_ap, Mi.mIfS_ap, Mi.kI_ok, Mi.kI_exc, Mi.mAsg_ap, Mi.kG_ok, Mi.kG_exc, Mi.kG2_some, Mi.mgName_ap, Mi.mgTup_ap, Mi.mgCons_ap, Mi.kgs_some, Mi.mgNil_ap, Mi.mPar_ap, Mi.kP_ok, Mi.mPar3_ap, Mi.kP3_ok, Mi.ownAt_ap, Mi.kw_own, Mi.mSlotIx_ap, Mi.kX_some, Mi.kX2_ok, Mi.kX3_some, Mi.mCall_ap, Mi.kc_ok, Mi.kf_ok, Mi.kf_exc, Mi.mCallO_ap, Mi.kq_some, Mi.kq2_ok, Mi.kq3_some, Mi.kq4_ok, Mi.mSetIx_ap, Mi.ky_ok, Mi.ky2_some, Mi.ky3_ok, Mi.ky4_some, Mi.mItL_ap, Mi.kIL_ok, Mi.kRs_some, Mi.mItT_ap, Mi.kIT_ok, Mi.mRng1_ap, Mi.kr1_ok, Mi.mRng2_ap, Mi.kr2_ok, Mi.mFor_ap, Mi.kFo_ok, Mi.mLoop_nil, Mi.kl1_some, Mi.kl2_nx, Mi.kl2_ct, Mi.kl2_bk, Mi.kl2_rt, Mi.kl2_exc, Mi.mLc_ap, Mi.kLc_ok, Mi.lc_nil, Mi.kz1_some, Mi.kz2_ok, Mi.kz3_ok, Mi.mYes_ap, Mi.mAug_ap, Mi.kU_some, Mi.kU2_int, Mi.mTry_ap, Mi.kTr_nx, Mi.kTr_rt, Mi.mMeth_ap, Mi.kMe_lst, Mi.kMe_own, Mi.mAppend_ap, Mi.kAp_some, Mi.kAp2_ok, Mi.kAp3_some, Mi.dAdd_int, Mi.dAdd_str, Mi.dAdd_tup, Mi.dAdd_ll, Mi.dAdd_lo, Mi.dAdd_ol, Mi.dAdd_oo, Mi.dSub_int, Mi.dMul_int, Mi.dMod_int, Mi.dFdiv_int, Mi.dPow_int, Mi.dNeg_int, Mi.dDivmod_int, Mi.dGt_int, Mi.dGe_int, Mi.dLe_int, Mi.dLtI_int, Mi.dLt_int, Mi.dEq_int, Mi.dNe_int, Mi.dMax2_int, Mi.dMin2_int, Mi.fn1_ap, Mi.fn2_ap, Mi.dLen_tup, Mi.dLen_lst, Mi.dLen_cst, Mi.dLen_own, Mi.fnM_ap, Mi.kfn_nx, Mi.kfn_rt, Mi.kfn_exc, Mi.fnO_ap, Mi.kfo_nx, Mi.kfo_rt, Mi.env0, Mi.envN, Mi.envS, Mi.wipeN, Mi.wipeS, Mi.lit_own, Mi.lit_lst, Mi.lit_cst, Mi.ix_own, Mi.ix_lst, Mi.ix_cst, Mi.ix_tup, Mi.dix_own, Mi.dix_lst, Mi.dix_cst, Mi.dix_tup, Mi.rng0, Mi.toL, Mi.end_lawL, Mi.btw_int, Mi.btw_bl, Mi.btw_non, Mi.btw_str, Mi.is_non_int, Mi.is_bl_int, Mi.is_int_int, Mi.is_str_int, Mi.is_tup_int, Mi.is_lst_int, Mi.is_cst_int, Mi.is_own_int, Mi.is_non_bool, Mi.is_bl_bool, Mi.is_int_bool, Mi.is_str_bool, Mi.is_tup_bool, Mi.is_lst_bool, Mi.is_cst_bool, Mi.is_own_bool, Mi.is_non_tuple, Mi.is_bl_tuple, Mi.is_int_tuple, Mi.is_str_tuple, Mi.is_tup_tuple, Mi.is_lst_tuple, Mi.is_cst_tuple, Mi.is_own_tuple, Mi.is_non_list, Mi.is_bl_list, Mi.is_int_list, Mi.is_str_list, Mi.is_tup_list, Mi.is_lst_list, Mi.is_cst_list, Mi.is_own_list, Mi.is_non_str, Mi.is_bl_str, Mi.is_int_str, Mi.is_str_str, Mi.is_tup_str, Mi.is_lst_str, Mi.is_cst_str, Mi.is_own_str, Mi.cast_lit, Mi.mPart_ap, Mi.kPt_ok, Mi.mNoPart_ap, Mi.mSl_ap, Mi.kSl1_ok, Mi.kSl2_ok, Mi.kSl3_ok, Mi.dSl_tup, Mi.dSl_lst, Mi.dSl_cst, Mi.mZip_ap, Mi.kZ_tup, Mi.kZ_lst, Mi.mPick_ap, Mi.kPk_ok, Mi.kPk2_some, Mi.at_0, Mi.at_1, Mi.at_2, Mi.at_3, Mi.isT_non, Mi.isT_bl, Mi.isT_int, Mi.isT_str, Mi.isT_tup, Mi.isT_lst, Mi.isT_cst, Mi.isT_own, Mi.dInt_bl, Mi.dIs_f_non, Mi.dIs_t_non, Mi.dIs_f_bl, Mi.dIs_t_bl, Mi.dIs_f_int, Mi.dIs_t_int, Mi.dIs_f_str, Mi.dIs_t_str, Mi.dIs_f_tup, Mi.dIs_t_tup, Mi.dIs_f_lst, Mi.dIs_t_lst, Mi.dIs_f_own, Mi.dIs_t_own, Mi.dIs_f_cst, Mi.dIs_t_cst, Mi.mLR1_ap, Mi.kLR1_ok, Mi.mLR2_ap, Mi.kLR2_ok, Mi.kLR2b_ok, Mi.mCallB_ap, Mi.kcB_some, Mi.kcB1_ok, Mi.kcB2_some, Mi.kcB3_bl, Mi.kcB3_exc, Mi.mExtend_ap, Mi.kEx_some, Mi.kEx2_ok, Mi.kEx3_some, Mi.dNotIn2, Mi.dIn2, Mi.dIsB_tt, Mi.dIsB_ft, Mi.dNotB_tt, Mi.dNotB_ft, D.frz, frzs, D.plain, plains, Bool.and_self, Bool.and_true, Bool.true_and, Bool.and_false, Bool.false_and, List.length_cons, List.length_nil, List.length_set, Nat.reduceAdd, Nat.zero_add, Nat.reduceLT, Nat.reduceLeDiff, sizeLine_eq, if_true, if_false, Bool.not_true, Bool.not_false, Bool.false_eq_true, decide_true, decide_false, and_self, and_true, true_and, List.cons_append, List.nil_append, Option.map_some, Option.bind_some, Int.reduceToNat, Int.reducePow, Int.reduceNeg, Int.reduceEq, Int.reduceLT, Int.reduceLE, Int.reduceAdd, Int.reduceSub, Int.reduceMul, eq_self, Mi.dat, not_true_eq_false, not_false_eq_true, Bool.or_self, Bool.or_true, Bool.or_false, Bool.false_or, Bool.true_or, false_and, and_false, true_or, or_true, false_or, or_false, hl]
end Lw
namespace Lw
open PySem PySem.Spec PyProof.Rows L2 Mi
def qOf (k a b : Int) : Int := (a - b) * (a - b) + 4 * (k - b)
theorem sq_nonneg (p : Int) : 0 ≤ p * p := by
  rcases Int.le_total 0 p with h | h
  · exact Int.mul_nonneg h h
  · exact Int.mul_nonneg_of_nonpos_of_nonpos h h
theorem sq_bound {p m : Int} (h1 : -m ≤ p) (h2 : p ≤ m) : p * p ≤ m * m := by
  have hm : 0 ≤ m := by omega
  rcases Int.le_total 0 p with h | h
  · exact mul_le2 h h2
  · have := mul_le2 (a := -p) (b := m) (by omega) (by omega)
    rw [Int.neg_mul_neg] at this
    exact this
theorem q_facts {n k a b : Int} (G : Good n k a b) : 1 ≤ qOf k a b ∧ qOf k a b < 2 ^ 40 := by
  obtain ⟨h1, h2, h3, h4, h5, h6, h7, h8⟩ := G
  have x1 := sq_nonneg (a - b)
  have x2 := sq_bound (p := a - b) (m := 1000000) (by omega) (by omega)
  unfold qOf
  refine ⟨?_, by omega⟩
  by_cases c : b = k
  · have x3 : 1 ≤ (a - b) * (a - b) := by
      have := mul_le2 (a := 1) (b := b - a) (by decide) (by omega)
      have e : (b - a) * (b - a) = (a - b) * (a - b) := by rw [show b - a = -(a - b) by omega, Int.neg_mul_neg]
      omega
    omega
  · omega
theorem v_under {n k a b : Int} (G : Good n k a b) : F_under_in [.tup [.int n, .int k, .int a, .int b]] = .ok (.int (qOf k a b)) := by
  obtain ⟨h1, h2, h3, h4, h5, h6, h7, h8⟩ := G
  have c1 : CMulX (a - b) (a - b) := cmulx64 (by omega) (by omega)
  have c2 : CMulX 4 (k - b) := cmulx64 (by omega) (by omega)
  unfold F_under_in m_under_in qOf
  simp -implicitDefEqProofs only [Mi.kof_some, Mi.kof_none, Mi.mOp1_ap, Mi.k1_ok, Mi.k1_exc, Mi.mOp2_ap, Mi.k2a_ok, Mi.k2a_exc, Mi.k2b_ok, Mi.k2b_exc, Mi.mOpL_ap, Mi.kL_ok, Mi.kL_exc, Mi.mCons_ap, Mi.kca_ok, Mi.kca_exc, Mi.kcb_ok, Mi.kcb_exc, Mi.mNil_ap, Mi.mC_ap, Mi.mLst_ap, Mi.mTup_ap, Mi.kLst_ok, Mi.kTup_ok, Mi.mVar_ap, Mi.kV_some, Mi.mFrz_ap, Mi.kF_some, Mi.mMove_ap, Mi.kM_some, Mi.at0, Mi.atS, Mi.set0, Mi.setS, Mi.mT_ap, Mi.kT_ok, Mi.kT_exc, Mi.mNotT_ap, Mi.kN_ok, Mi.kN_exc, Mi.mAndT_ap, Mi.kA_ok, Mi.kA_exc, Mi.mOrT_ap, Mi.kO_ok, Mi.kO_exc, Mi.mAndV_ap, Mi.kAV_ok, Mi.mOrV_ap, Mi.kOV_ok, Mi.mIf_ap, Mi.kIf_ok, Mi.mChain_ap, Mi.kCh_ok, Mi.kCh1_ok, Mi.kCh2_ok, Mi.mSeq_ap, Mi.kS_nx, Mi.kS_rt, Mi.kS_exc, Mi.kS_bk, Mi.kS_ct, Mi.mNext_ap, Mi.mDrop_ap, Mi.kD_ok, Mi.kD_exc, Mi.mRet_ap, Mi.kR_ok, Mi.kR_exc, Mi.mRetN_ap, Mi.mIfS_ap, Mi.kI_ok, Mi.kI_exc, Mi.mAsg_ap, Mi.kG_ok, Mi.kG_exc, Mi.kG2_some, Mi.mgName_ap, Mi.mgTup_ap, Mi.mgCons_ap, Mi.kgs_some, Mi.mgNil_ap, Mi.mPar_ap, Mi.kP_ok, Mi.mPar3_ap, Mi.kP3_ok, Mi.ownAt_ap, Mi.kw_own, Mi.mSlotIx_ap, Mi.kX_some, Mi.kX2_ok, Mi.kX3_some, Mi.mCall_ap, Mi.kc_ok, Mi.kf_ok, Mi.kf_exc, Mi.mCallO_ap, Mi.kq_some, Mi.kq2_ok, Mi.kq3_some, Mi.kq4_ok, Mi.mSetIx_ap, Mi.ky_ok, Mi.ky2_some, Mi.ky3_ok, Mi.ky4_some, Mi.mItL_ap, Mi.kIL_ok, Mi.kRs_some, Mi.mItT_ap, Mi.kIT_ok, Mi.mRng1_ap, Mi.kr1_ok, Mi.mRng2_ap, Mi.kr2_ok, Mi.mFor_ap, Mi.kFo_ok, Mi.mLoop_nil, Mi.kl1_some, Mi.kl2_nx, Mi.kl2_ct, Mi.kl2_bk, Mi.kl2_rt, Mi.kl2_exc, Mi.mLc_ap, Mi.kLc_ok, Mi.lc_nil, Mi.kz1_some, Mi.kz2_ok, Mi.kz3_ok, Mi.mYes_ap, Mi.mAug_ap, Mi.kU_some, Mi.kU2_int, Mi.mTry_ap, Mi.kTr_nx, Mi.kTr_rt, Mi.mMeth_ap, Mi.kMe_lst, Mi.kMe_own, Mi.mAppend_ap, Mi.kAp_some, Mi.kAp2_ok, Mi.kAp3_some, Mi.dAdd_int, Mi.dAdd_str, Mi.dAdd_tup, Mi.dAdd_ll, Mi.dAdd_lo, Mi.dAdd_ol, Mi.dAdd_oo, Mi.dSub_int, Mi.dMul_int, Mi.dMod_int, Mi.dFdiv_int, Mi.dPow_int, Mi.dNeg_int, Mi.dDivmod_int, Mi.dGt_int, Mi.dGe_int, Mi.dLe_int, Mi.dLtI_int, Mi.dLt_int, Mi.dEq_int, Mi.dNe_int, Mi.dMax2_int, Mi.dMin2_int, Mi.fn1_ap, Mi.fn2_ap, Mi.dLen_tup, Mi.dLen_lst, Mi.dLen_cst, Mi.dLen_own, Mi.fnM_ap, Mi.kfn_nx, Mi.kfn_rt, Mi.kfn_exc, Mi.fnO_ap, Mi.kfo_nx, Mi.kfo_rt, Mi.env0, Mi.envN, Mi.envS, Mi.wipeN, Mi.wipeS, Mi.lit_own, Mi.lit_lst, Mi.lit_cst, Mi.ix_own, Mi.ix_lst, Mi.ix_cst, Mi.ix_tup, Mi.dix_own, Mi.dix_lst, Mi.dix_cst, Mi.dix_tup, Mi.rng0, Mi.toL, Mi.end_lawL, Mi.btw_int, Mi.btw_bl, Mi.btw_non, Mi.btw_str, Mi.is_non_int, Mi.is_bl_int, Mi.is_int_int, Mi.is_str_int, Mi.is_tup_int, Mi.is_lst_int, Mi.is_cst_int, Mi.is_own_int, Mi.is_non_bool, Mi.is_bl_bool, Mi.is_int_bool, Mi.is_str_bool, Mi.is_tup_bool, Mi.is_lst_bool, Mi.is_cst_bool, Mi.is_own_bool, Mi.is_non_tuple, Mi.is_bl_tuple, Mi.is_int_tuple, Mi.is_str_tuple, Mi.is_tup_tuple, Mi.is_lst_tuple, Mi.is_cst_tuple, Mi.is_own_tuple, Mi.is_non_list, Mi.is_bl_list, Mi.is_int_list, Mi.is_str_list, Mi.is_tup_list, Mi.is_lst_list, Mi.is_cst_list, Mi.is_own_list, Mi.is_non_str, Mi.is_bl_str, Mi.is_int_str, Mi.is_str_str, Mi.is_tup_str, Mi.is_lst_str, Mi.is_cst_str, Mi.is_own_str, Mi.cast_lit, Mi.mPart_ap, Mi.kPt_ok, Mi.mNoPart_ap, Mi.mSl_ap, Mi.kSl1_ok, Mi.kSl2_ok, Mi.kSl3_ok, Mi.dSl_tup, Mi.dSl_lst, Mi.dSl_cst, Mi.mZip_ap, Mi.kZ_tup, Mi.kZ_lst, Mi.mPick_ap, Mi.kPk_ok, Mi.kPk2_some, Mi.at_0, Mi.at_1, Mi.at_2, Mi.at_3, Mi.isT_non, Mi.isT_bl, Mi.isT_int, Mi.isT_str, Mi.isT_tup, Mi.isT_lst, Mi.isT_cst, Mi.isT_own, Mi.dInt_bl, Mi.dIs_f_non, Mi.dIs_t_non, Mi.dIs_f_bl, Mi.dIs_t_bl, Mi.dIs_f_int, Mi.dIs_t_int, Mi.dIs_f_str, Mi.dIs_t_str, Mi.dIs_f_tup, Mi.dIs_t_tup, Mi.dIs_f_lst, Mi.dIs_t_lst, Mi.dIs_f_own, Mi.dIs_t_own, Mi.dIs_f_cst, Mi.dIs_t_cst, Mi.mLR1_ap, Mi.kLR1_ok, Mi.mLR2_ap, Mi.kLR2_ok, Mi.kLR2b_ok, Mi.mCallB_ap, Mi.kcB_some, Mi.kcB1_ok, Mi.kcB2_some, Mi.kcB3_bl, Mi.kcB3_exc, Mi.mExtend_ap, Mi.kEx_some, Mi.kEx2_ok, Mi.kEx3_some, Mi.dNotIn2, Mi.dIn2, Mi.dIsB_tt, Mi.dIsB_ft, Mi.dNotB_tt, Mi.dNotB_ft, D.frz, frzs, D.plain, plains, Bool.and_self, Bool.and_true, Bool.true_and, Bool.and_false, Bool.false_and, List.length_cons, List.length_nil, List.length_set, Nat.reduceAdd, Nat.zero_add, Nat.reduceLT, Nat.reduceLeDiff, sizeLine_eq, if_true, if_false, Bool.not_true, Bool.not_false, Bool.false_eq_true, decide_true, decide_false, and_self, and_true, true_and, List.cons_append, List.nil_append, Option.map_some, Option.bind_some, Int.reduceToNat, Int.reducePow, Int.reduceNeg, Int.reduceEq, Int.reduceLT, Int.reduceLE, Int.reduceAdd, Int.reduceSub, Int.reduceMul, eq_self, Mi.dat, not_true_eq_false, not_false_eq_true, Bool.or_self, Bool.or_true, Bool.or_false, Bool.false_or, Bool.true_or, false_and, and_false, true_or, or_true, false_or, or_false, c1, c2]
/-- the roots, by the side -/
def rootsD (k a b s : Int) : D := if s * s = qOf k a b then .tup [.int ((a - b + s) / 2), .int ((a - b - s) / 2)] else .non
theorem small_root {q s : Int} (R : Root q s) (h : q < 2 ^ 40) : s < 2 ^ 20 := by
  have := R.lo
  exact lt_of_sq (by decide) (by omega)
theorem v_roots {n k a b : Int} (G : Good n k a b) : ∃ s, Root (qOf k a b) s ∧ F_roots_in [.tup [.int n, .int k, .int a, .int b]] = .ok (rootsD k a b s) := by
  obtain ⟨q1, q2⟩ := q_facts G
  obtain ⟨s, R, hs⟩ := v_side (q := qOf k a b) (by omega) (by omega)
  have u := v_under G
  have r1 := small_root R q2
  have r0 := R.s0
  obtain ⟨h1, h2, h3, h4, h5, h6, h7, h8⟩ := G
  have c1 : CMulX s s := cmulx64 (by omega) (by omega)
  have w1 : CDivW (a - b + s) 2 := cdivw_small (by decide) (by decide)
  have w2 : CDivW (a - b - s) 2 := cdivw_small (by decide) (by decide)
  refine ⟨s, R, ?_⟩
  unfold F_roots_in m_roots_in rootsD
  by_cases e : s * s = qOf k a b
  · simp -implicitDefEqProofs only [Mi.kof_some, Mi.kof_none, Mi.mOp1_ap, Mi.k1_ok, Mi.k1_exc, Mi.mOp2_ap, Mi.k2a_ok, Mi.k2a_exc, Mi.k2b_ok, Mi.k2b_exc, Mi.mOpL_ap, Mi.kL_ok, Mi.kL_exc, Mi.mCons_ap, Mi.kca_ok, Mi.kca_exc, Mi.kcb_ok, Mi.kcb_exc, Mi.mNil_ap, Mi.mC_ap, Mi.mLst_ap, Mi.mTup_ap, Mi.kLst_ok, Mi.kTup_ok, Mi.mVar_ap, Mi.kV_some, Mi.mFrz_ap, Mi.kF_some, Mi.mMove_ap, Mi.kM_some, Mi.at0, Mi.atS, Mi.set0, Mi.setS, Mi.mT_ap, Mi.kT_ok, Mi.kT_exc, Mi.mNotT_ap, Mi.kN_ok, Mi.kN_exc, Mi.mAndT_ap, Mi.kA_ok, Mi.kA_exc, Mi.mOrT_ap, Mi.kO_ok, Mi.kO_exc, Mi.mAndV_ap, Mi.kAV_ok, Mi.mOrV_ap, Mi.kOV_ok, Mi.mIf_ap, Mi.kIf_ok, Mi.mChain_ap, Mi.kCh_ok, Mi.kCh1_ok, Mi.kCh2_ok, Mi.mSeq_ap, Mi.kS_nx, Mi.kS_rt, Mi.kS_exc, Mi.kS_bk, Mi.kS_ct, Mi.mNext_ap, Mi.mDrop_ap, Mi.kD_ok, Mi.kD_exc, Mi.mRet_ap, Mi.kR_ok, Mi.kR_exc, Mi.mRetN_ap, Mi.mIfS_ap, Mi.kI_ok, Mi.kI_exc, Mi.mAsg_ap, Mi.kG_ok, Mi.kG_exc, Mi.kG2_some, Mi.mgName_ap, Mi.mgTup_ap, Mi.mgCons_ap, Mi.kgs_some, Mi.mgNil_ap, Mi.mPar_ap, Mi.kP_ok, Mi.mPar3_ap, Mi.kP3_ok, Mi.ownAt_ap, Mi.kw_own, Mi.mSlotIx_ap, Mi.kX_some, Mi.kX2_ok, Mi.kX3_some, Mi.mCall_ap, Mi.kc_ok, Mi.kf_ok, Mi.kf_exc, Mi.mCallO_ap, Mi.kq_some, Mi.kq2_ok, Mi.kq3_some, Mi.kq4_ok, Mi.mSetIx_ap, Mi.ky_ok, Mi.ky2_some, Mi.ky3_ok, Mi.ky4_some, Mi.mItL_ap, Mi.kIL_ok, Mi.kRs_some, Mi.mItT_ap, Mi.kIT_ok, Mi.mRng1_ap, Mi.kr1_ok, Mi.mRng2_ap, Mi.kr2_ok, Mi.mFor_ap, Mi.kFo_ok, Mi.mLoop_nil, Mi.kl1_some, Mi.kl2_nx, Mi.kl2_ct, Mi.kl2_bk, Mi.kl2_rt, Mi.kl2_exc, Mi.mLc_ap, Mi.kLc_ok, Mi.lc_nil, Mi.kz1_some, Mi.kz2_ok, Mi.kz3_ok, Mi.mYes_ap, Mi.mAug_ap, Mi.kU_some, Mi.kU2_int, Mi.mTry_ap, Mi.kTr_nx, Mi.kTr_rt, Mi.mMeth_ap, Mi.kMe_lst, Mi.kMe_own, Mi.mAppend_ap, Mi.kAp_some, Mi.kAp2_ok, Mi.kAp3_some, Mi.dAdd_int, Mi.dAdd_str, Mi.dAdd_tup, Mi.dAdd_ll, Mi.dAdd_lo, Mi.dAdd_ol, Mi.dAdd_oo, Mi.dSub_int, Mi.dMul_int, Mi.dMod_int, Mi.dFdiv_int, Mi.dPow_int, Mi.dNeg_int, Mi.dDivmod_int, Mi.dGt_int, Mi.dGe_int, Mi.dLe_int, Mi.dLtI_int, Mi.dLt_int, Mi.dEq_int, Mi.dNe_int, Mi.dMax2_int, Mi.dMin2_int, Mi.fn1_ap, Mi.fn2_ap, Mi.dLen_tup, Mi.dLen_lst, Mi.dLen_cst, Mi.dLen_own, Mi.fnM_ap, Mi.kfn_nx, Mi.kfn_rt, Mi.kfn_exc, Mi.fnO_ap, Mi.kfo_nx, Mi.kfo_rt, Mi.env0, Mi.envN, Mi.envS, Mi.wipeN, Mi.wipeS, Mi.lit_own, Mi.lit_lst, Mi.lit_cst, Mi.ix_own, Mi.ix_lst, Mi.ix_cst, Mi.ix_tup, Mi.dix_own, Mi.dix_lst, Mi.dix_cst, Mi.dix_tup, Mi.rng0, Mi.toL, Mi.end_lawL, Mi.btw_int, Mi.btw_bl, Mi.btw_non, Mi.btw_str, Mi.is_non_int, Mi.is_bl_int, Mi.is_int_int, Mi.is_str_int, Mi.is_tup_int, Mi.is_lst_int, Mi.is_cst_int, Mi.is_own_int, Mi.is_non_bool, Mi.is_bl_bool, Mi.is_int_bool, Mi.is_str_bool, Mi.is_tup_bool, Mi.is_lst_bool, Mi.is_cst_bool, Mi.is_own_bool, Mi.is_non_tuple, Mi.is_bl_tuple, Mi.is_int_tuple, Mi.is_str_tuple, Mi.is_tup_tuple, Mi.is_lst_tuple, Mi.is_cst_tuple, Mi.is_own_tuple, Mi.is_non_list, Mi.is_bl_list, Mi.is_int_list, Mi.is_str_list, Mi.is_tup_list, Mi.is_lst_list, Mi.is_cst_list, Mi.is_own_list, Mi.is_non_str, Mi.is_bl_str, Mi.is_int_str, Mi.is_str_str, Mi.is_tup_str, Mi.is_lst_str, Mi.is_cst_str, Mi.is_own_str, Mi.cast_lit, Mi.mPart_ap, Mi.kPt_ok, Mi.mNoPart_ap, Mi.mSl_ap, Mi.kSl1_ok, Mi.kSl2_ok, Mi.kSl3_ok, Mi.dSl_tup, Mi.dSl_lst, Mi.dSl_cst, Mi.mZip_ap, Mi.kZ_tup, Mi.kZ_lst, Mi.mPick_ap, Mi.kPk_ok, Mi.kPk2_some, Mi.at_0, Mi.at_1, Mi.at_2, Mi.at_3, Mi.isT_non, Mi.isT_bl, Mi.isT_int, Mi.isT_str, Mi.isT_tup, Mi.isT_lst, Mi.isT_cst, Mi.isT_own, Mi.dInt_bl, Mi.dIs_f_non, Mi.dIs_t_non, Mi.dIs_f_bl, Mi.dIs_t_bl, Mi.dIs_f_int, Mi.dIs_t_int, Mi.dIs_f_str, Mi.dIs_t_str, Mi.dIs_f_tup, Mi.dIs_t_tup, Mi.dIs_f_lst, Mi.dIs_t_lst, Mi.dIs_f_own, Mi.dIs_t_own, Mi.dIs_f_cst, Mi.dIs_t_cst, Mi.mLR1_ap, Mi.kLR1_ok, Mi.mLR2_ap, Mi.kLR2_ok, Mi.kLR2b_ok, Mi.mCallB_ap, Mi.kcB_some, Mi.kcB1_ok, Mi.kcB2_some, Mi.kcB3_bl, Mi.kcB3_exc, Mi.mExtend_ap, Mi.kEx_some, Mi.kEx2_ok, Mi.kEx3_some, Mi.dNotIn2, Mi.dIn2, Mi.dIsB_tt, Mi.dIsB_ft, Mi.dNotB_tt, Mi.dNotB_ft, D.frz, frzs, D.plain, plains, Bool.and_self, Bool.and_true, Bool.true_and, Bool.and_false, Bool.false_and, List.length_cons, List.length_nil, List.length_set, Nat.reduceAdd, Nat.zero_add, Nat.reduceLT, Nat.reduceLeDiff, sizeLine_eq, if_true, if_false, Bool.not_true, Bool.not_false, Bool.false_eq_true, decide_true, decide_false, and_self, and_true, true_and, List.cons_append, List.nil_append, Option.map_some, Option.bind_some, Int.reduceToNat, Int.reducePow, Int.reduceNeg, Int.reduceEq, Int.reduceLT, Int.reduceLE, Int.reduceAdd, Int.reduceSub, Int.reduceMul, eq_self, Mi.dat, not_true_eq_false, not_false_eq_true, Bool.or_self, Bool.or_true, Bool.or_false, Bool.false_or, Bool.true_or, false_and, and_false, true_or, or_true, false_or, or_false, u, hs, c1, w1, w2, e]
  · simp -implicitDefEqProofs only [Mi.kof_some, Mi.kof_none, Mi.mOp1_ap, Mi.k1_ok, Mi.k1_exc, Mi.mOp2_ap, Mi.k2a_ok, Mi.k2a_exc, Mi.k2b_ok, Mi.k2b_exc, Mi.mOpL_ap, Mi.kL_ok, Mi.kL_exc, Mi.mCons_ap, Mi.kca_ok, Mi.kca_exc, Mi.kcb_ok, Mi.kcb_exc, Mi.mNil_ap, Mi.mC_ap, Mi.mLst_ap, Mi.mTup_ap, Mi.kLst_ok, Mi.kTup_ok, Mi.mVar_ap, Mi.kV_some, Mi.mFrz_ap, Mi.kF_some, Mi.mMove_ap, Mi.kM_some, Mi.at0, Mi.atS, Mi.set0, Mi.setS, Mi.mT_ap, Mi.kT_ok, Mi.kT_exc, Mi.mNotT_ap, Mi.kN_ok, Mi.kN_exc, Mi.mAndT_ap, Mi.kA_ok, Mi.kA_exc, Mi.mOrT_ap, Mi.kO_ok, Mi.kO_exc, Mi.mAndV_ap, Mi.kAV_ok, Mi.mOrV_ap, Mi.kOV_ok, Mi.mIf_ap, Mi.kIf_ok, Mi.mChain_ap, Mi.kCh_ok, Mi.kCh1_ok, Mi.kCh2_ok, Mi.mSeq_ap, Mi.kS_nx, Mi.kS_rt, Mi.kS_exc, Mi.kS_bk, Mi.kS_ct, Mi.mNext_ap, Mi.mDrop_ap, Mi.kD_ok, Mi.kD_exc, Mi.mRet_ap, Mi.kR_ok, Mi.kR_exc, Mi.mRetN_ap, Mi.mIfS_ap, Mi.kI_ok, Mi.kI_exc, Mi.mAsg_ap, Mi.kG_ok, Mi.kG_exc, Mi.kG2_some, Mi.mgName_ap, Mi.mgTup_ap, Mi.mgCons_ap, Mi.kgs_some, Mi.mgNil_ap, Mi.mPar_ap, Mi.kP_ok, Mi.mPar3_ap, Mi.kP3_ok, Mi.ownAt_ap, Mi.kw_own, Mi.mSlotIx_ap, Mi.kX_some, Mi.kX2_ok, Mi.kX3_some, Mi.mCall_ap, Mi.kc_ok, Mi.kf_ok, Mi.kf_exc, Mi.mCallO_ap, Mi.kq_some, Mi.kq2_ok, Mi.kq3_some, Mi.kq4_ok, Mi.mSetIx_ap, Mi.ky_ok, Mi.ky2_some, Mi.ky3_ok, Mi.ky4_some, Mi.mItL_ap, Mi.kIL_ok, Mi.kRs_some, Mi.mItT_ap, Mi.kIT_ok, Mi.mRng1_ap, Mi.kr1_ok, Mi.mRng2_ap, Mi.kr2_ok, Mi.mFor_ap, Mi.kFo_ok, Mi.mLoop_nil, Mi.kl1_some, Mi.kl2_nx, Mi.kl2_ct, Mi.kl2_bk, Mi.kl2_rt, Mi.kl2_exc, Mi.mLc_ap, Mi.kLc_ok, Mi.lc_nil, Mi.kz1_some, Mi.kz2_ok, Mi.kz3_ok, Mi.mYes_ap, Mi.mAug_ap, Mi.kU_some, Mi.kU2_int, Mi.mTry_ap, Mi.kTr_nx, Mi.kTr_rt, Mi.mMeth_ap, Mi.kMe_lst, Mi.kMe_own, Mi.mAppend_ap, Mi.kAp_some, Mi.kAp2_ok, Mi.kAp3_some, Mi.dAdd_int, Mi.dAdd_str, Mi.dAdd_tup, Mi.dAdd_ll, Mi.dAdd_lo, Mi.dAdd_ol, Mi.dAdd_oo, Mi.dSub_int, Mi.dMul_int, Mi.dMod_int, Mi.dFdiv_int, Mi.dPow_int, Mi.dNeg_int, Mi.dDivmod_int, Mi.dGt_int, Mi.dGe_int, Mi.dLe_int, Mi.dLtI_int, Mi.dLt_int, Mi.dEq_int, Mi.dNe_int, Mi.dMax2_int, Mi.dMin2_int, Mi.fn1_ap, Mi.fn2_ap, Mi.dLen_tup, Mi.dLen_lst, Mi.dLen_cst, Mi.dLen_own, Mi.fnM_ap, Mi.kfn_nx, Mi.kfn_rt, Mi.kfn_exc, Mi.fnO_ap, Mi.kfo_nx, Mi.kfo_rt, Mi.env0, Mi.envN, Mi.envS, Mi.wipeN, Mi.wipeS, Mi.lit_own, Mi.lit_lst, Mi.lit_cst, Mi.ix_own, Mi.ix_lst, Mi.ix_cst, Mi.ix_tup, Mi.dix_own, Mi.dix_lst, Mi.dix_cst, Mi.dix_tup, Mi.rng0, Mi.toL, Mi.end_lawL, Mi.btw_int, Mi.btw_bl, Mi.btw_non, Mi.btw_str, Mi.is_non_int, Mi.is_bl_int, Mi.is_int_int, Mi.is_str_int, Mi.is_tup_int, Mi.is_lst_int, Mi.is_cst_int, Mi.is_own_int, Mi.is_non_bool, Mi.is_bl_bool, Mi.is_int_bool, Mi.is_str_bool, Mi.is_tup_bool, Mi.is_lst_bool, Mi.is_cst_bool, Mi.is_own_bool, Mi.is_non_tuple, Mi.is_bl_tuple, Mi.is_int_tuple, Mi.is_str_tuple, Mi.is_tup_tuple, Mi.is_lst_tuple, Mi.is_cst_tuple, Mi.is_own_tuple, Mi.is_non_list, Mi.is_bl_list, Mi.is_int_list, Mi.is_str_list, Mi.is_tup_list, Mi.is_lst_list, Mi.is_cst_list, Mi.is_own_list, Mi.is_non_str, Mi.is_bl_str, Mi.is_int_str, Mi.is_str_str, Mi.is_tup_str, Mi.is_lst_str, Mi.is_cst_str, Mi.is_own_str, Mi.cast_lit, Mi.mPart_ap, Mi.kPt_ok, Mi.mNoPart_ap, Mi.mSl_ap, Mi.kSl1_ok, Mi.kSl2_ok, Mi.kSl3_ok, Mi.dSl_tup, Mi.dSl_lst, Mi.dSl_cst, Mi.mZip_ap, Mi.kZ_tup, Mi.kZ_lst, Mi.mPick_ap, Mi.kPk_ok, Mi.kPk2_some, Mi.at_0, Mi.at_1, Mi.at_2, Mi.at_3, Mi.isT_non, Mi.isT_bl, Mi.isT_int, Mi.isT_str, Mi.isT_tup, Mi.isT_lst, Mi.isT_cst, Mi.isT_own, Mi.dInt_bl, Mi.dIs_f_non, Mi.dIs_t_non, Mi.dIs_f_bl, Mi.dIs_t_bl, Mi.dIs_f_int, Mi.dIs_t_int, Mi.dIs_f_str, Mi.dIs_t_str, Mi.dIs_f_tup, Mi.dIs_t_tup, Mi.dIs_f_lst, Mi.dIs_t_lst, Mi.dIs_f_own, Mi.dIs_t_own, Mi.dIs_f_cst, Mi.dIs_t_cst, Mi.mLR1_ap, Mi.kLR1_ok, Mi.mLR2_ap, Mi.kLR2_ok, Mi.kLR2b_ok, Mi.mCallB_ap, Mi.kcB_some, Mi.kcB1_ok, Mi.kcB2_some, Mi.kcB3_bl, Mi.kcB3_exc, Mi.mExtend_ap, Mi.kEx_some, Mi.kEx2_ok, Mi.kEx3_some, Mi.dNotIn2, Mi.dIn2, Mi.dIsB_tt, Mi.dIsB_ft, Mi.dNotB_tt, Mi.dNotB_ft, D.frz, frzs, D.plain, plains, Bool.and_self, Bool.and_true, Bool.true_and, Bool.and_false, Bool.false_and, List.length_cons, List.length_nil, List.length_set, Nat.reduceAdd, Nat.zero_add, Nat.reduceLT, Nat.reduceLeDiff, sizeLine_eq, if_true, if_false, Bool.not_true, Bool.not_false, Bool.false_eq_true, decide_true, decide_false, and_self, and_true, true_and, List.cons_append, List.nil_append, Option.map_some, Option.bind_some, Int.reduceToNat, Int.reducePow, Int.reduceNeg, Int.reduceEq, Int.reduceLT, Int.reduceLE, Int.reduceAdd, Int.reduceSub, Int.reduceMul, eq_self, Mi.dat, not_true_eq_false, not_false_eq_true, Bool.or_self, Bool.or_true, Bool.or_false, Bool.false_or, Bool.true_or, false_and, and_false, true_or, or_true, false_or, or_false, u, hs, c1, e]
theorem par (p s m : Int) (h : p * p + 4 * m = s * s) : p % 2 = s % 2 := by
  have x1 : p * p % 2 = s * s % 2 := by omega
  rw [Int.mul_emod, Int.mul_emod s s] at x1
  have y1 : p % 2 = 0 ∨ p % 2 = 1 := by omega
  have y2 : s % 2 = 0 ∨ s % 2 = 1 := by omega
  rcases y1 with y1 | y1 <;> rcases y2 with y2 | y2 <;> rw [y1, y2] at x1 ⊢ <;> revert x1 <;> decide
/-- what the roots are -/
structure Rts (n k a b s r t : Int) : Prop where
  s1 : 1 ≤ s
  s2 : s < 2 ^ 20
  df : r - t = s
  sm : r + t = a - b
  pr : r * t = b - k
  r0 : 0 ≤ r
  r1 : r < 2 ^ 20
  t0 : t < 0
  t1 : -(2 ^ 20) < t
theorem sq_eq {a b : Int} (ha : 0 ≤ a) (hb : 0 ≤ b) (h : a * a = b * b) : a = b := by
  have h1 := le_of_sq (a := a) (b := b) hb (by omega)
  have h2 := le_of_sq (a := b) (b := a) ha (by omega)
  omega
theorem rts {n k a b s : Int} (G : Good n k a b) (R : Root (qOf k a b) s) (e : s * s = qOf k a b) : Rts n k a b s ((a - b + s) / 2) ((a - b - s) / 2) := by
  obtain ⟨q1, q2⟩ := q_facts G
  have r0 := R.s0
  have r1 := small_root R q2
  have p := par (a - b) s (k - b) (by rw [e]; rfl)
  obtain ⟨h1, h2, h3, h4, h5, h6, h7, h8⟩ := G
  have s1 : 1 ≤ s := by
    by_cases c : s = 0
    · subst c; simp at e; omega
    · omega
  obtain ⟨r, er⟩ : ∃ r, (a - b + s) / 2 = r := ⟨_, rfl⟩
  obtain ⟨t, et⟩ : ∃ t, (a - b - s) / 2 = t := ⟨_, rfl⟩
  rw [er, et]
  have d : r - t = s := by omega
  have m : r + t = a - b := by omega
  have pr : r * t = b - k := by
    have z : (r + t) * (r + t) - (r - t) * (r - t) = 4 * (r * t) := by
      simp only [Int.add_mul, Int.mul_add, Int.sub_mul, Int.mul_sub]
      rw [Int.mul_comm t r]
      omega
    rw [m, d, e] at z
    unfold qOf at z
    omega
  have hr : 0 ≤ r := by
    by_cases c : 0 ≤ r
    · exact c
    · have := Int.mul_pos_of_neg_of_neg (show r < 0 by omega) (show t < 0 by omega)
      omega
  have ht : t < 0 := by
    by_cases c : t < 0
    · exact c
    · have z := Int.mul_nonneg hr (show 0 ≤ t by omega)
      have e2 : b = k := by omega
      omega
  refine ⟨s1, r1, d, m, pr, hr, ?_, ht, ?_⟩
  · omega
  · have : r - t < 2 ^ 20 := by omega
    omega
/-- how often -/
def oftenD (n k a b s : Int) : D :=
  if s * s = qOf k a b then
    (if (0 - k - (n - 1) * ((a - b - s) / 2)) % s = 0 ∧ 0 ≤ (0 - k - (n - 1) * ((a - b - s) / 2)) / s ∧ (0 - k - (n - 1) * ((a - b - s) / 2)) / s ≤ n - 1 then .tup [.int ((0 - k - (n - 1) * ((a - b - s) / 2)) / s), .int (n - 1 - (0 - k - (n - 1) * ((a - b - s) / 2)) / s)] else .non)
  else if n % 2 = 0 ∨ 2 * k + (n - 1) * (a - b) ≠ 0 then .non else .tup [.int ((n - 1) / 2), .int ((n - 1) / 2)]
theorem v_often {n k a b s : Int} (G : Good n k a b) (R : Root (qOf k a b) s) (hr : F_roots_in [.tup [.int n, .int k, .int a, .int b]] = .ok (rootsD k a b s)) : F_often_in [.tup [.int n, .int k, .int a, .int b]] = .ok (oftenD n k a b s) := by
  have rt := fun e => rts G R e
  obtain ⟨h1, h2, h3, h4, h5, h6, h7, h8⟩ := G
  unfold rootsD at hr
  unfold F_often_in m_often_in oftenD
  by_cases e : s * s = qOf k a b
  · have rt := rt e
    rw [if_pos e] at hr
    rw [if_pos e]
    obtain ⟨r, er⟩ : ∃ r, (a - b + s) / 2 = r := ⟨_, rfl⟩
    obtain ⟨t, et⟩ : ∃ t, (a - b - s) / 2 = t := ⟨_, rfl⟩
    rw [er, et] at rt hr
    rw [et]
    obtain ⟨s1, s2, df, sm, pr, r0, r1, t0, t1⟩ := rt
    have c1 : CMulX (n - 1) t := cmulx64 (by omega) (by omega)
    obtain ⟨u, eu⟩ : ∃ u, 0 - k - (n - 1) * t = u := ⟨_, rfl⟩
    have w1 : CDivW u s := cdivw_small (by omega) (by omega)
    have sp : 0 < s := by omega
    rw [eu]
    by_cases d1 : u % s = 0
    · by_cases d2 : 0 ≤ u / s
      · by_cases d3 : u / s ≤ n - 1
        · simp -implicitDefEqProofs only [Mi.kof_some, Mi.kof_none, Mi.mOp1_ap, Mi.k1_ok, Mi.k1_exc, Mi.mOp2_ap, Mi.k2a_ok, Mi.k2a_exc, Mi.k2b_ok, Mi.k2b_exc, Mi.mOpL_ap, Mi.kL_ok, Mi.kL_exc, Mi.mCons_ap, Mi.kca_ok, Mi.kca_exc, Mi.kcb_ok, Mi.kcb_exc, Mi.mNil_ap, Mi.mC_ap, Mi.mLst_ap, Mi.mTup_ap, Mi.kLst_ok, Mi.kTup_ok, Mi.mVar_ap, Mi.kV_some, Mi.mFrz_ap, Mi.kF_some, Mi.mMove_ap, Mi.kM_some, Mi.at0, Mi.atS, Mi.set0, Mi.setS, Mi.mT_ap, Mi.kT_ok, Mi.kT_exc, Mi.mNotT_ap, Mi.kN_ok, Mi.kN_exc, Mi.mAndT_ap, Mi.kA_ok, Mi.kA_exc, Mi.mOrT_ap, Mi.kO_ok, Mi.kO_exc, Mi.mAndV_ap, Mi.kAV_ok, Mi.mOrV_ap, Mi.kOV_ok, Mi.mIf_ap, Mi.kIf_ok, Mi.mChain_ap, Mi.kCh_ok, Mi.kCh1_ok, Mi.kCh2_ok, Mi.mSeq_ap, Mi.kS_nx, Mi.kS_rt, Mi.kS_exc, Mi.kS_bk, Mi.kS_ct, Mi.mNext_ap, Mi.mDrop_ap, Mi.kD_ok, Mi.kD_exc, Mi.mRet_ap, Mi.kR_ok, Mi.kR_exc, Mi.mRetN_ap, Mi.mIfS_ap, Mi.kI_ok, Mi.kI_exc, Mi.mAsg_ap, Mi.kG_ok, Mi.kG_exc, Mi.kG2_some, Mi.mgName_ap, Mi.mgTup_ap, Mi.mgCons_ap, Mi.kgs_some, Mi.mgNil_ap, Mi.mPar_ap, Mi.kP_ok, Mi.mPar3_ap, Mi.kP3_ok, Mi.ownAt_ap, Mi.kw_own, Mi.mSlotIx_ap, Mi.kX_some, Mi.kX2_ok, Mi.kX3_some, Mi.mCall_ap, Mi.kc_ok, Mi.kf_ok, Mi.kf_exc, Mi.mCallO_ap, Mi.kq_some, Mi.kq2_ok, Mi.kq3_some, Mi.kq4_ok, Mi.mSetIx_ap, Mi.ky_ok, Mi.ky2_some, Mi.ky3_ok, Mi.ky4_some, Mi.mItL_ap, Mi.kIL_ok, Mi.kRs_some, Mi.mItT_ap, Mi.kIT_ok, Mi.mRng1_ap, Mi.kr1_ok, Mi.mRng2_ap, Mi.kr2_ok, Mi.mFor_ap, Mi.kFo_ok, Mi.mLoop_nil, Mi.kl1_some, Mi.kl2_nx, Mi.kl2_ct, Mi.kl2_bk, Mi.kl2_rt, Mi.kl2_exc, Mi.mLc_ap, Mi.kLc_ok, Mi.lc_nil, Mi.kz1_some, Mi.kz2_ok, Mi.kz3_ok, Mi.mYes_ap, Mi.mAug_ap, Mi.kU_some, Mi.kU2_int, Mi.mTry_ap, Mi.kTr_nx, Mi.kTr_rt, Mi.mMeth_ap, Mi.kMe_lst, Mi.kMe_own, Mi.mAppend_ap, Mi.kAp_some, Mi.kAp2_ok, Mi.kAp3_some, Mi.dAdd_int, Mi.dAdd_str, Mi.dAdd_tup, Mi.dAdd_ll, Mi.dAdd_lo, Mi.dAdd_ol, Mi.dAdd_oo, Mi.dSub_int, Mi.dMul_int, Mi.dMod_int, Mi.dFdiv_int, Mi.dPow_int, Mi.dNeg_int, Mi.dDivmod_int, Mi.dGt_int, Mi.dGe_int, Mi.dLe_int, Mi.dLtI_int, Mi.dLt_int, Mi.dEq_int, Mi.dNe_int, Mi.dMax2_int, Mi.dMin2_int, Mi.fn1_ap, Mi.fn2_ap, Mi.dLen_tup, Mi.dLen_lst, Mi.dLen_cst, Mi.dLen_own, Mi.fnM_ap, Mi.kfn_nx, Mi.kfn_rt, Mi.kfn_exc, Mi.fnO_ap, Mi.kfo_nx, Mi.kfo_rt, Mi.env0, Mi.envN, Mi.envS, Mi.wipeN, Mi.wipeS, Mi.lit_own, Mi.lit_lst, Mi.lit_cst, Mi.ix_own, Mi.ix_lst, Mi.ix_cst, Mi.ix_tup, Mi.dix_own, Mi.dix_lst, Mi.dix_cst, Mi.dix_tup, Mi.rng0, Mi.toL, Mi.end_lawL, Mi.btw_int, Mi.btw_bl, Mi.btw_non, Mi.btw_str, Mi.is_non_int, Mi.is_bl_int, Mi.is_int_int, Mi.is_str_int, Mi.is_tup_int, Mi.is_lst_int, Mi.is_cst_int, Mi.is_own_int, Mi.is_non_bool, Mi.is_bl_bool, Mi.is_int_bool, Mi.is_str_bool, Mi.is_tup_bool, Mi.is_lst_bool, Mi.is_cst_bool, Mi.is_own_bool, Mi.is_non_tuple, Mi.is_bl_tuple, Mi.is_int_tuple, Mi.is_str_tuple, Mi.is_tup_tuple, Mi.is_lst_tuple, Mi.is_cst_tuple, Mi.is_own_tuple, Mi.is_non_list, Mi.is_bl_list, Mi.is_int_list, Mi.is_str_list, Mi.is_tup_list, Mi.is_lst_list, Mi.is_cst_list, Mi.is_own_list, Mi.is_non_str, Mi.is_bl_str, Mi.is_int_str, Mi.is_str_str, Mi.is_tup_str, Mi.is_lst_str, Mi.is_cst_str, Mi.is_own_str, Mi.cast_lit, Mi.mPart_ap, Mi.kPt_ok, Mi.mNoPart_ap, Mi.mSl_ap, Mi.kSl1_ok, Mi.kSl2_ok, Mi.kSl3_ok, Mi.dSl_tup, Mi.dSl_lst, Mi.dSl_cst, Mi.mZip_ap, Mi.kZ_tup, Mi.kZ_lst, Mi.mPick_ap, Mi.kPk_ok, Mi.kPk2_some, Mi.at_0, Mi.at_1, Mi.at_2, Mi.at_3, Mi.isT_non, Mi.isT_bl, Mi.isT_int, Mi.isT_str, Mi.isT_tup, Mi.isT_lst, Mi.isT_cst, Mi.isT_own, Mi.dInt_bl, Mi.dIs_f_non, Mi.dIs_t_non, Mi.dIs_f_bl, Mi.dIs_t_bl, Mi.dIs_f_int, Mi.dIs_t_int, Mi.dIs_f_str, Mi.dIs_t_str, Mi.dIs_f_tup, Mi.dIs_t_tup, Mi.dIs_f_lst, Mi.dIs_t_lst, Mi.dIs_f_own, Mi.dIs_t_own, Mi.dIs_f_cst, Mi.dIs_t_cst, Mi.mLR1_ap, Mi.kLR1_ok, Mi.mLR2_ap, Mi.kLR2_ok, Mi.kLR2b_ok, Mi.mCallB_ap, Mi.kcB_some, Mi.kcB1_ok, Mi.kcB2_some, Mi.kcB3_bl, Mi.kcB3_exc, Mi.mExtend_ap, Mi.kEx_some, Mi.kEx2_ok, Mi.kEx3_some, Mi.dNotIn2, Mi.dIn2, Mi.dIsB_tt, Mi.dIsB_ft, Mi.dNotB_tt, Mi.dNotB_ft, D.frz, frzs, D.plain, plains, Bool.and_self, Bool.and_true, Bool.true_and, Bool.and_false, Bool.false_and, List.length_cons, List.length_nil, List.length_set, Nat.reduceAdd, Nat.zero_add, Nat.reduceLT, Nat.reduceLeDiff, sizeLine_eq, if_true, if_false, Bool.not_true, Bool.not_false, Bool.false_eq_true, decide_true, decide_false, and_self, and_true, true_and, List.cons_append, List.nil_append, Option.map_some, Option.bind_some, Int.reduceToNat, Int.reducePow, Int.reduceNeg, Int.reduceEq, Int.reduceLT, Int.reduceLE, Int.reduceAdd, Int.reduceSub, Int.reduceMul, eq_self, Mi.dat, not_true_eq_false, not_false_eq_true, Bool.or_self, Bool.or_true, Bool.or_false, Bool.false_or, Bool.true_or, false_and, and_false, true_or, or_true, false_or, or_false, hr, c1, df, eu, w1, sp, d1, d2, d3]
        · simp -implicitDefEqProofs only [Mi.kof_some, Mi.kof_none, Mi.mOp1_ap, Mi.k1_ok, Mi.k1_exc, Mi.mOp2_ap, Mi.k2a_ok, Mi.k2a_exc, Mi.k2b_ok, Mi.k2b_exc, Mi.mOpL_ap, Mi.kL_ok, Mi.kL_exc, Mi.mCons_ap, Mi.kca_ok, Mi.kca_exc, Mi.kcb_ok, Mi.kcb_exc, Mi.mNil_ap, Mi.mC_ap, Mi.mLst_ap, Mi.mTup_ap, Mi.kLst_ok, Mi.kTup_ok, Mi.mVar_ap, Mi.kV_some, Mi.mFrz_ap, Mi.kF_some, Mi.mMove_ap, Mi.kM_some, Mi.at0, Mi.atS, Mi.set0, Mi.setS, Mi.mT_ap, Mi.kT_ok, Mi.kT_exc, Mi.mNotT_ap, Mi.kN_ok, Mi.kN_exc, Mi.mAndT_ap, Mi.kA_ok, Mi.kA_exc, Mi.mOrT_ap, Mi.kO_ok, Mi.kO_exc, Mi.mAndV_ap, Mi.kAV_ok, Mi.mOrV_ap, Mi.kOV_ok, Mi.mIf_ap, Mi.kIf_ok, Mi.mChain_ap, Mi.kCh_ok, Mi.kCh1_ok, Mi.kCh2_ok, Mi.mSeq_ap, Mi.kS_nx, Mi.kS_rt, Mi.kS_exc, Mi.kS_bk, Mi.kS_ct, Mi.mNext_ap, Mi.mDrop_ap, Mi.kD_ok, Mi.kD_exc, Mi.mRet_ap, Mi.kR_ok, Mi.kR_exc, Mi.mRetN_ap, Mi.mIfS_ap, Mi.kI_ok, Mi.kI_exc, Mi.mAsg_ap, Mi.kG_ok, Mi.kG_exc, Mi.kG2_some, Mi.mgName_ap, Mi.mgTup_ap, Mi.mgCons_ap, Mi.kgs_some, Mi.mgNil_ap, Mi.mPar_ap, Mi.kP_ok, Mi.mPar3_ap, Mi.kP3_ok, Mi.ownAt_ap, Mi.kw_own, Mi.mSlotIx_ap, Mi.kX_some, Mi.kX2_ok, Mi.kX3_some, Mi.mCall_ap, Mi.kc_ok, Mi.kf_ok, Mi.kf_exc, Mi.mCallO_ap, Mi.kq_some, Mi.kq2_ok, Mi.kq3_some, Mi.kq4_ok, Mi.mSetIx_ap, Mi.ky_ok, Mi.ky2_some, Mi.ky3_ok, Mi.ky4_some, Mi.mItL_ap, Mi.kIL_ok, Mi.kRs_some, Mi.mItT_ap, Mi.kIT_ok, Mi.mRng1_ap, Mi.kr1_ok, Mi.mRng2_ap, Mi.kr2_ok, Mi.mFor_ap, Mi.kFo_ok, Mi.mLoop_nil, Mi.kl1_some, Mi.kl2_nx, Mi.kl2_ct, Mi.kl2_bk, Mi.kl2_rt, Mi.kl2_exc, Mi.mLc_ap, Mi.kLc_ok, Mi.lc_nil, Mi.kz1_some, Mi.kz2_ok, Mi.kz3_ok, Mi.mYes_ap, Mi.mAug_ap, Mi.kU_some, Mi.kU2_int, Mi.mTry_ap, Mi.kTr_nx, Mi.kTr_rt, Mi.mMeth_ap, Mi.kMe_lst, Mi.kMe_own, Mi.mAppend_ap, Mi.kAp_some, Mi.kAp2_ok, Mi.kAp3_some, Mi.dAdd_int, Mi.dAdd_str, Mi.dAdd_tup, Mi.dAdd_ll, Mi.dAdd_lo, Mi.dAdd_ol, Mi.dAdd_oo, Mi.dSub_int, Mi.dMul_int, Mi.dMod_int, Mi.dFdiv_int, Mi.dPow_int, Mi.dNeg_int, Mi.dDivmod_int, Mi.dGt_int, Mi.dGe_int, Mi.dLe_int, Mi.dLtI_int, Mi.dLt_int, Mi.dEq_int, Mi.dNe_int, Mi.dMax2_int, Mi.dMin2_int, Mi.fn1_ap, Mi.fn2_ap, Mi.dLen_tup, Mi.dLen_lst, Mi.dLen_cst, Mi.dLen_own, Mi.fnM_ap, Mi.kfn_nx, Mi.kfn_rt, Mi.kfn_exc, Mi.fnO_ap, Mi.kfo_nx, Mi.kfo_rt, Mi.env0, Mi.envN, Mi.envS, Mi.wipeN, Mi.wipeS, Mi.lit_own, Mi.lit_lst, Mi.lit_cst, Mi.ix_own, Mi.ix_lst, Mi.ix_cst, Mi.ix_tup, Mi.dix_own, Mi.dix_lst, Mi.dix_cst, Mi.dix_tup, Mi.rng0, Mi.toL, Mi.end_lawL, Mi.btw_int, Mi.btw_bl, Mi.btw_non, Mi.btw_str, Mi.is_non_int, Mi.is_bl_int, Mi.is_int_int, Mi.is_str_int, Mi.is_tup_int, Mi.is_lst_int, Mi.is_cst_int, Mi.is_own_int, Mi.is_non_bool, Mi.is_bl_bool, Mi.is_int_bool, Mi.is_str_bool, Mi.is_tup_bool, Mi.is_lst_bool, Mi.is_cst_bool, Mi.is_own_bool, Mi.is_non_tuple, Mi.is_bl_tuple, Mi.is_int_tuple, Mi.is_str_tuple, Mi.is_tup_tuple, Mi.is_lst_tuple, Mi.is_cst_tuple, Mi.is_own_tuple, Mi.is_non_list, Mi.is_bl_list, Mi.is_int_list, Mi.is_str_list, Mi.is_tup_list, Mi.is_lst_list, Mi.is_cst_list, Mi.is_own_list, Mi.is_non_str, Mi.is_bl_str, Mi.is_int_str, Mi.is_str_str, Mi.is_tup_str, Mi.is_lst_str, Mi.is_cst_str, Mi.is_own_str, Mi.cast_lit, Mi.mPart_ap, Mi.kPt_ok, Mi.mNoPart_ap, Mi.mSl_ap, Mi.kSl1_ok, Mi.kSl2_ok, Mi.kSl3_ok, Mi.dSl_tup, Mi.dSl_lst, Mi.dSl_cst, Mi.mZip_ap, Mi.kZ_tup, Mi.kZ_lst, Mi.mPick_ap, Mi.kPk_ok, Mi.kPk2_some, Mi.at_0, Mi.at_1, Mi.at_2, Mi.at_3, Mi.isT_non, Mi.isT_bl, Mi.isT_int, Mi.isT_str, Mi.isT_tup, Mi.isT_lst, Mi.isT_cst, Mi.isT_own, Mi.dInt_bl, Mi.dIs_f_non, Mi.dIs_t_non, Mi.dIs_f_bl, Mi.dIs_t_bl, Mi.dIs_f_int, Mi.dIs_t_int, Mi.dIs_f_str, Mi.dIs_t_str, Mi.dIs_f_tup, Mi.dIs_t_tup, Mi.dIs_f_lst, Mi.dIs_t_lst, Mi.dIs_f_own, Mi.dIs_t_own, Mi.dIs_f_cst, Mi.dIs_t_cst, Mi.mLR1_ap, Mi.kLR1_ok, Mi.mLR2_ap, Mi.kLR2_ok, Mi.kLR2b_ok, Mi.mCallB_ap, Mi.kcB_some, Mi.kcB1_ok, Mi.kcB2_some, Mi.kcB3_bl, Mi.kcB3_exc, Mi.mExtend_ap, Mi.kEx_some, Mi.kEx2_ok, Mi.kEx3_some, Mi.dNotIn2, Mi.dIn2, Mi.dIsB_tt, Mi.dIsB_ft, Mi.dNotB_tt, Mi.dNotB_ft, D.frz, frzs, D.plain, plains, Bool.and_self, Bool.and_true, Bool.true_and, Bool.and_false, Bool.false_and, List.length_cons, List.length_nil, List.length_set, Nat.reduceAdd, Nat.zero_add, Nat.reduceLT, Nat.reduceLeDiff, sizeLine_eq, if_true, if_false, Bool.not_true, Bool.not_false, Bool.false_eq_true, decide_true, decide_false, and_self, and_true, true_and, List.cons_append, List.nil_append, Option.map_some, Option.bind_some, Int.reduceToNat, Int.reducePow, Int.reduceNeg, Int.reduceEq, Int.reduceLT, Int.reduceLE, Int.reduceAdd, Int.reduceSub, Int.reduceMul, eq_self, Mi.dat, not_true_eq_false, not_false_eq_true, Bool.or_self, Bool.or_true, Bool.or_false, Bool.false_or, Bool.true_or, false_and, and_false, true_or, or_true, false_or, or_false, hr, c1, df, eu, w1, sp, d1, d2, d3]
      · simp -implicitDefEqProofs only [Mi.kof_some, Mi.kof_none, Mi.mOp1_ap, Mi.k1_ok, Mi.k1_exc, Mi.mOp2_ap, Mi.k2a_ok, Mi.k2a_exc, Mi.k2b_ok, Mi.k2b_exc, Mi.mOpL_ap, Mi.kL_ok, Mi.kL_exc, Mi.mCons_ap, Mi.kca_ok, Mi.kca_exc, Mi.kcb_ok, Mi.kcb_exc, Mi.mNil_ap, Mi.mC_ap, Mi.mLst_ap, Mi.mTup_ap, Mi.kLst_ok, Mi.kTup_ok, Mi.mVar_ap, Mi.kV_some, Mi.mFrz_ap, Mi.kF_some, Mi.mMove_ap, Mi.kM_some, Mi.at0, Mi.atS, Mi.set0, Mi.setS, Mi.mT_ap, Mi.kT_ok, Mi.kT_exc, Mi.mNotT_ap, Mi.kN_ok, Mi.kN_exc, Mi.mAndT_ap, Mi.kA_ok, Mi.kA_exc, Mi.mOrT_ap, Mi.kO_ok, Mi.kO_exc, Mi.mAndV_ap, Mi.kAV_ok, Mi.mOrV_ap, Mi.kOV_ok, Mi.mIf_ap, Mi.kIf_ok, Mi.mChain_ap, Mi.kCh_ok, Mi.kCh1_ok, Mi.kCh2_ok, Mi.mSeq_ap, Mi.kS_nx, Mi.kS_rt, Mi.kS_exc, Mi.kS_bk, Mi.kS_ct, Mi.mNext_ap, Mi.mDrop_ap, Mi.kD_ok, Mi.kD_exc, Mi.mRet_ap, Mi.kR_ok, Mi.kR_exc, Mi.mRetN_ap, Mi.mIfS_ap, Mi.kI_ok, Mi.kI_exc, Mi.mAsg_ap, Mi.kG_ok, Mi.kG_exc, Mi.kG2_some, Mi.mgName_ap, Mi.mgTup_ap, Mi.mgCons_ap, Mi.kgs_some, Mi.mgNil_ap, Mi.mPar_ap, Mi.kP_ok, Mi.mPar3_ap, Mi.kP3_ok, Mi.ownAt_ap, Mi.kw_own, Mi.mSlotIx_ap, Mi.kX_some, Mi.kX2_ok, Mi.kX3_some, Mi.mCall_ap, Mi.kc_ok, Mi.kf_ok, Mi.kf_exc, Mi.mCallO_ap, Mi.kq_some, Mi.kq2_ok, Mi.kq3_some, Mi.kq4_ok, Mi.mSetIx_ap, Mi.ky_ok, Mi.ky2_some, Mi.ky3_ok, Mi.ky4_some, Mi.mItL_ap, Mi.kIL_ok, Mi.kRs_some, Mi.mItT_ap, Mi.kIT_ok, Mi.mRng1_ap, Mi.kr1_ok, Mi.mRng2_ap, Mi.kr2_ok, Mi.mFor_ap, Mi.kFo_ok, Mi.mLoop_nil, Mi.kl1_some, Mi.kl2_nx, Mi.kl2_ct, Mi.kl2_bk, Mi.kl2_rt, Mi.kl2_exc, Mi.mLc_ap, Mi.kLc_ok, Mi.lc_nil, Mi.kz1_some, Mi.kz2_ok, Mi.kz3_ok, Mi.mYes_ap, Mi.mAug_ap, Mi.kU_some, Mi.kU2_int, Mi.mTry_ap, Mi.kTr_nx, Mi.kTr_rt, Mi.mMeth_ap, Mi.kMe_lst, Mi.kMe_own, Mi.mAppend_ap, Mi.kAp_some, Mi.kAp2_ok, Mi.kAp3_some, Mi.dAdd_int, Mi.dAdd_str, Mi.dAdd_tup, Mi.dAdd_ll, Mi.dAdd_lo, Mi.dAdd_ol, Mi.dAdd_oo, Mi.dSub_int, Mi.dMul_int, Mi.dMod_int, Mi.dFdiv_int, Mi.dPow_int, Mi.dNeg_int, Mi.dDivmod_int, Mi.dGt_int, Mi.dGe_int, Mi.dLe_int, Mi.dLtI_int, Mi.dLt_int, Mi.dEq_int, Mi.dNe_int, Mi.dMax2_int, Mi.dMin2_int, Mi.fn1_ap, Mi.fn2_ap, Mi.dLen_tup, Mi.dLen_lst, Mi.dLen_cst, Mi.dLen_own, Mi.fnM_ap, Mi.kfn_nx, Mi.kfn_rt, Mi.kfn_exc, Mi.fnO_ap, Mi.kfo_nx, Mi.kfo_rt, Mi.env0, Mi.envN, Mi.envS, Mi.wipeN, Mi.wipeS, Mi.lit_own, Mi.lit_lst, Mi.lit_cst, Mi.ix_own, Mi.ix_lst, Mi.ix_cst, Mi.ix_tup, Mi.dix_own, Mi.dix_lst, Mi.dix_cst, Mi.dix_tup, Mi.rng0, Mi.toL, Mi.end_lawL, Mi.btw_int, Mi.btw_bl, Mi.btw_non, Mi.btw_str, Mi.is_non_int, Mi.is_bl_int, Mi.is_int_int, Mi.is_str_int, Mi.is_tup_int, Mi.is_lst_int, Mi.is_cst_int, Mi.is_own_int, Mi.is_non_bool, Mi.is_bl_bool, Mi.is_int_bool, Mi.is_str_bool, Mi.is_tup_bool, Mi.is_lst_bool, Mi.is_cst_bool, Mi.is_own_bool, Mi.is_non_tuple, Mi.is_bl_tuple, Mi.is_int_tuple, Mi.is_str_tuple, Mi.is_tup_tuple, Mi.is_lst_tuple, Mi.is_cst_tuple, Mi.is_own_tuple, Mi.is_non_list, Mi.is_bl_list, Mi.is_int_list, Mi.is_str_list, Mi.is_tup_list, Mi.is_lst_list, Mi.is_cst_list, Mi.is_own_list, Mi.is_non_str, Mi.is_bl_str, Mi.is_int_str, Mi.is_str_str, Mi.is_tup_str, Mi.is_lst_str, Mi.is_cst_str, Mi.is_own_str, Mi.cast_lit, Mi.mPart_ap, Mi.kPt_ok, Mi.mNoPart_ap, Mi.mSl_ap, Mi.kSl1_ok, Mi.kSl2_ok, Mi.kSl3_ok, Mi.dSl_tup, Mi.dSl_lst, Mi.dSl_cst, Mi.mZip_ap, Mi.kZ_tup, Mi.kZ_lst, Mi.mPick_ap, Mi.kPk_ok, Mi.kPk2_some, Mi.at_0, Mi.at_1, Mi.at_2, Mi.at_3, Mi.isT_non, Mi.isT_bl, Mi.isT_int, Mi.isT_str, Mi.isT_tup, Mi.isT_lst, Mi.isT_cst, Mi.isT_own, Mi.dInt_bl, Mi.dIs_f_non, Mi.dIs_t_non, Mi.dIs_f_bl, Mi.dIs_t_bl, Mi.dIs_f_int, Mi.dIs_t_int, Mi.dIs_f_str, Mi.dIs_t_str, Mi.dIs_f_tup, Mi.dIs_t_tup, Mi.dIs_f_lst, Mi.dIs_t_lst, Mi.dIs_f_own, Mi.dIs_t_own, Mi.dIs_f_cst, Mi.dIs_t_cst, Mi.mLR1_ap, Mi.kLR1_ok, Mi.mLR2_ap, Mi.kLR2_ok, Mi.kLR2b_ok, Mi.mCallB_ap, Mi.kcB_some, Mi.kcB1_ok, Mi.kcB2_some, Mi.kcB3_bl, Mi.kcB3_exc, Mi.mExtend_ap, Mi.kEx_some, Mi.kEx2_ok, Mi.kEx3_some, Mi.dNotIn2, Mi.dIn2, Mi.dIsB_tt, Mi.dIsB_ft, Mi.dNotB_tt, Mi.dNotB_ft, D.frz, frzs, D.plain, plains, Bool.and_self, Bool.and_true, Bool.true_and, Bool.and_false, Bool.false_and, List.length_cons, List.length_nil, List.length_set, Nat.reduceAdd, Nat.zero_add, Nat.reduceLT, Nat.reduceLeDiff, sizeLine_eq, if_true, if_false, Bool.not_true, Bool.not_false, Bool.false_eq_true, decide_true, decide_false, and_self, and_true, true_and, List.cons_append, List.nil_append, Option.map_some, Option.bind_some, Int.reduceToNat, Int.reducePow, Int.reduceNeg, Int.reduceEq, Int.reduceLT, Int.reduceLE, Int.reduceAdd, Int.reduceSub, Int.reduceMul, eq_self, Mi.dat, not_true_eq_false, not_false_eq_true, Bool.or_self, Bool.or_true, Bool.or_false, Bool.false_or, Bool.true_or, false_and, and_false, true_or, or_true, false_or, or_false, hr, c1, df, eu, w1, sp, d1, d2]
    · simp -implicitDefEqProofs only [Mi.kof_some, Mi.kof_none, Mi.mOp1_ap, Mi.k1_ok, Mi.k1_exc, Mi.mOp2_ap, Mi.k2a_ok, Mi.k2a_exc, Mi.k2b_ok, Mi.k2b_exc, Mi.mOpL_ap, Mi.kL_ok, Mi.kL_exc, Mi.mCons_ap, Mi.kca_ok, Mi.kca_exc, Mi.kcb_ok, Mi.kcb_exc, Mi.mNil_ap, Mi.mC_ap, Mi.mLst_ap, Mi.mTup_ap, Mi.kLst_ok, Mi.kTup_ok, Mi.mVar_ap, Mi.kV_some, Mi.mFrz_ap, Mi.kF_some, Mi.mMove_ap, Mi.kM_some, Mi.at0, Mi.atS, Mi.set0, Mi.setS, Mi.mT_ap, Mi.kT_ok, Mi.kT_exc, Mi.mNotT_ap, Mi.kN_ok, Mi.kN_exc, Mi.mAndT_ap, Mi.kA_ok, Mi.kA_exc, Mi.mOrT_ap, Mi.kO_ok, Mi.kO_exc, Mi.mAndV_ap, Mi.kAV_ok, Mi.mOrV_ap, Mi.kOV_ok, Mi.mIf_ap, Mi.kIf_ok, Mi.mChain_ap, Mi.kCh_ok, Mi.kCh1_ok, Mi.kCh2_ok, Mi.mSeq_ap, Mi.kS_nx, Mi.kS_rt, Mi.kS_exc, Mi.kS_bk, Mi.kS_ct, Mi.mNext_ap, Mi.mDrop_ap, Mi.kD_ok, Mi.kD_exc, Mi.mRet_ap, Mi.kR_ok, Mi.kR_exc, Mi.mRetN_ap, Mi.mIfS_ap, Mi.kI_ok, Mi.kI_exc, Mi.mAsg_ap, Mi.kG_ok, Mi.kG_exc, Mi.kG2_some, Mi.mgName_ap, Mi.mgTup_ap, Mi.mgCons_ap, Mi.kgs_some, Mi.mgNil_ap, Mi.mPar_ap, Mi.kP_ok, Mi.mPar3_ap, Mi.kP3_ok, Mi.ownAt_ap, Mi.kw_own, Mi.mSlotIx_ap, Mi.kX_some, Mi.kX2_ok, Mi.kX3_some, Mi.mCall_ap, Mi.kc_ok, Mi.kf_ok, Mi.kf_exc, Mi.mCallO_ap, Mi.kq_some, Mi.kq2_ok, Mi.kq3_some, Mi.kq4_ok, Mi.mSetIx_ap, Mi.ky_ok, Mi.ky2_some, Mi.ky3_ok, Mi.ky4_some, Mi.mItL_ap, Mi.kIL_ok, Mi.kRs_some, Mi.mItT_ap, Mi.kIT_ok, Mi.mRng1_ap, Mi.kr1_ok, Mi.mRng2_ap, Mi.kr2_ok, Mi.mFor_ap, Mi.kFo_ok, Mi.mLoop_nil, Mi.kl1_some, Mi.kl2_nx, Mi.kl2_ct, Mi.kl2_bk, Mi.kl2_rt, Mi.kl2_exc, Mi.mLc_ap, Mi.kLc_ok, Mi.lc_nil, Mi.kz1_some, Mi.kz2_ok, Mi.kz3_ok, Mi.mYes_ap, Mi.mAug_ap, Mi.kU_some, Mi.kU2_int, Mi.mTry_ap, Mi.kTr_nx, Mi.kTr_rt, Mi.mMeth_ap, Mi.kMe_lst, Mi.kMe_own, Mi.mAppend_ap, Mi.kAp_some, Mi.kAp2_ok, Mi.kAp3_some, Mi.dAdd_int, Mi.dAdd_str, Mi.dAdd_tup, Mi.dAdd_ll, Mi.dAdd_lo, Mi.dAdd_ol, Mi.dAdd_oo, Mi.dSub_int, Mi.dMul_int, Mi.dMod_int, Mi.dFdiv_int, Mi.dPow_int, Mi.dNeg_int, Mi.dDivmod_int, Mi.dGt_int, Mi.dGe_int, Mi.dLe_int, Mi.dLtI_int, Mi.dLt_int, Mi.dEq_int, Mi.dNe_int, Mi.dMax2_int, Mi.dMin2_int, Mi.fn1_ap, Mi.fn2_ap, Mi.dLen_tup, Mi.dLen_lst, Mi.dLen_cst, Mi.dLen_own, Mi.fnM_ap, Mi.kfn_nx, Mi.kfn_rt, Mi.kfn_exc, Mi.fnO_ap, Mi.kfo_nx, Mi.kfo_rt, Mi.env0, Mi.envN, Mi.envS, Mi.wipeN, Mi.wipeS, Mi.lit_own, Mi.lit_lst, Mi.lit_cst, Mi.ix_own, Mi.ix_lst, Mi.ix_cst, Mi.ix_tup, Mi.dix_own, Mi.dix_lst, Mi.dix_cst, Mi.dix_tup, Mi.rng0, Mi.toL, Mi.end_lawL, Mi.btw_int, Mi.btw_bl, Mi.btw_non, Mi.btw_str, Mi.is_non_int, Mi.is_bl_int, Mi.is_int_int, Mi.is_str_int, Mi.is_tup_int, Mi.is_lst_int, Mi.is_cst_int, Mi.is_own_int, Mi.is_non_bool, Mi.is_bl_bool, Mi.is_int_bool, Mi.is_str_bool, Mi.is_tup_bool, Mi.is_lst_bool, Mi.is_cst_bool, Mi.is_own_bool, Mi.is_non_tuple, Mi.is_bl_tuple, Mi.is_int_tuple, Mi.is_str_tuple, Mi.is_tup_tuple, Mi.is_lst_tuple, Mi.is_cst_tuple, Mi.is_own_tuple, Mi.is_non_list, Mi.is_bl_list, Mi.is_int_list, Mi.is_str_list, Mi.is_tup_list, Mi.is_lst_list, Mi.is_cst_list, Mi.is_own_list, Mi.is_non_str, Mi.is_bl_str, Mi.is_int_str, Mi.is_str_str, Mi.is_tup_str, Mi.is_lst_str, Mi.is_cst_str, Mi.is_own_str, Mi.cast_lit, Mi.mPart_ap, Mi.kPt_ok, Mi.mNoPart_ap, Mi.mSl_ap, Mi.kSl1_ok, Mi.kSl2_ok, Mi.kSl3_ok, Mi.dSl_tup, Mi.dSl_lst, Mi.dSl_cst, Mi.mZip_ap, Mi.kZ_tup, Mi.kZ_lst, Mi.mPick_ap, Mi.kPk_ok, Mi.kPk2_some, Mi.at_0, Mi.at_1, Mi.at_2, Mi.at_3, Mi.isT_non, Mi.isT_bl, Mi.isT_int, Mi.isT_str, Mi.isT_tup, Mi.isT_lst, Mi.isT_cst, Mi.isT_own, Mi.dInt_bl, Mi.dIs_f_non, Mi.dIs_t_non, Mi.dIs_f_bl, Mi.dIs_t_bl, Mi.dIs_f_int, Mi.dIs_t_int, Mi.dIs_f_str, Mi.dIs_t_str, Mi.dIs_f_tup, Mi.dIs_t_tup, Mi.dIs_f_lst, Mi.dIs_t_lst, Mi.dIs_f_own, Mi.dIs_t_own, Mi.dIs_f_cst, Mi.dIs_t_cst, Mi.mLR1_ap, Mi.kLR1_ok, Mi.mLR2_ap, Mi.kLR2_ok, Mi.kLR2b_ok, Mi.mCallB_ap, Mi.kcB_some, Mi.kcB1_ok, Mi.kcB2_some, Mi.kcB3_bl, Mi.kcB3_exc, Mi.mExtend_ap, Mi.kEx_some, Mi.kEx2_ok, Mi.kEx3_some, Mi.dNotIn2, Mi.dIn2, Mi.dIsB_tt, Mi.dIsB_ft, Mi.dNotB_tt, Mi.dNotB_ft, D.frz, frzs, D.plain, plains, Bool.and_self, Bool.and_true, Bool.true_and, Bool.and_false, Bool.false_and, List.length_cons, List.length_nil, List.length_set, Nat.reduceAdd, Nat.zero_add, Nat.reduceLT, Nat.reduceLeDiff, sizeLine_eq, if_true, if_false, Bool.not_true, Bool.not_false, Bool.false_eq_true, decide_true, decide_false, and_self, and_true, true_and, List.cons_append, List.nil_append, Option.map_some, Option.bind_some, Int.reduceToNat, Int.reducePow, Int.reduceNeg, Int.reduceEq, Int.reduceLT, Int.reduceLE, Int.reduceAdd, Int.reduceSub, Int.reduceMul, eq_self, Mi.dat, not_true_eq_false, not_false_eq_true, Bool.or_self, Bool.or_true, Bool.or_false, Bool.false_or, Bool.true_or, false_and, and_false, true_or, or_true, false_or, or_false, hr, c1, df, eu, w1, sp, d1]
  · rw [if_neg e] at hr
    rw [if_neg e]
    have c1 : CMulX (n - 1) (a - b) := cmulx64 (by omega) (by omega)
    have c2 : CMulX 2 k := cmulx64 (by decide) (by omega)
    have w1 : CDivW (n - 1) 2 := cdivw_small (by decide) (by decide)
    have p2 : (0 : Int) < 2 := by decide
    by_cases d1 : n % 2 = 0
    · simp -implicitDefEqProofs only [Mi.kof_some, Mi.kof_none, Mi.mOp1_ap, Mi.k1_ok, Mi.k1_exc, Mi.mOp2_ap, Mi.k2a_ok, Mi.k2a_exc, Mi.k2b_ok, Mi.k2b_exc, Mi.mOpL_ap, Mi.kL_ok, Mi.kL_exc, Mi.mCons_ap, Mi.kca_ok, Mi.kca_exc, Mi.kcb_ok, Mi.kcb_exc, Mi.mNil_ap, Mi.mC_ap, Mi.mLst_ap, Mi.mTup_ap, Mi.kLst_ok, Mi.kTup_ok, Mi.mVar_ap, Mi.kV_some, Mi.mFrz_ap, Mi.kF_some, Mi.mMove_ap, Mi.kM_some, Mi.at0, Mi.atS, Mi.set0, Mi.setS, Mi.mT_ap, Mi.kT_ok, Mi.kT_exc, Mi.mNotT_ap, Mi.kN_ok, Mi.kN_exc, Mi.mAndT_ap, Mi.kA_ok, Mi.kA_exc, Mi.mOrT_ap, Mi.kO_ok, Mi.kO_exc, Mi.mAndV_ap, Mi.kAV_ok, Mi.mOrV_ap, Mi.kOV_ok, Mi.mIf_ap, Mi.kIf_ok, Mi.mChain_ap, Mi.kCh_ok, Mi.kCh1_ok, Mi.kCh2_ok, Mi.mSeq_ap, Mi.kS_nx, Mi.kS_rt, Mi.kS_exc, Mi.kS_bk, Mi.kS_ct, Mi.mNext_ap, Mi.mDrop_ap, Mi.kD_ok, Mi.kD_exc, Mi.mRet_ap, Mi.kR_ok, Mi.kR_exc, Mi.mRetN_ap, Mi.mIfS_ap, Mi.kI_ok, Mi.kI_exc, Mi.mAsg_ap, Mi.kG_ok, Mi.kG_exc, Mi.kG2_some, Mi.mgName_ap, Mi.mgTup_ap, Mi.mgCons_ap, Mi.kgs_some, Mi.mgNil_ap, Mi.mPar_ap, Mi.kP_ok, Mi.mPar3_ap, Mi.kP3_ok, Mi.ownAt_ap, Mi.kw_own, Mi.mSlotIx_ap, Mi.kX_some, Mi.kX2_ok, Mi.kX3_some, Mi.mCall_ap, Mi.kc_ok, Mi.kf_ok, Mi.kf_exc, Mi.mCallO_ap, Mi.kq_some, Mi.kq2_ok, Mi.kq3_some, Mi.kq4_ok, Mi.mSetIx_ap, Mi.ky_ok, Mi.ky2_some, Mi.ky3_ok, Mi.ky4_some, Mi.mItL_ap, Mi.kIL_ok, Mi.kRs_some, Mi.mItT_ap, Mi.kIT_ok, Mi.mRng1_ap, Mi.kr1_ok, Mi.mRng2_ap, Mi.kr2_ok, Mi.mFor_ap, Mi.kFo_ok, Mi.mLoop_nil, Mi.kl1_some, Mi.kl2_nx, Mi.kl2_ct, Mi.kl2_bk, Mi.kl2_rt, Mi.kl2_exc, Mi.mLc_ap, Mi.kLc_ok, Mi.lc_nil, Mi.kz1_some, Mi.kz2_ok, Mi.kz3_ok, Mi.mYes_ap, Mi.mAug_ap, Mi.kU_some, Mi.kU2_int, Mi.mTry_ap, Mi.kTr_nx, Mi.kTr_rt, Mi.mMeth_ap, Mi.kMe_lst, Mi.kMe_own, Mi.mAppend_ap, Mi.kAp_some, Mi.kAp2_ok, Mi.kAp3_some, Mi.dAdd_int, Mi.dAdd_str, Mi.dAdd_tup, Mi.dAdd_ll, Mi.dAdd_lo, Mi.dAdd_ol, Mi.dAdd_oo, Mi.dSub_int, Mi.dMul_int, Mi.dMod_int, Mi.dFdiv_int, Mi.dPow_int, Mi.dNeg_int, Mi.dDivmod_int, Mi.dGt_int, Mi.dGe_int, Mi.dLe_int, Mi.dLtI_int, Mi.dLt_int, Mi.dEq_int, Mi.dNe_int, Mi.dMax2_int, Mi.dMin2_int, Mi.fn1_ap, Mi.fn2_ap, Mi.dLen_tup, Mi.dLen_lst, Mi.dLen_cst, Mi.dLen_own, Mi.fnM_ap, Mi.kfn_nx, Mi.kfn_rt, Mi.kfn_exc, Mi.fnO_ap, Mi.kfo_nx, Mi.kfo_rt, Mi.env0, Mi.envN, Mi.envS, Mi.wipeN, Mi.wipeS, Mi.lit_own, Mi.lit_lst, Mi.lit_cst, Mi.ix_own, Mi.ix_lst, Mi.ix_cst, Mi.ix_tup, Mi.dix_own, Mi.dix_lst, Mi.dix_cst, Mi.dix_tup, Mi.rng0, Mi.toL, Mi.end_lawL, Mi.btw_int, Mi.btw_bl, Mi.btw_non, Mi.btw_str, Mi.is_non_int, Mi.is_bl_int, Mi.is_int_int, Mi.is_str_int, Mi.is_tup_int, Mi.is_lst_int, Mi.is_cst_int, Mi.is_own_int, Mi.is_non_bool, Mi.is_bl_bool, Mi.is_int_bool, Mi.is_str_bool, Mi.is_tup_bool, Mi.is_lst_bool, Mi.is_cst_bool, Mi.is_own_bool, Mi.is_non_tuple, Mi.is_bl_tuple, Mi.is_int_tuple, Mi.is_str_tuple, Mi.is_tup_tuple, Mi.is_lst_tuple, Mi.is_cst_tuple, Mi.is_own_tuple, Mi.is_non_list, Mi.is_bl_list, Mi.is_int_list, Mi.is_str_list, Mi.is_tup_list, Mi.is_lst_list, Mi.is_cst_list, Mi.is_own_list, Mi.is_non_str, Mi.is_bl_str, Mi.is_int_str, Mi.is_str_str, Mi.is_tup_str, Mi.is_lst_str, Mi.is_cst_str, Mi.is_own_str, Mi.cast_lit, Mi.mPart_ap, Mi.kPt_ok, Mi.mNoPart_ap, Mi.mSl_ap, Mi.kSl1_ok, Mi.kSl2_ok, Mi.kSl3_ok, Mi.dSl_tup, Mi.dSl_lst, Mi.dSl_cst, Mi.mZip_ap, Mi.kZ_tup, Mi.kZ_lst, Mi.mPick_ap, Mi.kPk_ok, Mi.kPk2_some, Mi.at_0, Mi.at_1, Mi.at_2, Mi.at_3, Mi.isT_non, Mi.isT_bl, Mi.isT_int, Mi.isT_str, Mi.isT_tup, Mi.isT_lst, Mi.isT_cst, Mi.isT_own, Mi.dInt_bl, Mi.dIs_f_non, Mi.dIs_t_non, Mi.dIs_f_bl, Mi.dIs_t_bl, Mi.dIs_f_int, Mi.dIs_t_int, Mi.dIs_f_str, Mi.dIs_t_str, Mi.dIs_f_tup, Mi.dIs_t_tup, Mi.dIs_f_lst, Mi.dIs_t_lst, Mi.dIs_f_own, Mi.dIs_t_own, Mi.dIs_f_cst, Mi.dIs_t_cst, Mi.mLR1_ap, Mi.kLR1_ok, Mi.mLR2_ap, Mi.kLR2_ok, Mi.kLR2b_ok, Mi.mCallB_ap, Mi.kcB_some, Mi.kcB1_ok, Mi.kcB2_some, Mi.kcB3_bl, Mi.kcB3_exc, Mi.mExtend_ap, Mi.kEx_some, Mi.kEx2_ok, Mi.kEx3_some, Mi.dNotIn2, Mi.dIn2, Mi.dIsB_tt, Mi.dIsB_ft, Mi.dNotB_tt, Mi.dNotB_ft, D.frz, frzs, D.plain, plains, Bool.and_self, Bool.and_true, Bool.true_and, Bool.and_false, Bool.false_and, List.length_cons, List.length_nil, List.length_set, Nat.reduceAdd, Nat.zero_add, Nat.reduceLT, Nat.reduceLeDiff, sizeLine_eq, if_true, if_false, Bool.not_true, Bool.not_false, Bool.false_eq_true, decide_true, decide_false, and_self, and_true, true_and, List.cons_append, List.nil_append, Option.map_some, Option.bind_some, Int.reduceToNat, Int.reducePow, Int.reduceNeg, Int.reduceEq, Int.reduceLT, Int.reduceLE, Int.reduceAdd, Int.reduceSub, Int.reduceMul, eq_self, Mi.dat, not_true_eq_false, not_false_eq_true, Bool.or_self, Bool.or_true, Bool.or_false, Bool.false_or, Bool.true_or, false_and, and_false, true_or, or_true, false_or, or_false, hr, p2, d1, true_or]
    · by_cases d2 : 2 * k + (n - 1) * (a - b) = 0
      · simp -implicitDefEqProofs only [Mi.kof_some, Mi.kof_none, Mi.mOp1_ap, Mi.k1_ok, Mi.k1_exc, Mi.mOp2_ap, Mi.k2a_ok, Mi.k2a_exc, Mi.k2b_ok, Mi.k2b_exc, Mi.mOpL_ap, Mi.kL_ok, Mi.kL_exc, Mi.mCons_ap, Mi.kca_ok, Mi.kca_exc, Mi.kcb_ok, Mi.kcb_exc, Mi.mNil_ap, Mi.mC_ap, Mi.mLst_ap, Mi.mTup_ap, Mi.kLst_ok, Mi.kTup_ok, Mi.mVar_ap, Mi.kV_some, Mi.mFrz_ap, Mi.kF_some, Mi.mMove_ap, Mi.kM_some, Mi.at0, Mi.atS, Mi.set0, Mi.setS, Mi.mT_ap, Mi.kT_ok, Mi.kT_exc, Mi.mNotT_ap, Mi.kN_ok, Mi.kN_exc, Mi.mAndT_ap, Mi.kA_ok, Mi.kA_exc, Mi.mOrT_ap, Mi.kO_ok, Mi.kO_exc, Mi.mAndV_ap, Mi.kAV_ok, Mi.mOrV_ap, Mi.kOV_ok, Mi.mIf_ap, Mi.kIf_ok, Mi.mChain_ap, Mi.kCh_ok, Mi.kCh1_ok, Mi.kCh2_ok, Mi.mSeq_ap, Mi.kS_nx, Mi.kS_rt, Mi.kS_exc, Mi.kS_bk, Mi.kS_ct, Mi.mNext_ap, Mi.mDrop_ap, Mi.kD_ok, Mi.kD_exc, Mi.mRet_ap, Mi.kR_ok, Mi.kR_exc, Mi.mRetN_ap, Mi.mIfS_ap, Mi.kI_ok, Mi.kI_exc, Mi.mAsg_ap, Mi.kG_ok, Mi.kG_exc, Mi.kG2_some, Mi.mgName_ap, Mi.mgTup_ap, Mi.mgCons_ap, Mi.kgs_some, Mi.mgNil_ap, Mi.mPar_ap, Mi.kP_ok, Mi.mPar3_ap, Mi.kP3_ok, Mi.ownAt_ap, Mi.kw_own, Mi.mSlotIx_ap, Mi.kX_some, Mi.kX2_ok, Mi.kX3_some, Mi.mCall_ap, Mi.kc_ok, Mi.kf_ok, Mi.kf_exc, Mi.mCallO_ap, Mi.kq_some, Mi.kq2_ok, Mi.kq3_some, Mi.kq4_ok, Mi.mSetIx_ap, Mi.ky_ok, Mi.ky2_some, Mi.ky3_ok, Mi.ky4_some, Mi.mItL_ap, Mi.kIL_ok, Mi.kRs_some, Mi.mItT_ap, Mi.kIT_ok, Mi.mRng1_ap, Mi.kr1_ok, Mi.mRng2_ap, Mi.kr2_ok, Mi.mFor_ap, Mi.kFo_ok, Mi.mLoop_nil, Mi.kl1_some, Mi.kl2_nx, Mi.kl2_ct, Mi.kl2_bk, Mi.kl2_rt, Mi.kl2_exc, Mi.mLc_ap, Mi.kLc_ok, Mi.lc_nil, Mi.kz1_some, Mi.kz2_ok, Mi.kz3_ok, Mi.mYes_ap, Mi.mAug_ap, Mi.kU_some, Mi.kU2_int, Mi.mTry_ap, Mi.kTr_nx, Mi.kTr_rt, Mi.mMeth_ap, Mi.kMe_lst, Mi.kMe_own, Mi.mAppend_ap, Mi.kAp_some, Mi.kAp2_ok, Mi.kAp3_some, Mi.dAdd_int, Mi.dAdd_str, Mi.dAdd_tup, Mi.dAdd_ll, Mi.dAdd_lo, Mi.dAdd_ol, Mi.dAdd_oo, Mi.dSub_int, Mi.dMul_int, Mi.dMod_int, Mi.dFdiv_int, Mi.dPow_int, Mi.dNeg_int, Mi.dDivmod_int, Mi.dGt_int, Mi.dGe_int, Mi.dLe_int, Mi.dLtI_int, Mi.dLt_int, Mi.dEq_int, Mi.dNe_int, Mi.dMax2_int, Mi.dMin2_int, Mi.fn1_ap, Mi.fn2_ap, Mi.dLen_tup, Mi.dLen_lst, Mi.dLen_cst, Mi.dLen_own, Mi.fnM_ap, Mi.kfn_nx, Mi.kfn_rt, Mi.kfn_exc, Mi.fnO_ap, Mi.kfo_nx, Mi.kfo_rt, Mi.env0, Mi.envN, Mi.envS, Mi.wipeN, Mi.wipeS, Mi.lit_own, Mi.lit_lst, Mi.lit_cst, Mi.ix_own, Mi.ix_lst, Mi.ix_cst, Mi.ix_tup, Mi.dix_own, Mi.dix_lst, Mi.dix_cst, Mi.dix_tup, Mi.rng0, Mi.toL, Mi.end_lawL, Mi.btw_int, Mi.btw_bl, Mi.btw_non, Mi.btw_str, Mi.is_non_int, Mi.is_bl_int, Mi.is_int_int, Mi.is_str_int, Mi.is_tup_int, Mi.is_lst_int, Mi.is_cst_int, Mi.is_own_int, Mi.is_non_bool, Mi.is_bl_bool, Mi.is_int_bool, Mi.is_str_bool, Mi.is_tup_bool, Mi.is_lst_bool, Mi.is_cst_bool, Mi.is_own_bool, Mi.is_non_tuple, Mi.is_bl_tuple, Mi.is_int_tuple, Mi.is_str_tuple, Mi.is_tup_tuple, Mi.is_lst_tuple, Mi.is_cst_tuple, Mi.is_own_tuple, Mi.is_non_list, Mi.is_bl_list, Mi.is_int_list, Mi.is_str_list, Mi.is_tup_list, Mi.is_lst_list, Mi.is_cst_list, Mi.is_own_list, Mi.is_non_str, Mi.is_bl_str, Mi.is_int_str, Mi.is_str_str, Mi.is_tup_str, Mi.is_lst_str, Mi.is_cst_str, Mi.is_own_str, Mi.cast_lit, Mi.mPart_ap, Mi.kPt_ok, Mi.mNoPart_ap, Mi.mSl_ap, Mi.kSl1_ok, Mi.kSl2_ok, Mi.kSl3_ok, Mi.dSl_tup, Mi.dSl_lst, Mi.dSl_cst, Mi.mZip_ap, Mi.kZ_tup, Mi.kZ_lst, Mi.mPick_ap, Mi.kPk_ok, Mi.kPk2_some, Mi.at_0, Mi.at_1, Mi.at_2, Mi.at_3, Mi.isT_non, Mi.isT_bl, Mi.isT_int, Mi.isT_str, Mi.isT_tup, Mi.isT_lst, Mi.isT_cst, Mi.isT_own, Mi.dInt_bl, Mi.dIs_f_non, Mi.dIs_t_non, Mi.dIs_f_bl, Mi.dIs_t_bl, Mi.dIs_f_int, Mi.dIs_t_int, Mi.dIs_f_str, Mi.dIs_t_str, Mi.dIs_f_tup, Mi.dIs_t_tup, Mi.dIs_f_lst, Mi.dIs_t_lst, Mi.dIs_f_own, Mi.dIs_t_own, Mi.dIs_f_cst, Mi.dIs_t_cst, Mi.mLR1_ap, Mi.kLR1_ok, Mi.mLR2_ap, Mi.kLR2_ok, Mi.kLR2b_ok, Mi.mCallB_ap, Mi.kcB_some, Mi.kcB1_ok, Mi.kcB2_some, Mi.kcB3_bl, Mi.kcB3_exc, Mi.mExtend_ap, Mi.kEx_some, Mi.kEx2_ok, Mi.kEx3_some, Mi.dNotIn2, Mi.dIn2, Mi.dIsB_tt, Mi.dIsB_ft, Mi.dNotB_tt, Mi.dNotB_ft, D.frz, frzs, D.plain, plains, Bool.and_self, Bool.and_true, Bool.true_and, Bool.and_false, Bool.false_and, List.length_cons, List.length_nil, List.length_set, Nat.reduceAdd, Nat.zero_add, Nat.reduceLT, Nat.reduceLeDiff, sizeLine_eq, if_true, if_false, Bool.not_true, Bool.not_false, Bool.false_eq_true, decide_true, decide_false, and_self, and_true, true_and, List.cons_append, List.nil_append, Option.map_some, Option.bind_some, Int.reduceToNat, Int.reducePow, Int.reduceNeg, Int.reduceEq, Int.reduceLT, Int.reduceLE, Int.reduceAdd, Int.reduceSub, Int.reduceMul, eq_self, Mi.dat, not_true_eq_false, not_false_eq_true, Bool.or_self, Bool.or_true, Bool.or_false, Bool.false_or, Bool.true_or, false_and, and_false, true_or, or_true, false_or, or_false, hr, p2, d1, c1, c2, d2, w1, false_or, ne_eq]
      · simp -implicitDefEqProofs only [Mi.kof_some, Mi.kof_none, Mi.mOp1_ap, Mi.k1_ok, Mi.k1_exc, Mi.mOp2_ap, Mi.k2a_ok, Mi.k2a_exc, Mi.k2b_ok, Mi.k2b_exc, Mi.mOpL_ap, Mi.kL_ok, Mi.kL_exc, Mi.mCons_ap, Mi.kca_ok, Mi.kca_exc, Mi.kcb_ok, Mi.kcb_exc, Mi.mNil_ap, Mi.mC_ap, Mi.mLst_ap, Mi.mTup_ap, Mi.kLst_ok, Mi.kTup_ok, Mi.mVar_ap, Mi.kV_some, Mi.mFrz_ap, Mi.kF_some, Mi.mMove_ap, Mi.kM_some, Mi.at0, Mi.atS, Mi.set0, Mi.setS, Mi.mT_ap, Mi.kT_ok, Mi.kT_exc, Mi.mNotT_ap, Mi.kN_ok, Mi.kN_exc, Mi.mAndT_ap, Mi.kA_ok, Mi.kA_exc, Mi.mOrT_ap, Mi.kO_ok, Mi.kO_exc, Mi.mAndV_ap, Mi.kAV_ok, Mi.mOrV_ap, Mi.kOV_ok, Mi.mIf_ap, Mi.kIf_ok, Mi.mChain_ap, Mi.kCh_ok, Mi.kCh1_ok, Mi.kCh2_ok, Mi.mSeq_ap, Mi.kS_nx, Mi.kS_rt, Mi.kS_exc, Mi.kS_bk, Mi.kS_ct, Mi.mNext_ap, Mi.mDrop_ap, Mi.kD_ok, Mi.kD_exc, Mi.mRet_ap, Mi.kR_ok, Mi.kR_exc, Mi.mRetN_ap, Mi.mIfS_ap, Mi.kI_ok, Mi.kI_exc, Mi.mAsg_ap, Mi.kG_ok, Mi.kG_exc, Mi.kG2_some, Mi.mgName_ap, Mi.mgTup_ap, Mi.mgCons_ap, Mi.kgs_some, Mi.mgNil_ap, Mi.mPar_ap, Mi.kP_ok, Mi.mPar3_ap, Mi.kP3_ok, Mi.ownAt_ap, Mi.kw_own, Mi.mSlotIx_ap, Mi.kX_some, Mi.kX2_ok, Mi.kX3_some, Mi.mCall_ap, Mi.kc_ok, Mi.kf_ok, Mi.kf_exc, Mi.mCallO_ap, Mi.kq_some, Mi.kq2_ok, Mi.kq3_some, Mi.kq4_ok, Mi.mSetIx_ap, Mi.ky_ok, Mi.ky2_some, Mi.ky3_ok, Mi.ky4_some, Mi.mItL_ap, Mi.kIL_ok, Mi.kRs_some, Mi.mItT_ap, Mi.kIT_ok, Mi.mRng1_ap, Mi.kr1_ok, Mi.mRng2_ap, Mi.kr2_ok, Mi.mFor_ap, Mi.kFo_ok, Mi.mLoop_nil, Mi.kl1_some, Mi.kl2_nx, Mi.kl2_ct, Mi.kl2_bk, Mi.kl2_rt, Mi.kl2_exc, Mi.mLc_ap, Mi.kLc_ok, Mi.lc_nil, Mi.kz1_some, Mi.kz2_ok, Mi.kz3_ok, Mi.mYes_ap, Mi.mAug_ap, Mi.kU_some, Mi.kU2_int, Mi.mTry_ap, Mi.kTr_nx, Mi.kTr_rt, Mi.mMeth_ap, Mi.kMe_lst, Mi.kMe_own, Mi.mAppend_ap, Mi.kAp_some, Mi.kAp2_ok, Mi.kAp3_some, Mi.dAdd_int, Mi.dAdd_str, Mi.dAdd_tup, Mi.dAdd_ll, Mi.dAdd_lo, Mi.dAdd_ol, Mi.dAdd_oo, Mi.dSub_int, Mi.dMul_int, Mi.dMod_int, Mi.dFdiv_int, Mi.dPow_int, Mi.dNeg_int, Mi.dDivmod_int, Mi.dGt_int, Mi.dGe_int, Mi.dLe_int, Mi.dLtI_int, Mi.dLt_int, Mi.dEq_int, Mi.dNe_int, Mi.dMax2_int, Mi.dMin2_int, Mi.fn1_ap, Mi.fn2_ap, Mi.dLen_tup, Mi.dLen_lst, Mi.dLen_cst, Mi.dLen_own, Mi.fnM_ap, Mi.kfn_nx, Mi.kfn_rt, Mi.kfn_exc, Mi.fnO_ap, Mi.kfo_nx, Mi.kfo_rt, Mi.env0, Mi.envN, Mi.envS, Mi.wipeN, Mi.wipeS, Mi.lit_own, Mi.lit_lst, Mi.lit_cst, Mi.ix_own, Mi.ix_lst, Mi.ix_cst, Mi.ix_tup, Mi.dix_own, Mi.dix_lst, Mi.dix_cst, Mi.dix_tup, Mi.rng0, Mi.toL, Mi.end_lawL, Mi.btw_int, Mi.btw_bl, Mi.btw_non, Mi.btw_str, Mi.is_non_int, Mi.is_bl_int, Mi.is_int_int, Mi.is_str_int, Mi.is_tup_int, Mi.is_lst_int, Mi.is_cst_int, Mi.is_own_int, Mi.is_non_bool, Mi.is_bl_bool, Mi.is_int_bool, Mi.is_str_bool, Mi.is_tup_bool, Mi.is_lst_bool, Mi.is_cst_bool, Mi.is_own_bool, Mi.is_non_tuple, Mi.is_bl_tuple, Mi.is_int_tuple, Mi.is_str_tuple, Mi.is_tup_tuple, Mi.is_lst_tuple, Mi.is_cst_tuple, Mi.is_own_tuple, Mi.is_non_list, Mi.is_bl_list, Mi.is_int_list, Mi.is_str_list, Mi.is_tup_list, Mi.is_lst_list, Mi.is_cst_list, Mi.is_own_list, Mi.is_non_str, Mi.is_bl_str, Mi.is_int_str, Mi.is_str_str, Mi.is_tup_str, Mi.is_lst_str, Mi.is_cst_str, Mi.is_own_str, Mi.cast_lit, Mi.mPart_ap, Mi.kPt_ok, Mi.mNoPart_ap, Mi.mSl_ap, Mi.kSl1_ok, Mi.kSl2_ok, Mi.kSl3_ok, Mi.dSl_tup, Mi.dSl_lst, Mi.dSl_cst, Mi.mZip_ap, Mi.kZ_tup, Mi.kZ_lst, Mi.mPick_ap, Mi.kPk_ok, Mi.kPk2_some, Mi.at_0, Mi.at_1, Mi.at_2, Mi.at_3, Mi.isT_non, Mi.isT_bl, Mi.isT_int, Mi.isT_str, Mi.isT_tup, Mi.isT_lst, Mi.isT_cst, Mi.isT_own, Mi.dInt_bl, Mi.dIs_f_non, Mi.dIs_t_non, Mi.dIs_f_bl, Mi.dIs_t_bl, Mi.dIs_f_int, Mi.dIs_t_int, Mi.dIs_f_str, Mi.dIs_t_str, Mi.dIs_f_tup, Mi.dIs_t_tup, Mi.dIs_f_lst, Mi.dIs_t_lst, Mi.dIs_f_own, Mi.dIs_t_own, Mi.dIs_f_cst, Mi.dIs_t_cst, Mi.mLR1_ap, Mi.kLR1_ok, Mi.mLR2_ap, Mi.kLR2_ok, Mi.kLR2b_ok, Mi.mCallB_ap, Mi.kcB_some, Mi.kcB1_ok, Mi.kcB2_some, Mi.kcB3_bl, Mi.kcB3_exc, Mi.mExtend_ap, Mi.kEx_some, Mi.kEx2_ok, Mi.kEx3_some, Mi.dNotIn2, Mi.dIn2, Mi.dIsB_tt, Mi.dIsB_ft, Mi.dNotB_tt, Mi.dNotB_ft, D.frz, frzs, D.plain, plains, Bool.and_self, Bool.and_true, Bool.true_and, Bool.and_false, Bool.false_and, List.length_cons, List.length_nil, List.length_set, Nat.reduceAdd, Nat.zero_add, Nat.reduceLT, Nat.reduceLeDiff, sizeLine_eq, if_true, if_false, Bool.not_true, Bool.not_false, Bool.false_eq_true, decide_true, decide_false, and_self, and_true, true_and, List.cons_append, List.nil_append, Option.map_some, Option.bind_some, Int.reduceToNat, Int.reducePow, Int.reduceNeg, Int.reduceEq, Int.reduceLT, Int.reduceLE, Int.reduceAdd, Int.reduceSub, Int.reduceMul, eq_self, Mi.dat, not_true_eq_false, not_false_eq_true, Bool.or_self, Bool.or_true, Bool.or_false, Bool.false_or, Bool.true_or, false_and, and_false, true_or, or_true, false_or, or_false, hr, p2, d1, c1, c2, d2, w1, false_or, ne_eq]
theorem dv_two {A B N s : Int} (hs : 0 < s) (h : A + B = N * s) : (A % s = 0 ↔ B % s = 0) ∧ (B % s = 0 → A / s = N - B / s) := by
  have hA : ∀ c, A = s * c → A % s = 0 ∧ A / s = c := fun c e => by
    subst e; exact ⟨Int.mul_emod_right .., Int.mul_ediv_cancel_left _ (by omega)⟩
  have hB : ∀ c, B = s * c → B % s = 0 ∧ B / s = c := fun c e => by
    subst e; exact ⟨Int.mul_emod_right .., Int.mul_ediv_cancel_left _ (by omega)⟩
  have k1 : B % s = 0 → A % s = 0 ∧ A / s = N - B / s := fun z => by
    have e := Int.emod_add_mul_ediv B s
    rw [z] at e
    exact hA (N - B / s) (by rw [Int.mul_sub, Int.mul_comm s N]; omega)
  have k2 : A % s = 0 → B % s = 0 := fun z => by
    have e := Int.emod_add_mul_ediv A s
    rw [z] at e
    exact (hB (N - A / s) (by rw [Int.mul_sub, Int.mul_comm s N]; omega)).1
  exact ⟨⟨k2, fun z => (k1 z).1⟩, fun z => (k1 z).2⟩
end Lw
namespace Lw
open PySem PySem.Spec PyProof.Rows L2 Mi
def gD (w : Str) (x y : Int) : List D := if y < x then [.tup [.str w, .int x, .int y]] else []
def fewD (n m : Int) : List D := if m * (m + 3) < 2 * n then [.tup [.str "few", .int m, .int n]] else []
def cntD (n k a b : Int) : List D := if k * (k - a - 1) = (n - k - 1) * b then [] else [.tup [.str "count", .int (k * (k - a - 1)), .int ((n - k - 1) * b)]]
def oftL : D → List D
  | .non => [.tup [.str "often"]]
  | _ => []
def fewL (n k b : Int) : D → List D
  | .tup [.int f, .int g] => if b = 0 ∨ b = k then [] else fewD n f ++ fewD n g
  | _ => []
def sL (k x y : Int) : Int := (x + 1) * (k + x + 2 * x * y)
def sR (k x y : Int) : Int := (k + x) * (y + 1) * (y + 1)
def barsL (n k a b s : Int) : List D := cntD n k a b ++ (oftL (oftenD n k a b s) ++ (if s * s = qOf k a b then gD "great" (sL k ((a - b + s) / 2) ((a - b - s) / 2)) (sR k ((a - b + s) / 2) ((a - b - s) / 2)) ++ (gD "less" (sL k ((a - b - s) / 2) ((a - b + s) / 2)) (sR k ((a - b - s) / 2) ((a - b + s) / 2)) ++ fewL n k b (oftenD n k a b s)) else []))
theorem often_cases {n k a b : Int} (G : Good n k a b) (s : Int) : oftenD n k a b s = .non ∨ ∃ f g : Int, oftenD n k a b s = .tup [.int f, .int g] ∧ 0 ≤ f ∧ f ≤ n - 1 ∧ 0 ≤ g ∧ g ≤ n - 1 := by
  obtain ⟨h1, h2, h3, h4, h5, h6, h7, h8⟩ := G
  unfold oftenD
  split
  · split
    · rename_i h
      exact .inr ⟨_, _, rfl, h.2.1, h.2.2, by omega, by omega⟩
    · exact .inl rfl
  · split
    · exact .inl rfl
    · exact .inr ⟨_, _, rfl, by omega, by omega, by omega, by omega⟩
theorem cmS {k x y : Int} (hk : k.natAbs < 2 ^ 20) (hx : x.natAbs < 2 ^ 21) (hy : y.natAbs < 2 ^ 21) :
    CMulX 2 x ∧ CMulX (2 * x) y ∧ CMulX (x + 1) (k + x + 2 * x * y) ∧ CMulX (k + x) (y + 1) ∧ CMulX ((k + x) * (y + 1)) (y + 1) := by
  have a1 : (2 * x).natAbs < 2 ^ 22 := by omega
  have a2 : (2 * x * y).natAbs < 2 ^ 43 := natAbs_mul_lt a1 hy
  have a3 : (k + x).natAbs < 2 ^ 22 := by omega
  have a4 : (y + 1).natAbs < 2 ^ 22 := by omega
  have a5 : (x + 1).natAbs < 2 ^ 22 := by omega
  have a6 : (k + x + 2 * x * y).natAbs < 2 ^ 44 := by omega
  have a7 : ((k + x) * (y + 1)).natAbs < 2 ^ 44 := natAbs_mul_lt a3 a4
  exact ⟨cmulx64 (by decide) (by omega), cmulx64 (by omega) (by omega), cmulx64 (by omega) (by omega), cmulx64 (by omega) (by omega), cmulx64 (by omega) (by omega)⟩
theorem v_sides {n k a b x y : Int} (hk : k.natAbs < 2 ^ 20) (hx : x.natAbs < 2 ^ 21) (hy : y.natAbs < 2 ^ 21) : F_sides_of [.tup [.int n, .int k, .int a, .int b], .int x, .int y] = .ok (.tup [.int (sL k x y), .int (sR k x y)]) := by
  obtain ⟨c1, c2, c3, c4, c5⟩ := cmS hk hx hy
  unfold F_sides_of m_sides_of sL sR
  simp -implicitDefEqProofs only [Mi.kof_some, Mi.kof_none, Mi.mOp1_ap, Mi.k1_ok, Mi.k1_exc, Mi.mOp2_ap, Mi.k2a_ok, Mi.k2a_exc, Mi.k2b_ok, Mi.k2b_exc, Mi.mOpL_ap, Mi.kL_ok, Mi.kL_exc, Mi.mCons_ap, Mi.kca_ok, Mi.kca_exc, Mi.kcb_ok, Mi.kcb_exc, Mi.mNil_ap, Mi.mC_ap, Mi.mLst_ap, Mi.mTup_ap, Mi.kLst_ok, Mi.kTup_ok, Mi.mVar_ap, Mi.kV_some, Mi.mFrz_ap, Mi.kF_some, Mi.mMove_ap, Mi.kM_some, Mi.at0, Mi.atS, Mi.set0, Mi.setS, Mi.mT_ap, Mi.kT_ok, Mi.kT_exc, Mi.mNotT_ap, Mi.kN_ok, Mi.kN_exc, Mi.mAndT_ap, Mi.kA_ok, Mi.kA_exc, Mi.mOrT_ap, Mi.kO_ok, Mi.kO_exc, Mi.mAndV_ap, Mi.kAV_ok, Mi.mOrV_ap, Mi.kOV_ok, Mi.mIf_ap, Mi.kIf_ok, Mi.mChain_ap, Mi.kCh_ok, Mi.kCh1_ok, Mi.kCh2_ok, Mi.mSeq_ap, Mi.kS_nx, Mi.kS_rt, Mi.kS_exc, Mi.kS_bk, Mi.kS_ct, Mi.mNext_ap, Mi.mDrop_ap, Mi.kD_ok, Mi.kD_exc, Mi.mRet_ap, Mi.kR_ok, Mi.kR_exc, Mi.mRetN_ap, Mi.mIfS_ap, Mi.kI_ok, Mi.kI_exc, Mi.mAsg_ap, Mi.kG_ok, Mi.kG_exc, Mi.kG2_some, Mi.mgName_ap, Mi.mgTup_ap, Mi.mgCons_ap, Mi.kgs_some, Mi.mgNil_ap, Mi.mPar_ap, Mi.kP_ok, Mi.mPar3_ap, Mi.kP3_ok, Mi.ownAt_ap, Mi.kw_own, Mi.mSlotIx_ap, Mi.kX_some, Mi.kX2_ok, Mi.kX3_some, Mi.mCall_ap, Mi.kc_ok, Mi.kf_ok, Mi.kf_exc, Mi.mCallO_ap, Mi.kq_some, Mi.kq2_ok, Mi.kq3_some, Mi.kq4_ok, Mi.mSetIx_ap, Mi.ky_ok, Mi.ky2_some, Mi.ky3_ok, Mi.ky4_some, Mi.mItL_ap, Mi.kIL_ok, Mi.kRs_some, Mi.mItT_ap, Mi.kIT_ok, Mi.mRng1_ap, Mi.kr1_ok, Mi.mRng2_ap, Mi.kr2_ok, Mi.mFor_ap, Mi.kFo_ok, Mi.mLoop_nil, Mi.kl1_some, Mi.kl2_nx, Mi.kl2_ct, Mi.kl2_bk, Mi.kl2_rt, Mi.kl2_exc, Mi.mLc_ap, Mi.kLc_ok, Mi.lc_nil, Mi.kz1_some, Mi.kz2_ok, Mi.kz3_ok, Mi.mYes_ap, Mi.mAug_ap, Mi.kU_some, Mi.kU2_int, Mi.mTry_ap, Mi.kTr_nx, Mi.kTr_rt, Mi.mMeth_ap, Mi.kMe_lst, Mi.kMe_own, Mi.mAppend_ap, Mi.kAp_some, Mi.kAp2_ok, Mi.kAp3_some, Mi.dAdd_int, Mi.dAdd_str, Mi.dAdd_tup, Mi.dAdd_ll, Mi.dAdd_lo, Mi.dAdd_ol, Mi.dAdd_oo, Mi.dSub_int, Mi.dMul_int, Mi.dMod_int, Mi.dFdiv_int, Mi.dPow_int, Mi.dNeg_int, Mi.dDivmod_int, Mi.dGt_int, Mi.dGe_int, Mi.dLe_int, Mi.dLtI_int, Mi.dLt_int, Mi.dEq_int, Mi.dNe_int, Mi.dMax2_int, Mi.dMin2_int, Mi.fn1_ap, Mi.fn2_ap, Mi.dLen_tup, Mi.dLen_lst, Mi.dLen_cst, Mi.dLen_own, Mi.fnM_ap, Mi.kfn_nx, Mi.kfn_rt, Mi.kfn_exc, Mi.fnO_ap, Mi.kfo_nx, Mi.kfo_rt, Mi.env0, Mi.envN, Mi.envS, Mi.wipeN, Mi.wipeS, Mi.lit_own, Mi.lit_lst, Mi.lit_cst, Mi.ix_own, Mi.ix_lst, Mi.ix_cst, Mi.ix_tup, Mi.dix_own, Mi.dix_lst, Mi.dix_cst, Mi.dix_tup, Mi.rng0, Mi.toL, Mi.end_lawL, Mi.btw_int, Mi.btw_bl, Mi.btw_non, Mi.btw_str, Mi.is_non_int, Mi.is_bl_int, Mi.is_int_int, Mi.is_str_int, Mi.is_tup_int, Mi.is_lst_int, Mi.is_cst_int, Mi.is_own_int, Mi.is_non_bool, Mi.is_bl_bool, Mi.is_int_bool, Mi.is_str_bool, Mi.is_tup_bool, Mi.is_lst_bool, Mi.is_cst_bool, Mi.is_own_bool, Mi.is_non_tuple, Mi.is_bl_tuple, Mi.is_int_tuple, Mi.is_str_tuple, Mi.is_tup_tuple, Mi.is_lst_tuple, Mi.is_cst_tuple, Mi.is_own_tuple, Mi.is_non_list, Mi.is_bl_list, Mi.is_int_list, Mi.is_str_list, Mi.is_tup_list, Mi.is_lst_list, Mi.is_cst_list, Mi.is_own_list, Mi.is_non_str, Mi.is_bl_str, Mi.is_int_str, Mi.is_str_str, Mi.is_tup_str, Mi.is_lst_str, Mi.is_cst_str, Mi.is_own_str, Mi.cast_lit, Mi.mPart_ap, Mi.kPt_ok, Mi.mNoPart_ap, Mi.mSl_ap, Mi.kSl1_ok, Mi.kSl2_ok, Mi.kSl3_ok, Mi.dSl_tup, Mi.dSl_lst, Mi.dSl_cst, Mi.mZip_ap, Mi.kZ_tup, Mi.kZ_lst, Mi.mPick_ap, Mi.kPk_ok, Mi.kPk2_some, Mi.at_0, Mi.at_1, Mi.at_2, Mi.at_3, Mi.isT_non, Mi.isT_bl, Mi.isT_int, Mi.isT_str, Mi.isT_tup, Mi.isT_lst, Mi.isT_cst, Mi.isT_own, Mi.dInt_bl, Mi.dIs_f_non, Mi.dIs_t_non, Mi.dIs_f_bl, Mi.dIs_t_bl, Mi.dIs_f_int, Mi.dIs_t_int, Mi.dIs_f_str, Mi.dIs_t_str, Mi.dIs_f_tup, Mi.dIs_t_tup, Mi.dIs_f_lst, Mi.dIs_t_lst, Mi.dIs_f_own, Mi.dIs_t_own, Mi.dIs_f_cst, Mi.dIs_t_cst, Mi.mLR1_ap, Mi.kLR1_ok, Mi.mLR2_ap, Mi.kLR2_ok, Mi.kLR2b_ok, Mi.mCallB_ap, Mi.kcB_some, Mi.kcB1_ok, Mi.kcB2_some, Mi.kcB3_bl, Mi.kcB3_exc, Mi.mExtend_ap, Mi.kEx_some, Mi.kEx2_ok, Mi.kEx3_some, Mi.dNotIn2, Mi.dIn2, Mi.dIsB_tt, Mi.dIsB_ft, Mi.dNotB_tt, Mi.dNotB_ft, D.frz, frzs, D.plain, plains, Bool.and_self, Bool.and_true, Bool.true_and, Bool.and_false, Bool.false_and, List.length_cons, List.length_nil, List.length_set, Nat.reduceAdd, Nat.zero_add, Nat.reduceLT, Nat.reduceLeDiff, sizeLine_eq, if_true, if_false, Bool.not_true, Bool.not_false, Bool.false_eq_true, decide_true, decide_false, and_self, and_true, true_and, List.cons_append, List.nil_append, Option.map_some, Option.bind_some, Int.reduceToNat, Int.reducePow, Int.reduceNeg, Int.reduceEq, Int.reduceLT, Int.reduceLE, Int.reduceAdd, Int.reduceSub, Int.reduceMul, eq_self, Mi.dat, not_true_eq_false, not_false_eq_true, Bool.or_self, Bool.or_true, Bool.or_false, Bool.false_or, Bool.true_or, false_and, and_false, true_or, or_true, false_or, or_false, c1, c2, c3, c4, c5]
theorem side_turn {n k a b x y : Int} {w : Str} (hk : k.natAbs < 2 ^ 20) (hx : x.natAbs < 2 ^ 21) (hy : y.natAbs < 2 ^ 21) (acc : List D) (hl : acc.length < 100) (o2 o3 o4 o5 o6 o7 o11 o12 : Option D) :
    ∃ o11', l_bars_of_0 [some (.tup [.int n, .int k, .int a, .int b]), some (.own acc), o2, o3, o4, o5, o6, o7, some (.str w), some (.int x), some (.int y), o11, o12] = .nx [some (.tup [.int n, .int k, .int a, .int b]), some (.own (acc ++ gD w (sL k x y) (sR k x y))), o2, o3, o4, o5, o6, o7, some (.str w), some (.int x), some (.int y), o11', o12] := by
  have v := v_sides (n := n) (a := a) (b := b) hk hx hy
  have z : acc.length < 16777216 := by omega
  refine ⟨some (.tup [.int (sL k x y), .int (sR k x y)]), ?_⟩
  unfold l_bars_of_0 gD
  generalize sL k x y = u at *
  generalize sR k x y = v' at *
  by_cases c : v' < u
  · simp -implicitDefEqProofs only [Mi.kof_some, Mi.kof_none, Mi.mOp1_ap, Mi.k1_ok, Mi.k1_exc, Mi.mOp2_ap, Mi.k2a_ok, Mi.k2a_exc, Mi.k2b_ok, Mi.k2b_exc, Mi.mOpL_ap, Mi.kL_ok, Mi.kL_exc, Mi.mCons_ap, Mi.kca_ok, Mi.kca_exc, Mi.kcb_ok, Mi.kcb_exc, Mi.mNil_ap, Mi.mC_ap, Mi.mLst_ap, Mi.mTup_ap, Mi.kLst_ok, Mi.kTup_ok, Mi.mVar_ap, Mi.kV_some, Mi.mFrz_ap, Mi.kF_some, Mi.mMove_ap, Mi.kM_some, Mi.at0, Mi.atS, Mi.set0, Mi.setS, Mi.mT_ap, Mi.kT_ok, Mi.kT_exc, Mi.mNotT_ap, Mi.kN_ok, Mi.kN_exc, Mi.mAndT_ap, Mi.kA_ok, Mi.kA_exc, Mi.mOrT_ap, Mi.kO_ok, Mi.kO_exc, Mi.mAndV_ap, Mi.kAV_ok, Mi.mOrV_ap, Mi.kOV_ok, Mi.mIf_ap, Mi.kIf_ok, Mi.mChain_ap, Mi.kCh_ok, Mi.kCh1_ok, Mi.kCh2_ok, Mi.mSeq_ap, Mi.kS_nx, Mi.kS_rt, Mi.kS_exc, Mi.kS_bk, Mi.kS_ct, Mi.mNext_ap, Mi.mDrop_ap, Mi.kD_ok, Mi.kD_exc, Mi.mRet_ap, Mi.kR_ok, Mi.kR_exc, Mi.mRetN_ap, Mi.mIfS_ap, Mi.kI_ok, Mi.kI_exc, Mi.mAsg_ap, Mi.kG_ok, Mi.kG_exc, Mi.kG2_some, Mi.mgName_ap, Mi.mgTup_ap, Mi.mgCons_ap, Mi.kgs_some, Mi.mgNil_ap, Mi.mPar_ap, Mi.kP_ok, Mi.mPar3_ap, Mi.kP3_ok, Mi.ownAt_ap, Mi.kw_own, Mi.mSlotIx_ap, Mi.kX_some, Mi.kX2_ok, Mi.kX3_some, Mi.mCall_ap, Mi.kc_ok, Mi.kf_ok, Mi.kf_exc, Mi.mCallO_ap, Mi.kq_some, Mi.kq2_ok, Mi.kq3_some, Mi.kq4_ok, Mi.mSetIx_ap, Mi.ky_ok, Mi.ky2_some, Mi.ky3_ok, Mi.ky4_some, Mi.mItL_ap, Mi.kIL_ok, Mi.kRs_some, Mi.mItT_ap, Mi.kIT_ok, Mi.mRng1_ap, Mi.kr1_ok, Mi.mRng2_ap, Mi.kr2_ok, Mi.mFor_ap, Mi.kFo_ok, Mi.mLoop_nil, Mi.kl1_some, Mi.kl2_nx, Mi.kl2_ct, Mi.kl2_bk, Mi.kl2_rt, Mi.kl2_exc, Mi.mLc_ap, Mi.kLc_ok, Mi.lc_nil, Mi.kz1_some, Mi.kz2_ok, Mi.kz3_ok, Mi.mYes_ap, Mi.mAug_ap, Mi.kU_some, Mi.kU2_int, Mi.mTry_ap, Mi.kTr_nx, Mi.kTr_rt, Mi.mMeth_ap, Mi.kMe_lst, Mi.kMe_own, Mi.mAppend_ap, Mi.kAp_some, Mi.kAp2_ok, Mi.kAp3_some, Mi.dAdd_int, Mi.dAdd_str, Mi.dAdd_tup, Mi.dAdd_ll, Mi.dAdd_lo, Mi.dAdd_ol, Mi.dAdd_oo, Mi.dSub_int, Mi.dMul_int, Mi.dMod_int, Mi.dFdiv_int, Mi.dPow_int, Mi.dNeg_int, Mi.dDivmod_int, Mi.dGt_int, Mi.dGe_int, Mi.dLe_int, Mi.dLtI_int, Mi.dLt_int, Mi.dEq_int, Mi.dNe_int, Mi.dMax2_int, Mi.dMin2_int, Mi.fn1_ap, Mi.fn2_ap, Mi.dLen_tup, Mi.dLen_lst, Mi.dLen_cst, Mi.dLen_own, Mi.fnM_ap, Mi.kfn_nx, Mi.kfn_rt, Mi.kfn_exc, Mi.fnO_ap, Mi.kfo_nx, Mi.kfo_rt, Mi.env0, Mi.envN, Mi.envS, Mi.wipeN, Mi.wipeS, Mi.lit_own, Mi.lit_lst, Mi.lit_cst, Mi.ix_own, Mi.ix_lst, Mi.ix_cst, Mi.ix_tup, Mi.dix_own, Mi.dix_lst, Mi.dix_cst, Mi.dix_tup, Mi.rng0, Mi.toL, Mi.end_lawL, Mi.btw_int, Mi.btw_bl, Mi.btw_non, Mi.btw_str, Mi.is_non_int, Mi.is_bl_int, Mi.is_int_int, Mi.is_str_int, Mi.is_tup_int, Mi.is_lst_int, Mi.is_cst_int, Mi.is_own_int, Mi.is_non_bool, Mi.is_bl_bool, Mi.is_int_bool, Mi.is_str_bool, Mi.is_tup_bool, Mi.is_lst_bool, Mi.is_cst_bool, Mi.is_own_bool, Mi.is_non_tuple, Mi.is_bl_tuple, Mi.is_int_tuple, Mi.is_str_tuple, Mi.is_tup_tuple, Mi.is_lst_tuple, Mi.is_cst_tuple, Mi.is_own_tuple, Mi.is_non_list, Mi.is_bl_list, Mi.is_int_list, Mi.is_str_list, Mi.is_tup_list, Mi.is_lst_list, Mi.is_cst_list, Mi.is_own_list, Mi.is_non_str, Mi.is_bl_str, Mi.is_int_str, Mi.is_str_str, Mi.is_tup_str, Mi.is_lst_str, Mi.is_cst_str, Mi.is_own_str, Mi.cast_lit, Mi.mPart_ap, Mi.kPt_ok, Mi.mNoPart_ap, Mi.mSl_ap, Mi.kSl1_ok, Mi.kSl2_ok, Mi.kSl3_ok, Mi.dSl_tup, Mi.dSl_lst, Mi.dSl_cst, Mi.mZip_ap, Mi.kZ_tup, Mi.kZ_lst, Mi.mPick_ap, Mi.kPk_ok, Mi.kPk2_some, Mi.at_0, Mi.at_1, Mi.at_2, Mi.at_3, Mi.isT_non, Mi.isT_bl, Mi.isT_int, Mi.isT_str, Mi.isT_tup, Mi.isT_lst, Mi.isT_cst, Mi.isT_own, Mi.dInt_bl, Mi.dIs_f_non, Mi.dIs_t_non, Mi.dIs_f_bl, Mi.dIs_t_bl, Mi.dIs_f_int, Mi.dIs_t_int, Mi.dIs_f_str, Mi.dIs_t_str, Mi.dIs_f_tup, Mi.dIs_t_tup, Mi.dIs_f_lst, Mi.dIs_t_lst, Mi.dIs_f_own, Mi.dIs_t_own, Mi.dIs_f_cst, Mi.dIs_t_cst, Mi.mLR1_ap, Mi.kLR1_ok, Mi.mLR2_ap, Mi.kLR2_ok, Mi.kLR2b_ok, Mi.mCallB_ap, Mi.kcB_some, Mi.kcB1_ok, Mi.kcB2_some, Mi.kcB3_bl, Mi.kcB3_exc, Mi.mExtend_ap, Mi.kEx_some, Mi.kEx2_ok, Mi.kEx3_some, Mi.dNotIn2, Mi.dIn2, Mi.dIsB_tt, Mi.dIsB_ft, Mi.dNotB_tt, Mi.dNotB_ft, D.frz, frzs, D.plain, plains, Bool.and_self, Bool.and_true, Bool.true_and, Bool.and_false, Bool.false_and, List.length_cons, List.length_nil, List.length_set, Nat.reduceAdd, Nat.zero_add, Nat.reduceLT, Nat.reduceLeDiff, sizeLine_eq, if_true, if_false, Bool.not_true, Bool.not_false, Bool.false_eq_true, decide_true, decide_false, and_self, and_true, true_and, List.cons_append, List.nil_append, Option.map_some, Option.bind_some, Int.reduceToNat, Int.reducePow, Int.reduceNeg, Int.reduceEq, Int.reduceLT, Int.reduceLE, Int.reduceAdd, Int.reduceSub, Int.reduceMul, eq_self, Mi.dat, not_true_eq_false, not_false_eq_true, Bool.or_self, Bool.or_true, Bool.or_false, Bool.false_or, Bool.true_or, false_and, and_false, true_or, or_true, false_or, or_false, v, c, z]
  · simp -implicitDefEqProofs only [Mi.kof_some, Mi.kof_none, Mi.mOp1_ap, Mi.k1_ok, Mi.k1_exc, Mi.mOp2_ap, Mi.k2a_ok, Mi.k2a_exc, Mi.k2b_ok, Mi.k2b_exc, Mi.mOpL_ap, Mi.kL_ok, Mi.kL_exc, Mi.mCons_ap, Mi.kca_ok, Mi.kca_exc, Mi.kcb_ok, Mi.kcb_exc, Mi.mNil_ap, Mi.mC_ap, Mi.mLst_ap, Mi.mTup_ap, Mi.kLst_ok, Mi.kTup_ok, Mi.mVar_ap, Mi.kV_some, Mi.mFrz_ap, Mi.kF_some, Mi.mMove_ap, Mi.kM_some, Mi.at0, Mi.atS, Mi.set0, Mi.setS, Mi.mT_ap, Mi.kT_ok, Mi.kT_exc, Mi.mNotT_ap, Mi.kN_ok, Mi.kN_exc, Mi.mAndT_ap, Mi.kA_ok, Mi.kA_exc, Mi.mOrT_ap, Mi.kO_ok, Mi.kO_exc, Mi.mAndV_ap, Mi.kAV_ok, Mi.mOrV_ap, Mi.kOV_ok, Mi.mIf_ap, Mi.kIf_ok, Mi.mChain_ap, Mi.kCh_ok, Mi.kCh1_ok, Mi.kCh2_ok, Mi.mSeq_ap, Mi.kS_nx, Mi.kS_rt, Mi.kS_exc, Mi.kS_bk, Mi.kS_ct, Mi.mNext_ap, Mi.mDrop_ap, Mi.kD_ok, Mi.kD_exc, Mi.mRet_ap, Mi.kR_ok, Mi.kR_exc, Mi.mRetN_ap, Mi.mIfS_ap, Mi.kI_ok, Mi.kI_exc, Mi.mAsg_ap, Mi.kG_ok, Mi.kG_exc, Mi.kG2_some, Mi.mgName_ap, Mi.mgTup_ap, Mi.mgCons_ap, Mi.kgs_some, Mi.mgNil_ap, Mi.mPar_ap, Mi.kP_ok, Mi.mPar3_ap, Mi.kP3_ok, Mi.ownAt_ap, Mi.kw_own, Mi.mSlotIx_ap, Mi.kX_some, Mi.kX2_ok, Mi.kX3_some, Mi.mCall_ap, Mi.kc_ok, Mi.kf_ok, Mi.kf_exc, Mi.mCallO_ap, Mi.kq_some, Mi.kq2_ok, Mi.kq3_some, Mi.kq4_ok, Mi.mSetIx_ap, Mi.ky_ok, Mi.ky2_some, Mi.ky3_ok, Mi.ky4_some, Mi.mItL_ap, Mi.kIL_ok, Mi.kRs_some, Mi.mItT_ap, Mi.kIT_ok, Mi.mRng1_ap, Mi.kr1_ok, Mi.mRng2_ap, Mi.kr2_ok, Mi.mFor_ap, Mi.kFo_ok, Mi.mLoop_nil, Mi.kl1_some, Mi.kl2_nx, Mi.kl2_ct, Mi.kl2_bk, Mi.kl2_rt, Mi.kl2_exc, Mi.mLc_ap, Mi.kLc_ok, Mi.lc_nil, Mi.kz1_some, Mi.kz2_ok, Mi.kz3_ok, Mi.mYes_ap, Mi.mAug_ap, Mi.kU_some, Mi.kU2_int, Mi.mTry_ap, Mi.kTr_nx, Mi.kTr_rt, Mi.mMeth_ap, Mi.kMe_lst, Mi.kMe_own, Mi.mAppend_ap, Mi.kAp_some, Mi.kAp2_ok, Mi.kAp3_some, Mi.dAdd_int, Mi.dAdd_str, Mi.dAdd_tup, Mi.dAdd_ll, Mi.dAdd_lo, Mi.dAdd_ol, Mi.dAdd_oo, Mi.dSub_int, Mi.dMul_int, Mi.dMod_int, Mi.dFdiv_int, Mi.dPow_int, Mi.dNeg_int, Mi.dDivmod_int, Mi.dGt_int, Mi.dGe_int, Mi.dLe_int, Mi.dLtI_int, Mi.dLt_int, Mi.dEq_int, Mi.dNe_int, Mi.dMax2_int, Mi.dMin2_int, Mi.fn1_ap, Mi.fn2_ap, Mi.dLen_tup, Mi.dLen_lst, Mi.dLen_cst, Mi.dLen_own, Mi.fnM_ap, Mi.kfn_nx, Mi.kfn_rt, Mi.kfn_exc, Mi.fnO_ap, Mi.kfo_nx, Mi.kfo_rt, Mi.env0, Mi.envN, Mi.envS, Mi.wipeN, Mi.wipeS, Mi.lit_own, Mi.lit_lst, Mi.lit_cst, Mi.ix_own, Mi.ix_lst, Mi.ix_cst, Mi.ix_tup, Mi.dix_own, Mi.dix_lst, Mi.dix_cst, Mi.dix_tup, Mi.rng0, Mi.toL, Mi.end_lawL, Mi.btw_int, Mi.btw_bl, Mi.btw_non, Mi.btw_str, Mi.is_non_int, Mi.is_bl_int, Mi.is_int_int, Mi.is_str_int, Mi.is_tup_int, Mi.is_lst_int, Mi.is_cst_int, Mi.is_own_int, Mi.is_non_bool, Mi.is_bl_bool, Mi.is_int_bool, Mi.is_str_bool, Mi.is_tup_bool, Mi.is_lst_bool, Mi.is_cst_bool, Mi.is_own_bool, Mi.is_non_tuple, Mi.is_bl_tuple, Mi.is_int_tuple, Mi.is_str_tuple, Mi.is_tup_tuple, Mi.is_lst_tuple, Mi.is_cst_tuple, Mi.is_own_tuple, Mi.is_non_list, Mi.is_bl_list, Mi.is_int_list, Mi.is_str_list, Mi.is_tup_list, Mi.is_lst_list, Mi.is_cst_list, Mi.is_own_list, Mi.is_non_str, Mi.is_bl_str, Mi.is_int_str, Mi.is_str_str, Mi.is_tup_str, Mi.is_lst_str, Mi.is_cst_str, Mi.is_own_str, Mi.cast_lit, Mi.mPart_ap, Mi.kPt_ok, Mi.mNoPart_ap, Mi.mSl_ap, Mi.kSl1_ok, Mi.kSl2_ok, Mi.kSl3_ok, Mi.dSl_tup, Mi.dSl_lst, Mi.dSl_cst, Mi.mZip_ap, Mi.kZ_tup, Mi.kZ_lst, Mi.mPick_ap, Mi.kPk_ok, Mi.kPk2_some, Mi.at_0, Mi.at_1, Mi.at_2, Mi.at_3, Mi.isT_non, Mi.isT_bl, Mi.isT_int, Mi.isT_str, Mi.isT_tup, Mi.isT_lst, Mi.isT_cst, Mi.isT_own, Mi.dInt_bl, Mi.dIs_f_non, Mi.dIs_t_non, Mi.dIs_f_bl, Mi.dIs_t_bl, Mi.dIs_f_int, Mi.dIs_t_int, Mi.dIs_f_str, Mi.dIs_t_str, Mi.dIs_f_tup, Mi.dIs_t_tup, Mi.dIs_f_lst, Mi.dIs_t_lst, Mi.dIs_f_own, Mi.dIs_t_own, Mi.dIs_f_cst, Mi.dIs_t_cst, Mi.mLR1_ap, Mi.kLR1_ok, Mi.mLR2_ap, Mi.kLR2_ok, Mi.kLR2b_ok, Mi.mCallB_ap, Mi.kcB_some, Mi.kcB1_ok, Mi.kcB2_some, Mi.kcB3_bl, Mi.kcB3_exc, Mi.mExtend_ap, Mi.kEx_some, Mi.kEx2_ok, Mi.kEx3_some, Mi.dNotIn2, Mi.dIn2, Mi.dIsB_tt, Mi.dIsB_ft, Mi.dNotB_tt, Mi.dNotB_ft, D.frz, frzs, D.plain, plains, Bool.and_self, Bool.and_true, Bool.true_and, Bool.and_false, Bool.false_and, List.length_cons, List.length_nil, List.length_set, Nat.reduceAdd, Nat.zero_add, Nat.reduceLT, Nat.reduceLeDiff, sizeLine_eq, if_true, if_false, Bool.not_true, Bool.not_false, Bool.false_eq_true, decide_true, decide_false, and_self, and_true, true_and, List.cons_append, List.nil_append, Option.map_some, Option.bind_some, Int.reduceToNat, Int.reducePow, Int.reduceNeg, Int.reduceEq, Int.reduceLT, Int.reduceLE, Int.reduceAdd, Int.reduceSub, Int.reduceMul, eq_self, Mi.dat, not_true_eq_false, not_false_eq_true, Bool.or_self, Bool.or_true, Bool.or_false, Bool.false_or, Bool.true_or, false_and, and_false, true_or, or_true, false_or, or_false, v, c, List.append_nil]
theorem side_loop2 {n k a b r t : Int} (hk : k.natAbs < 2 ^ 20) (hx : r.natAbs < 2 ^ 21) (hy : t.natAbs < 2 ^ 21) (acc : List D) (hl : acc.length < 50) (o2 o3 o4 o5 o6 o7 o8 o9 o10 o11 o12 : Option D) :
    ∃ o11', mLoop (mgTup 3 (mgCons (mgName 8) (mgCons (mgName 9) (mgCons (mgName 10) (mgNil))))) l_bars_of_0 [.tup [.str "great", .int r, .int t], .tup [.str "less", .int t, .int r]] [some (.tup [.int n, .int k, .int a, .int b]), some (.own acc), o2, o3, o4, o5, o6, o7, o8, o9, o10, o11, o12] =
      .nx [some (.tup [.int n, .int k, .int a, .int b]), some (.own (acc ++ gD "great" (sL k r t) (sR k r t) ++ gD "less" (sL k t r) (sR k t r))), o2, o3, o4, o5, o6, o7, some (.str "less"), some (.int t), some (.int r), o11', o12] := by
  obtain ⟨p, h1⟩ := side_turn (n := n) (a := a) (b := b) (w := "great") hk hx hy acc (by omega) o2 o3 o4 o5 o6 o7 o11 o12
  have hg : (gD "great" (sL k r t) (sR k r t)).length ≤ 1 := by unfold gD; split <;> simp
  obtain ⟨p2, h2⟩ := side_turn (n := n) (a := a) (b := b) (w := "less") hk hy hx (acc ++ gD "great" (sL k r t) (sR k r t)) (by rw [List.length_append]; omega) o2 o3 o4 o5 o6 o7 p o12
  refine ⟨p2, ?_⟩
  rw [Mi.mLoop_cons]
  have g1 : mgTup 3 (mgCons (mgName 8) (mgCons (mgName 9) (mgCons (mgName 10) (mgNil)))) (.tup [.str "great", .int r, .int t]) [some (.tup [.int n, .int k, .int a, .int b]), some (.own acc), o2, o3, o4, o5, o6, o7, o8, o9, o10, o11, o12] = some [some (.tup [.int n, .int k, .int a, .int b]), some (.own acc), o2, o3, o4, o5, o6, o7, some (.str "great"), some (.int r), some (.int t), o11, o12] := rfl
  rw [g1, Mi.kl1_some, h1, Mi.kl2_nx, Mi.mLoop_cons]
  have g2 : mgTup 3 (mgCons (mgName 8) (mgCons (mgName 9) (mgCons (mgName 10) (mgNil)))) (.tup [.str "less", .int t, .int r]) [some (.tup [.int n, .int k, .int a, .int b]), some (.own (acc ++ gD "great" (sL k r t) (sR k r t))), o2, o3, o4, o5, o6, o7, some (.str "great"), some (.int r), some (.int t), p, o12] = some [some (.tup [.int n, .int k, .int a, .int b]), some (.own (acc ++ gD "great" (sL k r t) (sR k r t))), o2, o3, o4, o5, o6, o7, some (.str "less"), some (.int t), some (.int r), p, o12] := rfl
  rw [g2, Mi.kl1_some, h2, Mi.kl2_nx, Mi.mLoop_nil]
def t_few (i : Nat) (j : Nat) : MT := (mT (mOp2 dGt (mOp2 dMul (mC (.int 2)) (mVar j)) (mOp2 dMul (mVar i) (mOp2 dAdd (mVar i) (mC (.int 3))))))
def e_few (i : Nat) (j : Nat) : ME := (mTup (mCons (mC (.str "few")) (mCons (mVar i) (mCons (mVar j) (mNil)))))
theorem few_comp {n f g : Int} (cn : CMulX 2 n) (cf : CMulX f (f + 3)) (cg : CMulX g (g + 3)) (o0 o1 o2 o3 o5 o6 o7 o8 o9 o10 o11 : Option D) :
    mLcLoop [12] (mgName 12) (t_few 12 4) (e_few 12 4) [.int f, .int g] [] [o0, o1, o2, o3, some (.int n), o5, o6, o7, o8, o9, o10, o11, none] = .ok (.own (fewD n f ++ fewD n g), [o0, o1, o2, o3, some (.int n), o5, o6, o7, o8, o9, o10, o11, none]) := by
  unfold t_few e_few fewD
  by_cases c1 : f * (f + 3) < 2 * n <;> by_cases c2 : g * (g + 3) < 2 * n <;> simp -implicitDefEqProofs only [Mi.kof_some, Mi.kof_none, Mi.mOp1_ap, Mi.k1_ok, Mi.k1_exc, Mi.mOp2_ap, Mi.k2a_ok, Mi.k2a_exc, Mi.k2b_ok, Mi.k2b_exc, Mi.mOpL_ap, Mi.kL_ok, Mi.kL_exc, Mi.mCons_ap, Mi.kca_ok, Mi.kca_exc, Mi.kcb_ok, Mi.kcb_exc, Mi.mNil_ap, Mi.mC_ap, Mi.mLst_ap, Mi.mTup_ap, Mi.kLst_ok, Mi.kTup_ok, Mi.mVar_ap, Mi.kV_some, Mi.mFrz_ap, Mi.kF_some, Mi.mMove_ap, Mi.kM_some, Mi.at0, Mi.atS, Mi.set0, Mi.setS, Mi.mT_ap, Mi.kT_ok, Mi.kT_exc, Mi.mNotT_ap, Mi.kN_ok, Mi.kN_exc, Mi.mAndT_ap, Mi.kA_ok, Mi.kA_exc, Mi.mOrT_ap, Mi.kO_ok, Mi.kO_exc, Mi.mAndV_ap, Mi.kAV_ok, Mi.mOrV_ap, Mi.kOV_ok, Mi.mIf_ap, Mi.kIf_ok, Mi.mChain_ap, Mi.kCh_ok, Mi.kCh1_ok, Mi.kCh2_ok, Mi.mSeq_ap, Mi.kS_nx, Mi.kS_rt, Mi.kS_exc, Mi.kS_bk, Mi.kS_ct, Mi.mNext_ap, Mi.mDrop_ap, Mi.kD_ok, Mi.kD_exc, Mi.mRet_ap, Mi.kR_ok, Mi.kR_exc, Mi.mRetN_ap, Mi.mIfS_ap, Mi.kI_ok, Mi.kI_exc, Mi.mAsg_ap, Mi.kG_ok, Mi.kG_exc, Mi.kG2_some, Mi.mgName_ap, Mi.mgTup_ap, Mi.mgCons_ap, Mi.kgs_some, Mi.mgNil_ap, Mi.mPar_ap, Mi.kP_ok, Mi.mPar3_ap, Mi.kP3_ok, Mi.ownAt_ap, Mi.kw_own, Mi.mSlotIx_ap, Mi.kX_some, Mi.kX2_ok, Mi.kX3_some, Mi.mCall_ap, Mi.kc_ok, Mi.kf_ok, Mi.kf_exc, Mi.mCallO_ap, Mi.kq_some, Mi.kq2_ok, Mi.kq3_some, Mi.kq4_ok, Mi.mSetIx_ap, Mi.ky_ok, Mi.ky2_some, Mi.ky3_ok, Mi.ky4_some, Mi.mItL_ap, Mi.kIL_ok, Mi.kRs_some, Mi.mItT_ap, Mi.kIT_ok, Mi.mRng1_ap, Mi.kr1_ok, Mi.mRng2_ap, Mi.kr2_ok, Mi.mFor_ap, Mi.kFo_ok, Mi.mLoop_nil, Mi.kl1_some, Mi.kl2_nx, Mi.kl2_ct, Mi.kl2_bk, Mi.kl2_rt, Mi.kl2_exc, Mi.mLc_ap, Mi.kLc_ok, Mi.lc_nil, Mi.kz1_some, Mi.kz2_ok, Mi.kz3_ok, Mi.mYes_ap, Mi.mAug_ap, Mi.kU_some, Mi.kU2_int, Mi.mTry_ap, Mi.kTr_nx, Mi.kTr_rt, Mi.mMeth_ap, Mi.kMe_lst, Mi.kMe_own, Mi.mAppend_ap, Mi.kAp_some, Mi.kAp2_ok, Mi.kAp3_some, Mi.dAdd_int, Mi.dAdd_str, Mi.dAdd_tup, Mi.dAdd_ll, Mi.dAdd_lo, Mi.dAdd_ol, Mi.dAdd_oo, Mi.dSub_int, Mi.dMul_int, Mi.dMod_int, Mi.dFdiv_int, Mi.dPow_int, Mi.dNeg_int, Mi.dDivmod_int, Mi.dGt_int, Mi.dGe_int, Mi.dLe_int, Mi.dLtI_int, Mi.dLt_int, Mi.dEq_int, Mi.dNe_int, Mi.dMax2_int, Mi.dMin2_int, Mi.fn1_ap, Mi.fn2_ap, Mi.dLen_tup, Mi.dLen_lst, Mi.dLen_cst, Mi.dLen_own, Mi.fnM_ap, Mi.kfn_nx, Mi.kfn_rt, Mi.kfn_exc, Mi.fnO_ap, Mi.kfo_nx, Mi.kfo_rt, Mi.env0, Mi.envN, Mi.envS, Mi.wipeN, Mi.wipeS, Mi.lit_own, Mi.lit_lst, Mi.lit_cst, Mi.ix_own, Mi.ix_lst, Mi.ix_cst, Mi.ix_tup, Mi.dix_own, Mi.dix_lst, Mi.dix_cst, Mi.dix_tup, Mi.rng0, Mi.toL, Mi.end_lawL, Mi.btw_int, Mi.btw_bl, Mi.btw_non, Mi.btw_str, Mi.is_non_int, Mi.is_bl_int, Mi.is_int_int, Mi.is_str_int, Mi.is_tup_int, Mi.is_lst_int, Mi.is_cst_int, Mi.is_own_int, Mi.is_non_bool, Mi.is_bl_bool, Mi.is_int_bool, Mi.is_str_bool, Mi.is_tup_bool, Mi.is_lst_bool, Mi.is_cst_bool, Mi.is_own_bool, Mi.is_non_tuple, Mi.is_bl_tuple, Mi.is_int_tuple, Mi.is_str_tuple, Mi.is_tup_tuple, Mi.is_lst_tuple, Mi.is_cst_tuple, Mi.is_own_tuple, Mi.is_non_list, Mi.is_bl_list, Mi.is_int_list, Mi.is_str_list, Mi.is_tup_list, Mi.is_lst_list, Mi.is_cst_list, Mi.is_own_list, Mi.is_non_str, Mi.is_bl_str, Mi.is_int_str, Mi.is_str_str, Mi.is_tup_str, Mi.is_lst_str, Mi.is_cst_str, Mi.is_own_str, Mi.cast_lit, Mi.mPart_ap, Mi.kPt_ok, Mi.mNoPart_ap, Mi.mSl_ap, Mi.kSl1_ok, Mi.kSl2_ok, Mi.kSl3_ok, Mi.dSl_tup, Mi.dSl_lst, Mi.dSl_cst, Mi.mZip_ap, Mi.kZ_tup, Mi.kZ_lst, Mi.mPick_ap, Mi.kPk_ok, Mi.kPk2_some, Mi.at_0, Mi.at_1, Mi.at_2, Mi.at_3, Mi.isT_non, Mi.isT_bl, Mi.isT_int, Mi.isT_str, Mi.isT_tup, Mi.isT_lst, Mi.isT_cst, Mi.isT_own, Mi.dInt_bl, Mi.dIs_f_non, Mi.dIs_t_non, Mi.dIs_f_bl, Mi.dIs_t_bl, Mi.dIs_f_int, Mi.dIs_t_int, Mi.dIs_f_str, Mi.dIs_t_str, Mi.dIs_f_tup, Mi.dIs_t_tup, Mi.dIs_f_lst, Mi.dIs_t_lst, Mi.dIs_f_own, Mi.dIs_t_own, Mi.dIs_f_cst, Mi.dIs_t_cst, Mi.mLR1_ap, Mi.kLR1_ok, Mi.mLR2_ap, Mi.kLR2_ok, Mi.kLR2b_ok, Mi.mCallB_ap, Mi.kcB_some, Mi.kcB1_ok, Mi.kcB2_some, Mi.kcB3_bl, Mi.kcB3_exc, Mi.mExtend_ap, Mi.kEx_some, Mi.kEx2_ok, Mi.kEx3_some, Mi.dNotIn2, Mi.dIn2, Mi.dIsB_tt, Mi.dIsB_ft, Mi.dNotB_tt, Mi.dNotB_ft, D.frz, frzs, D.plain, plains, Bool.and_self, Bool.and_true, Bool.true_and, Bool.and_false, Bool.false_and, List.length_cons, List.length_nil, List.length_set, Nat.reduceAdd, Nat.zero_add, Nat.reduceLT, Nat.reduceLeDiff, sizeLine_eq, if_true, if_false, Bool.not_true, Bool.not_false, Bool.false_eq_true, decide_true, decide_false, and_self, and_true, true_and, List.cons_append, List.nil_append, Option.map_some, Option.bind_some, Int.reduceToNat, Int.reducePow, Int.reduceNeg, Int.reduceEq, Int.reduceLT, Int.reduceLE, Int.reduceAdd, Int.reduceSub, Int.reduceMul, eq_self, Mi.dat, not_true_eq_false, not_false_eq_true, Bool.or_self, Bool.or_true, Bool.or_false, Bool.false_or, Bool.true_or, false_and, and_false, true_or, or_true, false_or, or_false, Mi.lc_cons, cn, cf, cg, c1, c2, List.append_nil]
theorem v_bars {n k a b s : Int} (G : Good n k a b) (R : Root (qOf k a b) s) (hr : F_roots_in [.tup [.int n, .int k, .int a, .int b]] = .ok (rootsD k a b s)) : F_bars_of [.tup [.int n, .int k, .int a, .int b]] = .ok (.own (barsL n k a b s)) := by
  have ho := v_often G R hr
  have oc := often_cases G s
  have rt := fun e => rts G R e
  obtain ⟨h1, h2, h3, h4, h5, h6, h7, h8⟩ := G
  have c1 : CMulX k (k - a - 1) := cmulx64 (by omega) (by omega)
  have c2 : CMulX (n - k - 1) b := cmulx64 (by omega) (by omega)
  have c3 : CMulX 2 n := cmulx64 (by decide) (by omega)
  have fewc : ∀ f : Int, 0 ≤ f → f ≤ n - 1 → CMulX f (f + 3) := fun f f0 f1 => cmulx64 (by omega) (by omega)
  have kk : k.natAbs < 2 ^ 20 := by omega
  unfold rootsD at hr
  unfold F_bars_of m_bars_of barsL cntD
  generalize oftenD n k a b s = od at *
  by_cases e : s * s = qOf k a b
  · have rt := rt e
    rw [if_pos e] at hr ⊢
    generalize (a - b + s) / 2 = r at *
    generalize (a - b - s) / 2 = t at *
    obtain ⟨s1, s2, df, smm, pr, r0, r1, t0, t1⟩ := rt
    have hl := fun acc hl o2 o8 o9 o10 o11 o12 => side_loop2 (n := n) (a := a) (b := b) (r := r) (t := t) kk (by omega) (by omega) acc hl o2 (some (.tup [.int r, .int t])) (some (.int n)) (some (.int k)) (some (.int a)) (some (.int b)) o8 o9 o10 o11 o12
    unfold l_bars_of_0 at hl
    have hg1 : (gD "great" (sL k r t) (sR k r t)).length ≤ 1 := by unfold gD; split <;> simp
    have hg2 : (gD "less" (sL k t r) (sR k t r)).length ≤ 1 := by unfold gD; split <;> simp
    generalize gD "great" (sL k r t) (sR k r t) = g1 at *
    generalize gD "less" (sL k t r) (sR k t r) = g2 at *
    rcases oc with rfl | ⟨f, g, rfl, f0, f1, g0, g1'⟩
    · by_cases cc : k * (k - a - 1) = (n - k - 1) * b
      · obtain ⟨p, hl⟩ := hl [.tup [.str "often"]] (by decide) (some .non) none none none none none
        simp -implicitDefEqProofs only [Mi.kof_some, Mi.kof_none, Mi.mOp1_ap, Mi.k1_ok, Mi.k1_exc, Mi.mOp2_ap, Mi.k2a_ok, Mi.k2a_exc, Mi.k2b_ok, Mi.k2b_exc, Mi.mOpL_ap, Mi.kL_ok, Mi.kL_exc, Mi.mCons_ap, Mi.kca_ok, Mi.kca_exc, Mi.kcb_ok, Mi.kcb_exc, Mi.mNil_ap, Mi.mC_ap, Mi.mLst_ap, Mi.mTup_ap, Mi.kLst_ok, Mi.kTup_ok, Mi.mVar_ap, Mi.kV_some, Mi.mFrz_ap, Mi.kF_some, Mi.mMove_ap, Mi.kM_some, Mi.at0, Mi.atS, Mi.set0, Mi.setS, Mi.mT_ap, Mi.kT_ok, Mi.kT_exc, Mi.mNotT_ap, Mi.kN_ok, Mi.kN_exc, Mi.mAndT_ap, Mi.kA_ok, Mi.kA_exc, Mi.mOrT_ap, Mi.kO_ok, Mi.kO_exc, Mi.mAndV_ap, Mi.kAV_ok, Mi.mOrV_ap, Mi.kOV_ok, Mi.mIf_ap, Mi.kIf_ok, Mi.mChain_ap, Mi.kCh_ok, Mi.kCh1_ok, Mi.kCh2_ok, Mi.mSeq_ap, Mi.kS_nx, Mi.kS_rt, Mi.kS_exc, Mi.kS_bk, Mi.kS_ct, Mi.mNext_ap, Mi.mDrop_ap, Mi.kD_ok, Mi.kD_exc, Mi.mRet_ap, Mi.kR_ok, Mi.kR_exc, Mi.mRetN_ap, Mi.mIfS_ap, Mi.kI_ok, Mi.kI_exc, Mi.mAsg_ap, Mi.kG_ok, Mi.kG_exc, Mi.kG2_some, Mi.mgName_ap, Mi.mgTup_ap, Mi.mgCons_ap, Mi.kgs_some, Mi.mgNil_ap, Mi.mPar_ap, Mi.kP_ok, Mi.mPar3_ap, Mi.kP3_ok, Mi.ownAt_ap, Mi.kw_own, Mi.mSlotIx_ap, Mi.kX_some, Mi.kX2_ok, Mi.kX3_some, Mi.mCall_ap, Mi.kc_ok, Mi.kf_ok, Mi.kf_exc, Mi.mCallO_ap, Mi.kq_some, Mi.kq2_ok, Mi.kq3_some, Mi.kq4_ok, Mi.mSetIx_ap, Mi.ky_ok, Mi.ky2_some, Mi.ky3_ok, Mi.ky4_some, Mi.mItL_ap, Mi.kIL_ok, Mi.kRs_some, Mi.mItT_ap, Mi.kIT_ok, Mi.mRng1_ap, Mi.kr1_ok, Mi.mRng2_ap, Mi.kr2_ok, Mi.mFor_ap, Mi.kFo_ok, Mi.mLoop_nil, Mi.kl1_some, Mi.kl2_nx, Mi.kl2_ct, Mi.kl2_bk, Mi.kl2_rt, Mi.kl2_exc, Mi.mLc_ap, Mi.kLc_ok, Mi.lc_nil, Mi.kz1_some, Mi.kz2_ok, Mi.kz3_ok, Mi.mYes_ap, Mi.mAug_ap, Mi.kU_some, Mi.kU2_int, Mi.mTry_ap, Mi.kTr_nx, Mi.kTr_rt, Mi.mMeth_ap, Mi.kMe_lst, Mi.kMe_own, Mi.mAppend_ap, Mi.kAp_some, Mi.kAp2_ok, Mi.kAp3_some, Mi.dAdd_int, Mi.dAdd_str, Mi.dAdd_tup, Mi.dAdd_ll, Mi.dAdd_lo, Mi.dAdd_ol, Mi.dAdd_oo, Mi.dSub_int, Mi.dMul_int, Mi.dMod_int, Mi.dFdiv_int, Mi.dPow_int, Mi.dNeg_int, Mi.dDivmod_int, Mi.dGt_int, Mi.dGe_int, Mi.dLe_int, Mi.dLtI_int, Mi.dLt_int, Mi.dEq_int, Mi.dNe_int, Mi.dMax2_int, Mi.dMin2_int, Mi.fn1_ap, Mi.fn2_ap, Mi.dLen_tup, Mi.dLen_lst, Mi.dLen_cst, Mi.dLen_own, Mi.fnM_ap, Mi.kfn_nx, Mi.kfn_rt, Mi.kfn_exc, Mi.fnO_ap, Mi.kfo_nx, Mi.kfo_rt, Mi.env0, Mi.envN, Mi.envS, Mi.wipeN, Mi.wipeS, Mi.lit_own, Mi.lit_lst, Mi.lit_cst, Mi.ix_own, Mi.ix_lst, Mi.ix_cst, Mi.ix_tup, Mi.dix_own, Mi.dix_lst, Mi.dix_cst, Mi.dix_tup, Mi.rng0, Mi.toL, Mi.end_lawL, Mi.btw_int, Mi.btw_bl, Mi.btw_non, Mi.btw_str, Mi.is_non_int, Mi.is_bl_int, Mi.is_int_int, Mi.is_str_int, Mi.is_tup_int, Mi.is_lst_int, Mi.is_cst_int, Mi.is_own_int, Mi.is_non_bool, Mi.is_bl_bool, Mi.is_int_bool, Mi.is_str_bool, Mi.is_tup_bool, Mi.is_lst_bool, Mi.is_cst_bool, Mi.is_own_bool, Mi.is_non_tuple, Mi.is_bl_tuple, Mi.is_int_tuple, Mi.is_str_tuple, Mi.is_tup_tuple, Mi.is_lst_tuple, Mi.is_cst_tuple, Mi.is_own_tuple, Mi.is_non_list, Mi.is_bl_list, Mi.is_int_list, Mi.is_str_list, Mi.is_tup_list, Mi.is_lst_list, Mi.is_cst_list, Mi.is_own_list, Mi.is_non_str, Mi.is_bl_str, Mi.is_int_str, Mi.is_str_str, Mi.is_tup_str, Mi.is_lst_str, Mi.is_cst_str, Mi.is_own_str, Mi.cast_lit, Mi.mPart_ap, Mi.kPt_ok, Mi.mNoPart_ap, Mi.mSl_ap, Mi.kSl1_ok, Mi.kSl2_ok, Mi.kSl3_ok, Mi.dSl_tup, Mi.dSl_lst, Mi.dSl_cst, Mi.mZip_ap, Mi.kZ_tup, Mi.kZ_lst, Mi.mPick_ap, Mi.kPk_ok, Mi.kPk2_some, Mi.at_0, Mi.at_1, Mi.at_2, Mi.at_3, Mi.isT_non, Mi.isT_bl, Mi.isT_int, Mi.isT_str, Mi.isT_tup, Mi.isT_lst, Mi.isT_cst, Mi.isT_own, Mi.dInt_bl, Mi.dIs_f_non, Mi.dIs_t_non, Mi.dIs_f_bl, Mi.dIs_t_bl, Mi.dIs_f_int, Mi.dIs_t_int, Mi.dIs_f_str, Mi.dIs_t_str, Mi.dIs_f_tup, Mi.dIs_t_tup, Mi.dIs_f_lst, Mi.dIs_t_lst, Mi.dIs_f_own, Mi.dIs_t_own, Mi.dIs_f_cst, Mi.dIs_t_cst, Mi.mLR1_ap, Mi.kLR1_ok, Mi.mLR2_ap, Mi.kLR2_ok, Mi.kLR2b_ok, Mi.mCallB_ap, Mi.kcB_some, Mi.kcB1_ok, Mi.kcB2_some, Mi.kcB3_bl, Mi.kcB3_exc, Mi.mExtend_ap, Mi.kEx_some, Mi.kEx2_ok, Mi.kEx3_some, Mi.dNotIn2, Mi.dIn2, Mi.dIsB_tt, Mi.dIsB_ft, Mi.dNotB_tt, Mi.dNotB_ft, D.frz, frzs, D.plain, plains, Bool.and_self, Bool.and_true, Bool.true_and, Bool.and_false, Bool.false_and, List.length_cons, List.length_nil, List.length_set, Nat.reduceAdd, Nat.zero_add, Nat.reduceLT, Nat.reduceLeDiff, sizeLine_eq, if_true, if_false, Bool.not_true, Bool.not_false, Bool.false_eq_true, decide_true, decide_false, and_self, and_true, true_and, List.cons_append, List.nil_append, Option.map_some, Option.bind_some, Int.reduceToNat, Int.reducePow, Int.reduceNeg, Int.reduceEq, Int.reduceLT, Int.reduceLE, Int.reduceAdd, Int.reduceSub, Int.reduceMul, eq_self, Mi.dat, not_true_eq_false, not_false_eq_true, Bool.or_self, Bool.or_true, Bool.or_false, Bool.false_or, Bool.true_or, false_and, and_false, true_or, or_true, false_or, or_false, ho, hr, c1, c2, cc, hl, oftL, fewL, List.append_nil]
      · obtain ⟨p, hl⟩ := hl [.tup [.str "count", .int (k * (k - a - 1)), .int ((n - k - 1) * b)], .tup [.str "often"]] (by show 2 < 50; decide) (some .non) none none none none none
        simp -implicitDefEqProofs only [Mi.kof_some, Mi.kof_none, Mi.mOp1_ap, Mi.k1_ok, Mi.k1_exc, Mi.mOp2_ap, Mi.k2a_ok, Mi.k2a_exc, Mi.k2b_ok, Mi.k2b_exc, Mi.mOpL_ap, Mi.kL_ok, Mi.kL_exc, Mi.mCons_ap, Mi.kca_ok, Mi.kca_exc, Mi.kcb_ok, Mi.kcb_exc, Mi.mNil_ap, Mi.mC_ap, Mi.mLst_ap, Mi.mTup_ap, Mi.kLst_ok, Mi.kTup_ok, Mi.mVar_ap, Mi.kV_some, Mi.mFrz_ap, Mi.kF_some, Mi.mMove_ap, Mi.kM_some, Mi.at0, Mi.atS, Mi.set0, Mi.setS, Mi.mT_ap, Mi.kT_ok, Mi.kT_exc, Mi.mNotT_ap, Mi.kN_ok, Mi.kN_exc, Mi.mAndT_ap, Mi.kA_ok, Mi.kA_exc, Mi.mOrT_ap, Mi.kO_ok, Mi.kO_exc, Mi.mAndV_ap, Mi.kAV_ok, Mi.mOrV_ap, Mi.kOV_ok, Mi.mIf_ap, Mi.kIf_ok, Mi.mChain_ap, Mi.kCh_ok, Mi.kCh1_ok, Mi.kCh2_ok, Mi.mSeq_ap, Mi.kS_nx, Mi.kS_rt, Mi.kS_exc, Mi.kS_bk, Mi.kS_ct, Mi.mNext_ap, Mi.mDrop_ap, Mi.kD_ok, Mi.kD_exc, Mi.mRet_ap, Mi.kR_ok, Mi.kR_exc, Mi.mRetN_ap, Mi.mIfS_ap, Mi.kI_ok, Mi.kI_exc, Mi.mAsg_ap, Mi.kG_ok, Mi.kG_exc, Mi.kG2_some, Mi.mgName_ap, Mi.mgTup_ap, Mi.mgCons_ap, Mi.kgs_some, Mi.mgNil_ap, Mi.mPar_ap, Mi.kP_ok, Mi.mPar3_ap, Mi.kP3_ok, Mi.ownAt_ap, Mi.kw_own, Mi.mSlotIx_ap, Mi.kX_some, Mi.kX2_ok, Mi.kX3_some, Mi.mCall_ap, Mi.kc_ok, Mi.kf_ok, Mi.kf_exc, Mi.mCallO_ap, Mi.kq_some, Mi.kq2_ok, Mi.kq3_some, Mi.kq4_ok, Mi.mSetIx_ap, Mi.ky_ok, Mi.ky2_some, Mi.ky3_ok, Mi.ky4_some, Mi.mItL_ap, Mi.kIL_ok, Mi.kRs_some, Mi.mItT_ap, Mi.kIT_ok, Mi.mRng1_ap, Mi.kr1_ok, Mi.mRng2_ap, Mi.kr2_ok, Mi.mFor_ap, Mi.kFo_ok, Mi.mLoop_nil, Mi.kl1_some, Mi.kl2_nx, Mi.kl2_ct, Mi.kl2_bk, Mi.kl2_rt, Mi.kl2_exc, Mi.mLc_ap, Mi.kLc_ok, Mi.lc_nil, Mi.kz1_some, Mi.kz2_ok, Mi.kz3_ok, Mi.mYes_ap, Mi.mAug_ap, Mi.kU_some, Mi.kU2_int, Mi.mTry_ap, Mi.kTr_nx, Mi.kTr_rt, Mi.mMeth_ap, Mi.kMe_lst, Mi.kMe_own, Mi.mAppend_ap, Mi.kAp_some, Mi.kAp2_ok, Mi.kAp3_some, Mi.dAdd_int, Mi.dAdd_str, Mi.dAdd_tup, Mi.dAdd_ll, Mi.dAdd_lo, Mi.dAdd_ol, Mi.dAdd_oo, Mi.dSub_int, Mi.dMul_int, Mi.dMod_int, Mi.dFdiv_int, Mi.dPow_int, Mi.dNeg_int, Mi.dDivmod_int, Mi.dGt_int, Mi.dGe_int, Mi.dLe_int, Mi.dLtI_int, Mi.dLt_int, Mi.dEq_int, Mi.dNe_int, Mi.dMax2_int, Mi.dMin2_int, Mi.fn1_ap, Mi.fn2_ap, Mi.dLen_tup, Mi.dLen_lst, Mi.dLen_cst, Mi.dLen_own, Mi.fnM_ap, Mi.kfn_nx, Mi.kfn_rt, Mi.kfn_exc, Mi.fnO_ap, Mi.kfo_nx, Mi.kfo_rt, Mi.env0, Mi.envN, Mi.envS, Mi.wipeN, Mi.wipeS, Mi.lit_own, Mi.lit_lst, Mi.lit_cst, Mi.ix_own, Mi.ix_lst, Mi.ix_cst, Mi.ix_tup, Mi.dix_own, Mi.dix_lst, Mi.dix_cst, Mi.dix_tup, Mi.rng0, Mi.toL, Mi.end_lawL, Mi.btw_int, Mi.btw_bl, Mi.btw_non, Mi.btw_str, Mi.is_non_int, Mi.is_bl_int, Mi.is_int_int, Mi.is_str_int, Mi.is_tup_int, Mi.is_lst_int, Mi.is_cst_int, Mi.is_own_int, Mi.is_non_bool, Mi.is_bl_bool, Mi.is_int_bool, Mi.is_str_bool, Mi.is_tup_bool, Mi.is_lst_bool, Mi.is_cst_bool, Mi.is_own_bool, Mi.is_non_tuple, Mi.is_bl_tuple, Mi.is_int_tuple, Mi.is_str_tuple, Mi.is_tup_tuple, Mi.is_lst_tuple, Mi.is_cst_tuple, Mi.is_own_tuple, Mi.is_non_list, Mi.is_bl_list, Mi.is_int_list, Mi.is_str_list, Mi.is_tup_list, Mi.is_lst_list, Mi.is_cst_list, Mi.is_own_list, Mi.is_non_str, Mi.is_bl_str, Mi.is_int_str, Mi.is_str_str, Mi.is_tup_str, Mi.is_lst_str, Mi.is_cst_str, Mi.is_own_str, Mi.cast_lit, Mi.mPart_ap, Mi.kPt_ok, Mi.mNoPart_ap, Mi.mSl_ap, Mi.kSl1_ok, Mi.kSl2_ok, Mi.kSl3_ok, Mi.dSl_tup, Mi.dSl_lst, Mi.dSl_cst, Mi.mZip_ap, Mi.kZ_tup, Mi.kZ_lst, Mi.mPick_ap, Mi.kPk_ok, Mi.kPk2_some, Mi.at_0, Mi.at_1, Mi.at_2, Mi.at_3, Mi.isT_non, Mi.isT_bl, Mi.isT_int, Mi.isT_str, Mi.isT_tup, Mi.isT_lst, Mi.isT_cst, Mi.isT_own, Mi.dInt_bl, Mi.dIs_f_non, Mi.dIs_t_non, Mi.dIs_f_bl, Mi.dIs_t_bl, Mi.dIs_f_int, Mi.dIs_t_int, Mi.dIs_f_str, Mi.dIs_t_str, Mi.dIs_f_tup, Mi.dIs_t_tup, Mi.dIs_f_lst, Mi.dIs_t_lst, Mi.dIs_f_own, Mi.dIs_t_own, Mi.dIs_f_cst, Mi.dIs_t_cst, Mi.mLR1_ap, Mi.kLR1_ok, Mi.mLR2_ap, Mi.kLR2_ok, Mi.kLR2b_ok, Mi.mCallB_ap, Mi.kcB_some, Mi.kcB1_ok, Mi.kcB2_some, Mi.kcB3_bl, Mi.kcB3_exc, Mi.mExtend_ap, Mi.kEx_some, Mi.kEx2_ok, Mi.kEx3_some, Mi.dNotIn2, Mi.dIn2, Mi.dIsB_tt, Mi.dIsB_ft, Mi.dNotB_tt, Mi.dNotB_ft, D.frz, frzs, D.plain, plains, Bool.and_self, Bool.and_true, Bool.true_and, Bool.and_false, Bool.false_and, List.length_cons, List.length_nil, List.length_set, Nat.reduceAdd, Nat.zero_add, Nat.reduceLT, Nat.reduceLeDiff, sizeLine_eq, if_true, if_false, Bool.not_true, Bool.not_false, Bool.false_eq_true, decide_true, decide_false, and_self, and_true, true_and, List.cons_append, List.nil_append, Option.map_some, Option.bind_some, Int.reduceToNat, Int.reducePow, Int.reduceNeg, Int.reduceEq, Int.reduceLT, Int.reduceLE, Int.reduceAdd, Int.reduceSub, Int.reduceMul, eq_self, Mi.dat, not_true_eq_false, not_false_eq_true, Bool.or_self, Bool.or_true, Bool.or_false, Bool.false_or, Bool.true_or, false_and, and_false, true_or, or_true, false_or, or_false, ho, hr, c1, c2, cc, hl, oftL, fewL, List.append_nil]
    · have fc := fun o0 o1 o2 o3 o5 o6 o7 o8 o9 o10 o11 => few_comp (n := n) (f := f) (g := g) c3 (fewc f f0 f1) (fewc g g0 g1') o0 o1 o2 o3 o5 o6 o7 o8 o9 o10 o11
      unfold t_few e_few at fc
      have hf1 : (fewD n f).length ≤ 1 := by unfold fewD; split <;> simp
      have hf2 : (fewD n g).length ≤ 1 := by unfold fewD; split <;> simp
      have fin : ∀ acc : List D, acc.length < 20 → (acc ++ g1 ++ g2).length + (fewD n f ++ fewD n g).length ≤ 16777216 := fun acc h => by simp only [List.length_append]; omega
      by_cases cc : k * (k - a - 1) = (n - k - 1) * b
      · have z0 := fin [] (by decide)
        obtain ⟨p, hl⟩ := hl [] (by decide) (some (.tup [.int f, .int g])) none none none none none
        rw [List.nil_append] at hl z0
        by_cases b0 : b = 0
        · subst b0
          simp -implicitDefEqProofs only [Mi.kof_some, Mi.kof_none, Mi.mOp1_ap, Mi.k1_ok, Mi.k1_exc, Mi.mOp2_ap, Mi.k2a_ok, Mi.k2a_exc, Mi.k2b_ok, Mi.k2b_exc, Mi.mOpL_ap, Mi.kL_ok, Mi.kL_exc, Mi.mCons_ap, Mi.kca_ok, Mi.kca_exc, Mi.kcb_ok, Mi.kcb_exc, Mi.mNil_ap, Mi.mC_ap, Mi.mLst_ap, Mi.mTup_ap, Mi.kLst_ok, Mi.kTup_ok, Mi.mVar_ap, Mi.kV_some, Mi.mFrz_ap, Mi.kF_some, Mi.mMove_ap, Mi.kM_some, Mi.at0, Mi.atS, Mi.set0, Mi.setS, Mi.mT_ap, Mi.kT_ok, Mi.kT_exc, Mi.mNotT_ap, Mi.kN_ok, Mi.kN_exc, Mi.mAndT_ap, Mi.kA_ok, Mi.kA_exc, Mi.mOrT_ap, Mi.kO_ok, Mi.kO_exc, Mi.mAndV_ap, Mi.kAV_ok, Mi.mOrV_ap, Mi.kOV_ok, Mi.mIf_ap, Mi.kIf_ok, Mi.mChain_ap, Mi.kCh_ok, Mi.kCh1_ok, Mi.kCh2_ok, Mi.mSeq_ap, Mi.kS_nx, Mi.kS_rt, Mi.kS_exc, Mi.kS_bk, Mi.kS_ct, Mi.mNext_ap, Mi.mDrop_ap, Mi.kD_ok, Mi.kD_exc, Mi.mRet_ap, Mi.kR_ok, Mi.kR_exc, Mi.mRetN_ap, Mi.mIfS_ap, Mi.kI_ok, Mi.kI_exc, Mi.mAsg_ap, Mi.kG_ok, Mi.kG_exc, Mi.kG2_some, Mi.mgName_ap, Mi.mgTup_ap, Mi.mgCons_ap, Mi.kgs_some, Mi.mgNil_ap, Mi.mPar_ap, Mi.kP_ok, Mi.mPar3_ap, Mi.kP3_ok, Mi.ownAt_ap, Mi.kw_own, Mi.mSlotIx_ap, Mi.kX_some, Mi.kX2_ok, Mi.kX3_some, Mi.mCall_ap, Mi.kc_ok, Mi.kf_ok, Mi.kf_exc, Mi.mCallO_ap, Mi.kq_some, Mi.kq2_ok, Mi.kq3_some, Mi.kq4_ok, Mi.mSetIx_ap, Mi.ky_ok, Mi.ky2_some, Mi.ky3_ok, Mi.ky4_some, Mi.mItL_ap, Mi.kIL_ok, Mi.kRs_some, Mi.mItT_ap, Mi.kIT_ok, Mi.mRng1_ap, Mi.kr1_ok, Mi.mRng2_ap, Mi.kr2_ok, Mi.mFor_ap, Mi.kFo_ok, Mi.mLoop_nil, Mi.kl1_some, Mi.kl2_nx, Mi.kl2_ct, Mi.kl2_bk, Mi.kl2_rt, Mi.kl2_exc, Mi.mLc_ap, Mi.kLc_ok, Mi.lc_nil, Mi.kz1_some, Mi.kz2_ok, Mi.kz3_ok, Mi.mYes_ap, Mi.mAug_ap, Mi.kU_some, Mi.kU2_int, Mi.mTry_ap, Mi.kTr_nx, Mi.kTr_rt, Mi.mMeth_ap, Mi.kMe_lst, Mi.kMe_own, Mi.mAppend_ap, Mi.kAp_some, Mi.kAp2_ok, Mi.kAp3_some, Mi.dAdd_int, Mi.dAdd_str, Mi.dAdd_tup, Mi.dAdd_ll, Mi.dAdd_lo, Mi.dAdd_ol, Mi.dAdd_oo, Mi.dSub_int, Mi.dMul_int, Mi.dMod_int, Mi.dFdiv_int, Mi.dPow_int, Mi.dNeg_int, Mi.dDivmod_int, Mi.dGt_int, Mi.dGe_int, Mi.dLe_int, Mi.dLtI_int, Mi.dLt_int, Mi.dEq_int, Mi.dNe_int, Mi.dMax2_int, Mi.dMin2_int, Mi.fn1_ap, Mi.fn2_ap, Mi.dLen_tup, Mi.dLen_lst, Mi.dLen_cst, Mi.dLen_own, Mi.fnM_ap, Mi.kfn_nx, Mi.kfn_rt, Mi.kfn_exc, Mi.fnO_ap, Mi.kfo_nx, Mi.kfo_rt, Mi.env0, Mi.envN, Mi.envS, Mi.wipeN, Mi.wipeS, Mi.lit_own, Mi.lit_lst, Mi.lit_cst, Mi.ix_own, Mi.ix_lst, Mi.ix_cst, Mi.ix_tup, Mi.dix_own, Mi.dix_lst, Mi.dix_cst, Mi.dix_tup, Mi.rng0, Mi.toL, Mi.end_lawL, Mi.btw_int, Mi.btw_bl, Mi.btw_non, Mi.btw_str, Mi.is_non_int, Mi.is_bl_int, Mi.is_int_int, Mi.is_str_int, Mi.is_tup_int, Mi.is_lst_int, Mi.is_cst_int, Mi.is_own_int, Mi.is_non_bool, Mi.is_bl_bool, Mi.is_int_bool, Mi.is_str_bool, Mi.is_tup_bool, Mi.is_lst_bool, Mi.is_cst_bool, Mi.is_own_bool, Mi.is_non_tuple, Mi.is_bl_tuple, Mi.is_int_tuple, Mi.is_str_tuple, Mi.is_tup_tuple, Mi.is_lst_tuple, Mi.is_cst_tuple, Mi.is_own_tuple, Mi.is_non_list, Mi.is_bl_list, Mi.is_int_list, Mi.is_str_list, Mi.is_tup_list, Mi.is_lst_list, Mi.is_cst_list, Mi.is_own_list, Mi.is_non_str, Mi.is_bl_str, Mi.is_int_str, Mi.is_str_str, Mi.is_tup_str, Mi.is_lst_str, Mi.is_cst_str, Mi.is_own_str, Mi.cast_lit, Mi.mPart_ap, Mi.kPt_ok, Mi.mNoPart_ap, Mi.mSl_ap, Mi.kSl1_ok, Mi.kSl2_ok, Mi.kSl3_ok, Mi.dSl_tup, Mi.dSl_lst, Mi.dSl_cst, Mi.mZip_ap, Mi.kZ_tup, Mi.kZ_lst, Mi.mPick_ap, Mi.kPk_ok, Mi.kPk2_some, Mi.at_0, Mi.at_1, Mi.at_2, Mi.at_3, Mi.isT_non, Mi.isT_bl, Mi.isT_int, Mi.isT_str, Mi.isT_tup, Mi.isT_lst, Mi.isT_cst, Mi.isT_own, Mi.dInt_bl, Mi.dIs_f_non, Mi.dIs_t_non, Mi.dIs_f_bl, Mi.dIs_t_bl, Mi.dIs_f_int, Mi.dIs_t_int, Mi.dIs_f_str, Mi.dIs_t_str, Mi.dIs_f_tup, Mi.dIs_t_tup, Mi.dIs_f_lst, Mi.dIs_t_lst, Mi.dIs_f_own, Mi.dIs_t_own, Mi.dIs_f_cst, Mi.dIs_t_cst, Mi.mLR1_ap, Mi.kLR1_ok, Mi.mLR2_ap, Mi.kLR2_ok, Mi.kLR2b_ok, Mi.mCallB_ap, Mi.kcB_some, Mi.kcB1_ok, Mi.kcB2_some, Mi.kcB3_bl, Mi.kcB3_exc, Mi.mExtend_ap, Mi.kEx_some, Mi.kEx2_ok, Mi.kEx3_some, Mi.dNotIn2, Mi.dIn2, Mi.dIsB_tt, Mi.dIsB_ft, Mi.dNotB_tt, Mi.dNotB_ft, D.frz, frzs, D.plain, plains, Bool.and_self, Bool.and_true, Bool.true_and, Bool.and_false, Bool.false_and, List.length_cons, List.length_nil, List.length_set, Nat.reduceAdd, Nat.zero_add, Nat.reduceLT, Nat.reduceLeDiff, sizeLine_eq, if_true, if_false, Bool.not_true, Bool.not_false, Bool.false_eq_true, decide_true, decide_false, and_self, and_true, true_and, List.cons_append, List.nil_append, Option.map_some, Option.bind_some, Int.reduceToNat, Int.reducePow, Int.reduceNeg, Int.reduceEq, Int.reduceLT, Int.reduceLE, Int.reduceAdd, Int.reduceSub, Int.reduceMul, eq_self, Mi.dat, not_true_eq_false, not_false_eq_true, Bool.or_self, Bool.or_true, Bool.or_false, Bool.false_or, Bool.true_or, false_and, and_false, true_or, or_true, false_or, or_false, ho, hr, c1, c2, cc, hl, oftL, fewL, List.append_nil, dNotIn2]
        · have b0' : ¬ 0 = b := fun z => b0 z.symm
          by_cases bk : b = k
          · subst bk
            simp -implicitDefEqProofs only [Mi.kof_some, Mi.kof_none, Mi.mOp1_ap, Mi.k1_ok, Mi.k1_exc, Mi.mOp2_ap, Mi.k2a_ok, Mi.k2a_exc, Mi.k2b_ok, Mi.k2b_exc, Mi.mOpL_ap, Mi.kL_ok, Mi.kL_exc, Mi.mCons_ap, Mi.kca_ok, Mi.kca_exc, Mi.kcb_ok, Mi.kcb_exc, Mi.mNil_ap, Mi.mC_ap, Mi.mLst_ap, Mi.mTup_ap, Mi.kLst_ok, Mi.kTup_ok, Mi.mVar_ap, Mi.kV_some, Mi.mFrz_ap, Mi.kF_some, Mi.mMove_ap, Mi.kM_some, Mi.at0, Mi.atS, Mi.set0, Mi.setS, Mi.mT_ap, Mi.kT_ok, Mi.kT_exc, Mi.mNotT_ap, Mi.kN_ok, Mi.kN_exc, Mi.mAndT_ap, Mi.kA_ok, Mi.kA_exc, Mi.mOrT_ap, Mi.kO_ok, Mi.kO_exc, Mi.mAndV_ap, Mi.kAV_ok, Mi.mOrV_ap, Mi.kOV_ok, Mi.mIf_ap, Mi.kIf_ok, Mi.mChain_ap, Mi.kCh_ok, Mi.kCh1_ok, Mi.kCh2_ok, Mi.mSeq_ap, Mi.kS_nx, Mi.kS_rt, Mi.kS_exc, Mi.kS_bk, Mi.kS_ct, Mi.mNext_ap, Mi.mDrop_ap, Mi.kD_ok, Mi.kD_exc, Mi.mRet_ap, Mi.kR_ok, Mi.kR_exc, Mi.mRetN_ap, Mi.mIfS_ap, Mi.kI_ok, Mi.kI_exc, Mi.mAsg_ap, Mi.kG_ok, Mi.kG_exc, Mi.kG2_some, Mi.mgName_ap, Mi.mgTup_ap, Mi.mgCons_ap, Mi.kgs_some, Mi.mgNil_ap, Mi.mPar_ap, Mi.kP_ok, Mi.mPar3_ap, Mi.kP3_ok, Mi.ownAt_ap, Mi.kw_own, Mi.mSlotIx_ap, Mi.kX_some, Mi.kX2_ok, Mi.kX3_some, Mi.mCall_ap, Mi.kc_ok, Mi.kf_ok, Mi.kf_exc, Mi.mCallO_ap, Mi.kq_some, Mi.kq2_ok, Mi.kq3_some, Mi.kq4_ok, Mi.mSetIx_ap, Mi.ky_ok, Mi.ky2_some, Mi.ky3_ok, Mi.ky4_some, Mi.mItL_ap, Mi.kIL_ok, Mi.kRs_some, Mi.mItT_ap, Mi.kIT_ok, Mi.mRng1_ap, Mi.kr1_ok, Mi.mRng2_ap, Mi.kr2_ok, Mi.mFor_ap, Mi.kFo_ok, Mi.mLoop_nil, Mi.kl1_some, Mi.kl2_nx, Mi.kl2_ct, Mi.kl2_bk, Mi.kl2_rt, Mi.kl2_exc, Mi.mLc_ap, Mi.kLc_ok, Mi.lc_nil, Mi.kz1_some, Mi.kz2_ok, Mi.kz3_ok, Mi.mYes_ap, Mi.mAug_ap, Mi.kU_some, Mi.kU2_int, Mi.mTry_ap, Mi.kTr_nx, Mi.kTr_rt, Mi.mMeth_ap, Mi.kMe_lst, Mi.kMe_own, Mi.mAppend_ap, Mi.kAp_some, Mi.kAp2_ok, Mi.kAp3_some, Mi.dAdd_int, Mi.dAdd_str, Mi.dAdd_tup, Mi.dAdd_ll, Mi.dAdd_lo, Mi.dAdd_ol, Mi.dAdd_oo, Mi.dSub_int, Mi.dMul_int, Mi.dMod_int, Mi.dFdiv_int, Mi.dPow_int, Mi.dNeg_int, Mi.dDivmod_int, Mi.dGt_int, Mi.dGe_int, Mi.dLe_int, Mi.dLtI_int, Mi.dLt_int, Mi.dEq_int, Mi.dNe_int, Mi.dMax2_int, Mi.dMin2_int, Mi.fn1_ap, Mi.fn2_ap, Mi.dLen_tup, Mi.dLen_lst, Mi.dLen_cst, Mi.dLen_own, Mi.fnM_ap, Mi.kfn_nx, Mi.kfn_rt, Mi.kfn_exc, Mi.fnO_ap, Mi.kfo_nx, Mi.kfo_rt, Mi.env0, Mi.envN, Mi.envS, Mi.wipeN, Mi.wipeS, Mi.lit_own, Mi.lit_lst, Mi.lit_cst, Mi.ix_own, Mi.ix_lst, Mi.ix_cst, Mi.ix_tup, Mi.dix_own, Mi.dix_lst, Mi.dix_cst, Mi.dix_tup, Mi.rng0, Mi.toL, Mi.end_lawL, Mi.btw_int, Mi.btw_bl, Mi.btw_non, Mi.btw_str, Mi.is_non_int, Mi.is_bl_int, Mi.is_int_int, Mi.is_str_int, Mi.is_tup_int, Mi.is_lst_int, Mi.is_cst_int, Mi.is_own_int, Mi.is_non_bool, Mi.is_bl_bool, Mi.is_int_bool, Mi.is_str_bool, Mi.is_tup_bool, Mi.is_lst_bool, Mi.is_cst_bool, Mi.is_own_bool, Mi.is_non_tuple, Mi.is_bl_tuple, Mi.is_int_tuple, Mi.is_str_tuple, Mi.is_tup_tuple, Mi.is_lst_tuple, Mi.is_cst_tuple, Mi.is_own_tuple, Mi.is_non_list, Mi.is_bl_list, Mi.is_int_list, Mi.is_str_list, Mi.is_tup_list, Mi.is_lst_list, Mi.is_cst_list, Mi.is_own_list, Mi.is_non_str, Mi.is_bl_str, Mi.is_int_str, Mi.is_str_str, Mi.is_tup_str, Mi.is_lst_str, Mi.is_cst_str, Mi.is_own_str, Mi.cast_lit, Mi.mPart_ap, Mi.kPt_ok, Mi.mNoPart_ap, Mi.mSl_ap, Mi.kSl1_ok, Mi.kSl2_ok, Mi.kSl3_ok, Mi.dSl_tup, Mi.dSl_lst, Mi.dSl_cst, Mi.mZip_ap, Mi.kZ_tup, Mi.kZ_lst, Mi.mPick_ap, Mi.kPk_ok, Mi.kPk2_some, Mi.at_0, Mi.at_1, Mi.at_2, Mi.at_3, Mi.isT_non, Mi.isT_bl, Mi.isT_int, Mi.isT_str, Mi.isT_tup, Mi.isT_lst, Mi.isT_cst, Mi.isT_own, Mi.dInt_bl, Mi.dIs_f_non, Mi.dIs_t_non, Mi.dIs_f_bl, Mi.dIs_t_bl, Mi.dIs_f_int, Mi.dIs_t_int, Mi.dIs_f_str, Mi.dIs_t_str, Mi.dIs_f_tup, Mi.dIs_t_tup, Mi.dIs_f_lst, Mi.dIs_t_lst, Mi.dIs_f_own, Mi.dIs_t_own, Mi.dIs_f_cst, Mi.dIs_t_cst, Mi.mLR1_ap, Mi.kLR1_ok, Mi.mLR2_ap, Mi.kLR2_ok, Mi.kLR2b_ok, Mi.mCallB_ap, Mi.kcB_some, Mi.kcB1_ok, Mi.kcB2_some, Mi.kcB3_bl, Mi.kcB3_exc, Mi.mExtend_ap, Mi.kEx_some, Mi.kEx2_ok, Mi.kEx3_some, Mi.dNotIn2, Mi.dIn2, Mi.dIsB_tt, Mi.dIsB_ft, Mi.dNotB_tt, Mi.dNotB_ft, D.frz, frzs, D.plain, plains, Bool.and_self, Bool.and_true, Bool.true_and, Bool.and_false, Bool.false_and, List.length_cons, List.length_nil, List.length_set, Nat.reduceAdd, Nat.zero_add, Nat.reduceLT, Nat.reduceLeDiff, sizeLine_eq, if_true, if_false, Bool.not_true, Bool.not_false, Bool.false_eq_true, decide_true, decide_false, and_self, and_true, true_and, List.cons_append, List.nil_append, Option.map_some, Option.bind_some, Int.reduceToNat, Int.reducePow, Int.reduceNeg, Int.reduceEq, Int.reduceLT, Int.reduceLE, Int.reduceAdd, Int.reduceSub, Int.reduceMul, eq_self, Mi.dat, not_true_eq_false, not_false_eq_true, Bool.or_self, Bool.or_true, Bool.or_false, Bool.false_or, Bool.true_or, false_and, and_false, true_or, or_true, false_or, or_false, ho, hr, c1, c2, cc, hl, oftL, fewL, List.append_nil, dNotIn2, b0', b0]
          · have bk' : ¬ k = b := fun z => bk z.symm
            simp -implicitDefEqProofs only [Mi.kof_some, Mi.kof_none, Mi.mOp1_ap, Mi.k1_ok, Mi.k1_exc, Mi.mOp2_ap, Mi.k2a_ok, Mi.k2a_exc, Mi.k2b_ok, Mi.k2b_exc, Mi.mOpL_ap, Mi.kL_ok, Mi.kL_exc, Mi.mCons_ap, Mi.kca_ok, Mi.kca_exc, Mi.kcb_ok, Mi.kcb_exc, Mi.mNil_ap, Mi.mC_ap, Mi.mLst_ap, Mi.mTup_ap, Mi.kLst_ok, Mi.kTup_ok, Mi.mVar_ap, Mi.kV_some, Mi.mFrz_ap, Mi.kF_some, Mi.mMove_ap, Mi.kM_some, Mi.at0, Mi.atS, Mi.set0, Mi.setS, Mi.mT_ap, Mi.kT_ok, Mi.kT_exc, Mi.mNotT_ap, Mi.kN_ok, Mi.kN_exc, Mi.mAndT_ap, Mi.kA_ok, Mi.kA_exc, Mi.mOrT_ap, Mi.kO_ok, Mi.kO_exc, Mi.mAndV_ap, Mi.kAV_ok, Mi.mOrV_ap, Mi.kOV_ok, Mi.mIf_ap, Mi.kIf_ok, Mi.mChain_ap, Mi.kCh_ok, Mi.kCh1_ok, Mi.kCh2_ok, Mi.mSeq_ap, Mi.kS_nx, Mi.kS_rt, Mi.kS_exc, Mi.kS_bk, Mi.kS_ct, Mi.mNext_ap, Mi.mDrop_ap, Mi.kD_ok, Mi.kD_exc, Mi.mRet_ap, Mi.kR_ok, Mi.kR_exc, Mi.mRetN_ap, Mi.mIfS_ap, Mi.kI_ok, Mi.kI_exc, Mi.mAsg_ap, Mi.kG_ok, Mi.kG_exc, Mi.kG2_some, Mi.mgName_ap, Mi.mgTup_ap, Mi.mgCons_ap, Mi.kgs_some, Mi.mgNil_ap, Mi.mPar_ap, Mi.kP_ok, Mi.mPar3_ap, Mi.kP3_ok, Mi.ownAt_ap, Mi.kw_own, Mi.mSlotIx_ap, Mi.kX_some, Mi.kX2_ok, Mi.kX3_some, Mi.mCall_ap, Mi.kc_ok, Mi.kf_ok, Mi.kf_exc, Mi.mCallO_ap, Mi.kq_some, Mi.kq2_ok, Mi.kq3_some, Mi.kq4_ok, Mi.mSetIx_ap, Mi.ky_ok, Mi.ky2_some, Mi.ky3_ok, Mi.ky4_some, Mi.mItL_ap, Mi.kIL_ok, Mi.kRs_some, Mi.mItT_ap, Mi.kIT_ok, Mi.mRng1_ap, Mi.kr1_ok, Mi.mRng2_ap, Mi.kr2_ok, Mi.mFor_ap, Mi.kFo_ok, Mi.mLoop_nil, Mi.kl1_some, Mi.kl2_nx, Mi.kl2_ct, Mi.kl2_bk, Mi.kl2_rt, Mi.kl2_exc, Mi.mLc_ap, Mi.kLc_ok, Mi.lc_nil, Mi.kz1_some, Mi.kz2_ok, Mi.kz3_ok, Mi.mYes_ap, Mi.mAug_ap, Mi.kU_some, Mi.kU2_int, Mi.mTry_ap, Mi.kTr_nx, Mi.kTr_rt, Mi.mMeth_ap, Mi.kMe_lst, Mi.kMe_own, Mi.mAppend_ap, Mi.kAp_some, Mi.kAp2_ok, Mi.kAp3_some, Mi.dAdd_int, Mi.dAdd_str, Mi.dAdd_tup, Mi.dAdd_ll, Mi.dAdd_lo, Mi.dAdd_ol, Mi.dAdd_oo, Mi.dSub_int, Mi.dMul_int, Mi.dMod_int, Mi.dFdiv_int, Mi.dPow_int, Mi.dNeg_int, Mi.dDivmod_int, Mi.dGt_int, Mi.dGe_int, Mi.dLe_int, Mi.dLtI_int, Mi.dLt_int, Mi.dEq_int, Mi.dNe_int, Mi.dMax2_int, Mi.dMin2_int, Mi.fn1_ap, Mi.fn2_ap, Mi.dLen_tup, Mi.dLen_lst, Mi.dLen_cst, Mi.dLen_own, Mi.fnM_ap, Mi.kfn_nx, Mi.kfn_rt, Mi.kfn_exc, Mi.fnO_ap, Mi.kfo_nx, Mi.kfo_rt, Mi.env0, Mi.envN, Mi.envS, Mi.wipeN, Mi.wipeS, Mi.lit_own, Mi.lit_lst, Mi.lit_cst, Mi.ix_own, Mi.ix_lst, Mi.ix_cst, Mi.ix_tup, Mi.dix_own, Mi.dix_lst, Mi.dix_cst, Mi.dix_tup, Mi.rng0, Mi.toL, Mi.end_lawL, Mi.btw_int, Mi.btw_bl, Mi.btw_non, Mi.btw_str, Mi.is_non_int, Mi.is_bl_int, Mi.is_int_int, Mi.is_str_int, Mi.is_tup_int, Mi.is_lst_int, Mi.is_cst_int, Mi.is_own_int, Mi.is_non_bool, Mi.is_bl_bool, Mi.is_int_bool, Mi.is_str_bool, Mi.is_tup_bool, Mi.is_lst_bool, Mi.is_cst_bool, Mi.is_own_bool, Mi.is_non_tuple, Mi.is_bl_tuple, Mi.is_int_tuple, Mi.is_str_tuple, Mi.is_tup_tuple, Mi.is_lst_tuple, Mi.is_cst_tuple, Mi.is_own_tuple, Mi.is_non_list, Mi.is_bl_list, Mi.is_int_list, Mi.is_str_list, Mi.is_tup_list, Mi.is_lst_list, Mi.is_cst_list, Mi.is_own_list, Mi.is_non_str, Mi.is_bl_str, Mi.is_int_str, Mi.is_str_str, Mi.is_tup_str, Mi.is_lst_str, Mi.is_cst_str, Mi.is_own_str, Mi.cast_lit, Mi.mPart_ap, Mi.kPt_ok, Mi.mNoPart_ap, Mi.mSl_ap, Mi.kSl1_ok, Mi.kSl2_ok, Mi.kSl3_ok, Mi.dSl_tup, Mi.dSl_lst, Mi.dSl_cst, Mi.mZip_ap, Mi.kZ_tup, Mi.kZ_lst, Mi.mPick_ap, Mi.kPk_ok, Mi.kPk2_some, Mi.at_0, Mi.at_1, Mi.at_2, Mi.at_3, Mi.isT_non, Mi.isT_bl, Mi.isT_int, Mi.isT_str, Mi.isT_tup, Mi.isT_lst, Mi.isT_cst, Mi.isT_own, Mi.dInt_bl, Mi.dIs_f_non, Mi.dIs_t_non, Mi.dIs_f_bl, Mi.dIs_t_bl, Mi.dIs_f_int, Mi.dIs_t_int, Mi.dIs_f_str, Mi.dIs_t_str, Mi.dIs_f_tup, Mi.dIs_t_tup, Mi.dIs_f_lst, Mi.dIs_t_lst, Mi.dIs_f_own, Mi.dIs_t_own, Mi.dIs_f_cst, Mi.dIs_t_cst, Mi.mLR1_ap, Mi.kLR1_ok, Mi.mLR2_ap, Mi.kLR2_ok, Mi.kLR2b_ok, Mi.mCallB_ap, Mi.kcB_some, Mi.kcB1_ok, Mi.kcB2_some, Mi.kcB3_bl, Mi.kcB3_exc, Mi.mExtend_ap, Mi.kEx_some, Mi.kEx2_ok, Mi.kEx3_some, Mi.dNotIn2, Mi.dIn2, Mi.dIsB_tt, Mi.dIsB_ft, Mi.dNotB_tt, Mi.dNotB_ft, D.frz, frzs, D.plain, plains, Bool.and_self, Bool.and_true, Bool.true_and, Bool.and_false, Bool.false_and, List.length_cons, List.length_nil, List.length_set, Nat.reduceAdd, Nat.zero_add, Nat.reduceLT, Nat.reduceLeDiff, sizeLine_eq, if_true, if_false, Bool.not_true, Bool.not_false, Bool.false_eq_true, decide_true, decide_false, and_self, and_true, true_and, List.cons_append, List.nil_append, Option.map_some, Option.bind_some, Int.reduceToNat, Int.reducePow, Int.reduceNeg, Int.reduceEq, Int.reduceLT, Int.reduceLE, Int.reduceAdd, Int.reduceSub, Int.reduceMul, eq_self, Mi.dat, not_true_eq_false, not_false_eq_true, Bool.or_self, Bool.or_true, Bool.or_false, Bool.false_or, Bool.true_or, false_and, and_false, true_or, or_true, false_or, or_false, ho, hr, c1, c2, cc, hl, oftL, fewL, List.append_nil, dNotIn2, b0', b0, bk', bk, fc, z0]
            simp only [List.append_assoc]
      · have z0 := fin [.tup [.str "count", .int (k * (k - a - 1)), .int ((n - k - 1) * b)]] (by show 1 < 20; decide)
        obtain ⟨p, hl⟩ := hl [.tup [.str "count", .int (k * (k - a - 1)), .int ((n - k - 1) * b)]] (by show 1 < 50; decide) (some (.tup [.int f, .int g])) none none none none none
        by_cases b0 : b = 0
        · subst b0
          simp -implicitDefEqProofs only [Mi.kof_some, Mi.kof_none, Mi.mOp1_ap, Mi.k1_ok, Mi.k1_exc, Mi.mOp2_ap, Mi.k2a_ok, Mi.k2a_exc, Mi.k2b_ok, Mi.k2b_exc, Mi.mOpL_ap, Mi.kL_ok, Mi.kL_exc, Mi.mCons_ap, Mi.kca_ok, Mi.kca_exc, Mi.kcb_ok, Mi.kcb_exc, Mi.mNil_ap, Mi.mC_ap, Mi.mLst_ap, Mi.mTup_ap, Mi.kLst_ok, Mi.kTup_ok, Mi.mVar_ap, Mi.kV_some, Mi.mFrz_ap, Mi.kF_some, Mi.mMove_ap, Mi.kM_some, Mi.at0, Mi.atS, Mi.set0, Mi.setS, Mi.mT_ap, Mi.kT_ok, Mi.kT_exc, Mi.mNotT_ap, Mi.kN_ok, Mi.kN_exc, Mi.mAndT_ap, Mi.kA_ok, Mi.kA_exc, Mi.mOrT_ap, Mi.kO_ok, Mi.kO_exc, Mi.mAndV_ap, Mi.kAV_ok, Mi.mOrV_ap, Mi.kOV_ok, Mi.mIf_ap, Mi.kIf_ok, Mi.mChain_ap, Mi.kCh_ok, Mi.kCh1_ok, Mi.kCh2_ok, Mi.mSeq_ap, Mi.kS_nx, Mi.kS_rt, Mi.kS_exc, Mi.kS_bk, Mi.kS_ct, Mi.mNext_ap, Mi.mDrop_ap, Mi.kD_ok, Mi.kD_exc, Mi.mRet_ap, Mi.kR_ok, Mi.kR_exc, Mi.mRetN_ap, Mi.mIfS_ap, Mi.kI_ok, Mi.kI_exc, Mi.mAsg_ap, Mi.kG_ok, Mi.kG_exc, Mi.kG2_some, Mi.mgName_ap, Mi.mgTup_ap, Mi.mgCons_ap, Mi.kgs_some, Mi.mgNil_ap, Mi.mPar_ap, Mi.kP_ok, Mi.mPar3_ap, Mi.kP3_ok, Mi.ownAt_ap, Mi.kw_own, Mi.mSlotIx_ap, Mi.kX_some, Mi.kX2_ok, Mi.kX3_some, Mi.mCall_ap, Mi.kc_ok, Mi.kf_ok, Mi.kf_exc, Mi.mCallO_ap, Mi.kq_some, Mi.kq2_ok, Mi.kq3_some, Mi.kq4_ok, Mi.mSetIx_ap, Mi.ky_ok, Mi.ky2_some, Mi.ky3_ok, Mi.ky4_some, Mi.mItL_ap, Mi.kIL_ok, Mi.kRs_some, Mi.mItT_ap, Mi.kIT_ok, Mi.mRng1_ap, Mi.kr1_ok, Mi.mRng2_ap, Mi.kr2_ok, Mi.mFor_ap, Mi.kFo_ok, Mi.mLoop_nil, Mi.kl1_some, Mi.kl2_nx, Mi.kl2_ct, Mi.kl2_bk, Mi.kl2_rt, Mi.kl2_exc, Mi.mLc_ap, Mi.kLc_ok, Mi.lc_nil, Mi.kz1_some, Mi.kz2_ok, Mi.kz3_ok, Mi.mYes_ap, Mi.mAug_ap, Mi.kU_some, Mi.kU2_int, Mi.mTry_ap, Mi.kTr_nx, Mi.kTr_rt, Mi.mMeth_ap, Mi.kMe_lst, Mi.kMe_own, Mi.mAppend_ap, Mi.kAp_some, Mi.kAp2_ok, Mi.kAp3_some, Mi.dAdd_int, Mi.dAdd_str, Mi.dAdd_tup, Mi.dAdd_ll, Mi.dAdd_lo, Mi.dAdd_ol, Mi.dAdd_oo, Mi.dSub_int, Mi.dMul_int, Mi.dMod_int, Mi.dFdiv_int, Mi.dPow_int, Mi.dNeg_int, Mi.dDivmod_int, Mi.dGt_int, Mi.dGe_int, Mi.dLe_int, Mi.dLtI_int, Mi.dLt_int, Mi.dEq_int, Mi.dNe_int, Mi.dMax2_int, Mi.dMin2_int, Mi.fn1_ap, Mi.fn2_ap, Mi.dLen_tup, Mi.dLen_lst, Mi.dLen_cst, Mi.dLen_own, Mi.fnM_ap, Mi.kfn_nx, Mi.kfn_rt, Mi.kfn_exc, Mi.fnO_ap, Mi.kfo_nx, Mi.kfo_rt, Mi.env0, Mi.envN, Mi.envS, Mi.wipeN, Mi.wipeS, Mi.lit_own, Mi.lit_lst, Mi.lit_cst, Mi.ix_own, Mi.ix_lst, Mi.ix_cst, Mi.ix_tup, Mi.dix_own, Mi.dix_lst, Mi.dix_cst, Mi.dix_tup, Mi.rng0, Mi.toL, Mi.end_lawL, Mi.btw_int, Mi.btw_bl, Mi.btw_non, Mi.btw_str, Mi.is_non_int, Mi.is_bl_int, Mi.is_int_int, Mi.is_str_int, Mi.is_tup_int, Mi.is_lst_int, Mi.is_cst_int, Mi.is_own_int, Mi.is_non_bool, Mi.is_bl_bool, Mi.is_int_bool, Mi.is_str_bool, Mi.is_tup_bool, Mi.is_lst_bool, Mi.is_cst_bool, Mi.is_own_bool, Mi.is_non_tuple, Mi.is_bl_tuple, Mi.is_int_tuple, Mi.is_str_tuple, Mi.is_tup_tuple, Mi.is_lst_tuple, Mi.is_cst_tuple, Mi.is_own_tuple, Mi.is_non_list, Mi.is_bl_list, Mi.is_int_list, Mi.is_str_list, Mi.is_tup_list, Mi.is_lst_list, Mi.is_cst_list, Mi.is_own_list, Mi.is_non_str, Mi.is_bl_str, Mi.is_int_str, Mi.is_str_str, Mi.is_tup_str, Mi.is_lst_str, Mi.is_cst_str, Mi.is_own_str, Mi.cast_lit, Mi.mPart_ap, Mi.kPt_ok, Mi.mNoPart_ap, Mi.mSl_ap, Mi.kSl1_ok, Mi.kSl2_ok, Mi.kSl3_ok, Mi.dSl_tup, Mi.dSl_lst, Mi.dSl_cst, Mi.mZip_ap, Mi.kZ_tup, Mi.kZ_lst, Mi.mPick_ap, Mi.kPk_ok, Mi.kPk2_some, Mi.at_0, Mi.at_1, Mi.at_2, Mi.at_3, Mi.isT_non, Mi.isT_bl, Mi.isT_int, Mi.isT_str, Mi.isT_tup, Mi.isT_lst, Mi.isT_cst, Mi.isT_own, Mi.dInt_bl, Mi.dIs_f_non, Mi.dIs_t_non, Mi.dIs_f_bl, Mi.dIs_t_bl, Mi.dIs_f_int, Mi.dIs_t_int, Mi.dIs_f_str, Mi.dIs_t_str, Mi.dIs_f_tup, Mi.dIs_t_tup, Mi.dIs_f_lst, Mi.dIs_t_lst, Mi.dIs_f_own, Mi.dIs_t_own, Mi.dIs_f_cst, Mi.dIs_t_cst, Mi.mLR1_ap, Mi.kLR1_ok, Mi.mLR2_ap, Mi.kLR2_ok, Mi.kLR2b_ok, Mi.mCallB_ap, Mi.kcB_some, Mi.kcB1_ok, Mi.kcB2_some, Mi.kcB3_bl, Mi.kcB3_exc, Mi.mExtend_ap, Mi.kEx_some, Mi.kEx2_ok, Mi.kEx3_some, Mi.dNotIn2, Mi.dIn2, Mi.dIsB_tt, Mi.dIsB_ft, Mi.dNotB_tt, Mi.dNotB_ft, D.frz, frzs, D.plain, plains, Bool.and_self, Bool.and_true, Bool.true_and, Bool.and_false, Bool.false_and, List.length_cons, List.length_nil, List.length_set, Nat.reduceAdd, Nat.zero_add, Nat.reduceLT, Nat.reduceLeDiff, sizeLine_eq, if_true, if_false, Bool.not_true, Bool.not_false, Bool.false_eq_true, decide_true, decide_false, and_self, and_true, true_and, List.cons_append, List.nil_append, Option.map_some, Option.bind_some, Int.reduceToNat, Int.reducePow, Int.reduceNeg, Int.reduceEq, Int.reduceLT, Int.reduceLE, Int.reduceAdd, Int.reduceSub, Int.reduceMul, eq_self, Mi.dat, not_true_eq_false, not_false_eq_true, Bool.or_self, Bool.or_true, Bool.or_false, Bool.false_or, Bool.true_or, false_and, and_false, true_or, or_true, false_or, or_false, ho, hr, c1, c2, cc, hl, oftL, fewL, List.append_nil, dNotIn2]
        · have b0' : ¬ 0 = b := fun z => b0 z.symm
          by_cases bk : b = k
          · subst bk
            simp -implicitDefEqProofs only [Mi.kof_some, Mi.kof_none, Mi.mOp1_ap, Mi.k1_ok, Mi.k1_exc, Mi.mOp2_ap, Mi.k2a_ok, Mi.k2a_exc, Mi.k2b_ok, Mi.k2b_exc, Mi.mOpL_ap, Mi.kL_ok, Mi.kL_exc, Mi.mCons_ap, Mi.kca_ok, Mi.kca_exc, Mi.kcb_ok, Mi.kcb_exc, Mi.mNil_ap, Mi.mC_ap, Mi.mLst_ap, Mi.mTup_ap, Mi.kLst_ok, Mi.kTup_ok, Mi.mVar_ap, Mi.kV_some, Mi.mFrz_ap, Mi.kF_some, Mi.mMove_ap, Mi.kM_some, Mi.at0, Mi.atS, Mi.set0, Mi.setS, Mi.mT_ap, Mi.kT_ok, Mi.kT_exc, Mi.mNotT_ap, Mi.kN_ok, Mi.kN_exc, Mi.mAndT_ap, Mi.kA_ok, Mi.kA_exc, Mi.mOrT_ap, Mi.kO_ok, Mi.kO_exc, Mi.mAndV_ap, Mi.kAV_ok, Mi.mOrV_ap, Mi.kOV_ok, Mi.mIf_ap, Mi.kIf_ok, Mi.mChain_ap, Mi.kCh_ok, Mi.kCh1_ok, Mi.kCh2_ok, Mi.mSeq_ap, Mi.kS_nx, Mi.kS_rt, Mi.kS_exc, Mi.kS_bk, Mi.kS_ct, Mi.mNext_ap, Mi.mDrop_ap, Mi.kD_ok, Mi.kD_exc, Mi.mRet_ap, Mi.kR_ok, Mi.kR_exc, Mi.mRetN_ap, Mi.mIfS_ap, Mi.kI_ok, Mi.kI_exc, Mi.mAsg_ap, Mi.kG_ok, Mi.kG_exc, Mi.kG2_some, Mi.mgName_ap, Mi.mgTup_ap, Mi.mgCons_ap, Mi.kgs_some, Mi.mgNil_ap, Mi.mPar_ap, Mi.kP_ok, Mi.mPar3_ap, Mi.kP3_ok, Mi.ownAt_ap, Mi.kw_own, Mi.mSlotIx_ap, Mi.kX_some, Mi.kX2_ok, Mi.kX3_some, Mi.mCall_ap, Mi.kc_ok, Mi.kf_ok, Mi.kf_exc, Mi.mCallO_ap, Mi.kq_some, Mi.kq2_ok, Mi.kq3_some, Mi.kq4_ok, Mi.mSetIx_ap, Mi.ky_ok, Mi.ky2_some, Mi.ky3_ok, Mi.ky4_some, Mi.mItL_ap, Mi.kIL_ok, Mi.kRs_some, Mi.mItT_ap, Mi.kIT_ok, Mi.mRng1_ap, Mi.kr1_ok, Mi.mRng2_ap, Mi.kr2_ok, Mi.mFor_ap, Mi.kFo_ok, Mi.mLoop_nil, Mi.kl1_some, Mi.kl2_nx, Mi.kl2_ct, Mi.kl2_bk, Mi.kl2_rt, Mi.kl2_exc, Mi.mLc_ap, Mi.kLc_ok, Mi.lc_nil, Mi.kz1_some, Mi.kz2_ok, Mi.kz3_ok, Mi.mYes_ap, Mi.mAug_ap, Mi.kU_some, Mi.kU2_int, Mi.mTry_ap, Mi.kTr_nx, Mi.kTr_rt, Mi.mMeth_ap, Mi.kMe_lst, Mi.kMe_own, Mi.mAppend_ap, Mi.kAp_some, Mi.kAp2_ok, Mi.kAp3_some, Mi.dAdd_int, Mi.dAdd_str, Mi.dAdd_tup, Mi.dAdd_ll, Mi.dAdd_lo, Mi.dAdd_ol, Mi.dAdd_oo, Mi.dSub_int, Mi.dMul_int, Mi.dMod_int, Mi.dFdiv_int, Mi.dPow_int, Mi.dNeg_int, Mi.dDivmod_int, Mi.dGt_int, Mi.dGe_int, Mi.dLe_int, Mi.dLtI_int, Mi.dLt_int, Mi.dEq_int, Mi.dNe_int, Mi.dMax2_int, Mi.dMin2_int, Mi.fn1_ap, Mi.fn2_ap, Mi.dLen_tup, Mi.dLen_lst, Mi.dLen_cst, Mi.dLen_own, Mi.fnM_ap, Mi.kfn_nx, Mi.kfn_rt, Mi.kfn_exc, Mi.fnO_ap, Mi.kfo_nx, Mi.kfo_rt, Mi.env0, Mi.envN, Mi.envS, Mi.wipeN, Mi.wipeS, Mi.lit_own, Mi.lit_lst, Mi.lit_cst, Mi.ix_own, Mi.ix_lst, Mi.ix_cst, Mi.ix_tup, Mi.dix_own, Mi.dix_lst, Mi.dix_cst, Mi.dix_tup, Mi.rng0, Mi.toL, Mi.end_lawL, Mi.btw_int, Mi.btw_bl, Mi.btw_non, Mi.btw_str, Mi.is_non_int, Mi.is_bl_int, Mi.is_int_int, Mi.is_str_int, Mi.is_tup_int, Mi.is_lst_int, Mi.is_cst_int, Mi.is_own_int, Mi.is_non_bool, Mi.is_bl_bool, Mi.is_int_bool, Mi.is_str_bool, Mi.is_tup_bool, Mi.is_lst_bool, Mi.is_cst_bool, Mi.is_own_bool, Mi.is_non_tuple, Mi.is_bl_tuple, Mi.is_int_tuple, Mi.is_str_tuple, Mi.is_tup_tuple, Mi.is_lst_tuple, Mi.is_cst_tuple, Mi.is_own_tuple, Mi.is_non_list, Mi.is_bl_list, Mi.is_int_list, Mi.is_str_list, Mi.is_tup_list, Mi.is_lst_list, Mi.is_cst_list, Mi.is_own_list, Mi.is_non_str, Mi.is_bl_str, Mi.is_int_str, Mi.is_str_str, Mi.is_tup_str, Mi.is_lst_str, Mi.is_cst_str, Mi.is_own_str, Mi.cast_lit, Mi.mPart_ap, Mi.kPt_ok, Mi.mNoPart_ap, Mi.mSl_ap, Mi.kSl1_ok, Mi.kSl2_ok, Mi.kSl3_ok, Mi.dSl_tup, Mi.dSl_lst, Mi.dSl_cst, Mi.mZip_ap, Mi.kZ_tup, Mi.kZ_lst, Mi.mPick_ap, Mi.kPk_ok, Mi.kPk2_some, Mi.at_0, Mi.at_1, Mi.at_2, Mi.at_3, Mi.isT_non, Mi.isT_bl, Mi.isT_int, Mi.isT_str, Mi.isT_tup, Mi.isT_lst, Mi.isT_cst, Mi.isT_own, Mi.dInt_bl, Mi.dIs_f_non, Mi.dIs_t_non, Mi.dIs_f_bl, Mi.dIs_t_bl, Mi.dIs_f_int, Mi.dIs_t_int, Mi.dIs_f_str, Mi.dIs_t_str, Mi.dIs_f_tup, Mi.dIs_t_tup, Mi.dIs_f_lst, Mi.dIs_t_lst, Mi.dIs_f_own, Mi.dIs_t_own, Mi.dIs_f_cst, Mi.dIs_t_cst, Mi.mLR1_ap, Mi.kLR1_ok, Mi.mLR2_ap, Mi.kLR2_ok, Mi.kLR2b_ok, Mi.mCallB_ap, Mi.kcB_some, Mi.kcB1_ok, Mi.kcB2_some, Mi.kcB3_bl, Mi.kcB3_exc, Mi.mExtend_ap, Mi.kEx_some, Mi.kEx2_ok, Mi.kEx3_some, Mi.dNotIn2, Mi.dIn2, Mi.dIsB_tt, Mi.dIsB_ft, Mi.dNotB_tt, Mi.dNotB_ft, D.frz, frzs, D.plain, plains, Bool.and_self, Bool.and_true, Bool.true_and, Bool.and_false, Bool.false_and, List.length_cons, List.length_nil, List.length_set, Nat.reduceAdd, Nat.zero_add, Nat.reduceLT, Nat.reduceLeDiff, sizeLine_eq, if_true, if_false, Bool.not_true, Bool.not_false, Bool.false_eq_true, decide_true, decide_false, and_self, and_true, true_and, List.cons_append, List.nil_append, Option.map_some, Option.bind_some, Int.reduceToNat, Int.reducePow, Int.reduceNeg, Int.reduceEq, Int.reduceLT, Int.reduceLE, Int.reduceAdd, Int.reduceSub, Int.reduceMul, eq_self, Mi.dat, not_true_eq_false, not_false_eq_true, Bool.or_self, Bool.or_true, Bool.or_false, Bool.false_or, Bool.true_or, false_and, and_false, true_or, or_true, false_or, or_false, ho, hr, c1, c2, cc, hl, oftL, fewL, List.append_nil, dNotIn2, b0', b0]
          · have bk' : ¬ k = b := fun z => bk z.symm
            have z0 : (g1 ++ g2).length + 1 + (fewD n f ++ fewD n g).length ≤ 16777216 := by simp only [List.length_append]; omega
            simp -implicitDefEqProofs only [Mi.kof_some, Mi.kof_none, Mi.mOp1_ap, Mi.k1_ok, Mi.k1_exc, Mi.mOp2_ap, Mi.k2a_ok, Mi.k2a_exc, Mi.k2b_ok, Mi.k2b_exc, Mi.mOpL_ap, Mi.kL_ok, Mi.kL_exc, Mi.mCons_ap, Mi.kca_ok, Mi.kca_exc, Mi.kcb_ok, Mi.kcb_exc, Mi.mNil_ap, Mi.mC_ap, Mi.mLst_ap, Mi.mTup_ap, Mi.kLst_ok, Mi.kTup_ok, Mi.mVar_ap, Mi.kV_some, Mi.mFrz_ap, Mi.kF_some, Mi.mMove_ap, Mi.kM_some, Mi.at0, Mi.atS, Mi.set0, Mi.setS, Mi.mT_ap, Mi.kT_ok, Mi.kT_exc, Mi.mNotT_ap, Mi.kN_ok, Mi.kN_exc, Mi.mAndT_ap, Mi.kA_ok, Mi.kA_exc, Mi.mOrT_ap, Mi.kO_ok, Mi.kO_exc, Mi.mAndV_ap, Mi.kAV_ok, Mi.mOrV_ap, Mi.kOV_ok, Mi.mIf_ap, Mi.kIf_ok, Mi.mChain_ap, Mi.kCh_ok, Mi.kCh1_ok, Mi.kCh2_ok, Mi.mSeq_ap, Mi.kS_nx, Mi.kS_rt, Mi.kS_exc, Mi.kS_bk, Mi.kS_ct, Mi.mNext_ap, Mi.mDrop_ap, Mi.kD_ok, Mi.kD_exc, Mi.mRet_ap, Mi.kR_ok, Mi.kR_exc, Mi.mRetN_ap, Mi.mIfS_ap, Mi.kI_ok, Mi.kI_exc, Mi.mAsg_ap, Mi.kG_ok, Mi.kG_exc, Mi.kG2_some, Mi.mgName_ap, Mi.mgTup_ap, Mi.mgCons_ap, Mi.kgs_some, Mi.mgNil_ap, Mi.mPar_ap, Mi.kP_ok, Mi.mPar3_ap, Mi.kP3_ok, Mi.ownAt_ap, Mi.kw_own, Mi.mSlotIx_ap, Mi.kX_some, Mi.kX2_ok, Mi.kX3_some, Mi.mCall_ap, Mi.kc_ok, Mi.kf_ok, Mi.kf_exc, Mi.mCallO_ap, Mi.kq_some, Mi.kq2_ok, Mi.kq3_some, Mi.kq4_ok, Mi.mSetIx_ap, Mi.ky_ok, Mi.ky2_some, Mi.ky3_ok, Mi.ky4_some, Mi.mItL_ap, Mi.kIL_ok, Mi.kRs_some, Mi.mItT_ap, Mi.kIT_ok, Mi.mRng1_ap, Mi.kr1_ok, Mi.mRng2_ap, Mi.kr2_ok, Mi.mFor_ap, Mi.kFo_ok, Mi.mLoop_nil, Mi.kl1_some, Mi.kl2_nx, Mi.kl2_ct, Mi.kl2_bk, Mi.kl2_rt, Mi.kl2_exc, Mi.mLc_ap, Mi.kLc_ok, Mi.lc_nil, Mi.kz1_some, Mi.kz2_ok, Mi.kz3_ok, Mi.mYes_ap, Mi.mAug_ap, Mi.kU_some, Mi.kU2_int, Mi.mTry_ap, Mi.kTr_nx, Mi.kTr_rt, Mi.mMeth_ap, Mi.kMe_lst, Mi.kMe_own, Mi.mAppend_ap, Mi.kAp_some, Mi.kAp2_ok, Mi.kAp3_some, Mi.dAdd_int, Mi.dAdd_str, Mi.dAdd_tup, Mi.dAdd_ll, Mi.dAdd_lo, Mi.dAdd_ol, Mi.dAdd_oo, Mi.dSub_int, Mi.dMul_int, Mi.dMod_int, Mi.dFdiv_int, Mi.dPow_int, Mi.dNeg_int, Mi.dDivmod_int, Mi.dGt_int, Mi.dGe_int, Mi.dLe_int, Mi.dLtI_int, Mi.dLt_int, Mi.dEq_int, Mi.dNe_int, Mi.dMax2_int, Mi.dMin2_int, Mi.fn1_ap, Mi.fn2_ap, Mi.dLen_tup, Mi.dLen_lst, Mi.dLen_cst, Mi.dLen_own, Mi.fnM_ap, Mi.kfn_nx, Mi.kfn_rt, Mi.kfn_exc, Mi.fnO_ap, Mi.kfo_nx, Mi.kfo_rt, Mi.env0, Mi.envN, Mi.envS, Mi.wipeN, Mi.wipeS, Mi.lit_own, Mi.lit_lst, Mi.lit_cst, Mi.ix_own, Mi.ix_lst, Mi.ix_cst, Mi.ix_tup, Mi.dix_own, Mi.dix_lst, Mi.dix_cst, Mi.dix_tup, Mi.rng0, Mi.toL, Mi.end_lawL, Mi.btw_int, Mi.btw_bl, Mi.btw_non, Mi.btw_str, Mi.is_non_int, Mi.is_bl_int, Mi.is_int_int, Mi.is_str_int, Mi.is_tup_int, Mi.is_lst_int, Mi.is_cst_int, Mi.is_own_int, Mi.is_non_bool, Mi.is_bl_bool, Mi.is_int_bool, Mi.is_str_bool, Mi.is_tup_bool, Mi.is_lst_bool, Mi.is_cst_bool, Mi.is_own_bool, Mi.is_non_tuple, Mi.is_bl_tuple, Mi.is_int_tuple, Mi.is_str_tuple, Mi.is_tup_tuple, Mi.is_lst_tuple, Mi.is_cst_tuple, Mi.is_own_tuple, Mi.is_non_list, Mi.is_bl_list, Mi.is_int_list, Mi.is_str_list, Mi.is_tup_list, Mi.is_lst_list, Mi.is_cst_list, Mi.is_own_list, Mi.is_non_str, Mi.is_bl_str, Mi.is_int_str, Mi.is_str_str, Mi.is_tup_str, Mi.is_lst_str, Mi.is_cst_str, Mi.is_own_str, Mi.cast_lit, Mi.mPart_ap, Mi.kPt_ok, Mi.mNoPart_ap, Mi.mSl_ap, Mi.kSl1_ok, Mi.kSl2_ok, Mi.kSl3_ok, Mi.dSl_tup, Mi.dSl_lst, Mi.dSl_cst, Mi.mZip_ap, Mi.kZ_tup, Mi.kZ_lst, Mi.mPick_ap, Mi.kPk_ok, Mi.kPk2_some, Mi.at_0, Mi.at_1, Mi.at_2, Mi.at_3, Mi.isT_non, Mi.isT_bl, Mi.isT_int, Mi.isT_str, Mi.isT_tup, Mi.isT_lst, Mi.isT_cst, Mi.isT_own, Mi.dInt_bl, Mi.dIs_f_non, Mi.dIs_t_non, Mi.dIs_f_bl, Mi.dIs_t_bl, Mi.dIs_f_int, Mi.dIs_t_int, Mi.dIs_f_str, Mi.dIs_t_str, Mi.dIs_f_tup, Mi.dIs_t_tup, Mi.dIs_f_lst, Mi.dIs_t_lst, Mi.dIs_f_own, Mi.dIs_t_own, Mi.dIs_f_cst, Mi.dIs_t_cst, Mi.mLR1_ap, Mi.kLR1_ok, Mi.mLR2_ap, Mi.kLR2_ok, Mi.kLR2b_ok, Mi.mCallB_ap, Mi.kcB_some, Mi.kcB1_ok, Mi.kcB2_some, Mi.kcB3_bl, Mi.kcB3_exc, Mi.mExtend_ap, Mi.kEx_some, Mi.kEx2_ok, Mi.kEx3_some, Mi.dNotIn2, Mi.dIn2, Mi.dIsB_tt, Mi.dIsB_ft, Mi.dNotB_tt, Mi.dNotB_ft, D.frz, frzs, D.plain, plains, Bool.and_self, Bool.and_true, Bool.true_and, Bool.and_false, Bool.false_and, List.length_cons, List.length_nil, List.length_set, Nat.reduceAdd, Nat.zero_add, Nat.reduceLT, Nat.reduceLeDiff, sizeLine_eq, if_true, if_false, Bool.not_true, Bool.not_false, Bool.false_eq_true, decide_true, decide_false, and_self, and_true, true_and, List.cons_append, List.nil_append, Option.map_some, Option.bind_some, Int.reduceToNat, Int.reducePow, Int.reduceNeg, Int.reduceEq, Int.reduceLT, Int.reduceLE, Int.reduceAdd, Int.reduceSub, Int.reduceMul, eq_self, Mi.dat, not_true_eq_false, not_false_eq_true, Bool.or_self, Bool.or_true, Bool.or_false, Bool.false_or, Bool.true_or, false_and, and_false, true_or, or_true, false_or, or_false, ho, hr, c1, c2, cc, hl, oftL, fewL, List.append_nil, dNotIn2, b0', b0, bk', bk, fc, z0]
            simp only [List.append_assoc]
  · rw [if_neg e] at hr ⊢
    rcases oc with rfl | ⟨f, g, rfl, f0, f1, g0, g1'⟩
    · by_cases cc : k * (k - a - 1) = (n - k - 1) * b
      · simp -implicitDefEqProofs only [Mi.kof_some, Mi.kof_none, Mi.mOp1_ap, Mi.k1_ok, Mi.k1_exc, Mi.mOp2_ap, Mi.k2a_ok, Mi.k2a_exc, Mi.k2b_ok, Mi.k2b_exc, Mi.mOpL_ap, Mi.kL_ok, Mi.kL_exc, Mi.mCons_ap, Mi.kca_ok, Mi.kca_exc, Mi.kcb_ok, Mi.kcb_exc, Mi.mNil_ap, Mi.mC_ap, Mi.mLst_ap, Mi.mTup_ap, Mi.kLst_ok, Mi.kTup_ok, Mi.mVar_ap, Mi.kV_some, Mi.mFrz_ap, Mi.kF_some, Mi.mMove_ap, Mi.kM_some, Mi.at0, Mi.atS, Mi.set0, Mi.setS, Mi.mT_ap, Mi.kT_ok, Mi.kT_exc, Mi.mNotT_ap, Mi.kN_ok, Mi.kN_exc, Mi.mAndT_ap, Mi.kA_ok, Mi.kA_exc, Mi.mOrT_ap, Mi.kO_ok, Mi.kO_exc, Mi.mAndV_ap, Mi.kAV_ok, Mi.mOrV_ap, Mi.kOV_ok, Mi.mIf_ap, Mi.kIf_ok, Mi.mChain_ap, Mi.kCh_ok, Mi.kCh1_ok, Mi.kCh2_ok, Mi.mSeq_ap, Mi.kS_nx, Mi.kS_rt, Mi.kS_exc, Mi.kS_bk, Mi.kS_ct, Mi.mNext_ap, Mi.mDrop_ap, Mi.kD_ok, Mi.kD_exc, Mi.mRet_ap, Mi.kR_ok, Mi.kR_exc, Mi.mRetN_ap, Mi.mIfS_ap, Mi.kI_ok, Mi.kI_exc, Mi.mAsg_ap, Mi.kG_ok, Mi.kG_exc, Mi.kG2_some, Mi.mgName_ap, Mi.mgTup_ap, Mi.mgCons_ap, Mi.kgs_some, Mi.mgNil_ap, Mi.mPar_ap, Mi.kP_ok, Mi.mPar3_ap, Mi.kP3_ok, Mi.ownAt_ap, Mi.kw_own, Mi.mSlotIx_ap, Mi.kX_some, Mi.kX2_ok, Mi.kX3_some, Mi.mCall_ap, Mi.kc_ok, Mi.kf_ok, Mi.kf_exc, Mi.mCallO_ap, Mi.kq_some, Mi.kq2_ok, Mi.kq3_some, Mi.kq4_ok, Mi.mSetIx_ap, Mi.ky_ok, Mi.ky2_some, Mi.ky3_ok, Mi.ky4_some, Mi.mItL_ap, Mi.kIL_ok, Mi.kRs_some, Mi.mItT_ap, Mi.kIT_ok, Mi.mRng1_ap, Mi.kr1_ok, Mi.mRng2_ap, Mi.kr2_ok, Mi.mFor_ap, Mi.kFo_ok, Mi.mLoop_nil, Mi.kl1_some, Mi.kl2_nx, Mi.kl2_ct, Mi.kl2_bk, Mi.kl2_rt, Mi.kl2_exc, Mi.mLc_ap, Mi.kLc_ok, Mi.lc_nil, Mi.kz1_some, Mi.kz2_ok, Mi.kz3_ok, Mi.mYes_ap, Mi.mAug_ap, Mi.kU_some, Mi.kU2_int, Mi.mTry_ap, Mi.kTr_nx, Mi.kTr_rt, Mi.mMeth_ap, Mi.kMe_lst, Mi.kMe_own, Mi.mAppend_ap, Mi.kAp_some, Mi.kAp2_ok, Mi.kAp3_some, Mi.dAdd_int, Mi.dAdd_str, Mi.dAdd_tup, Mi.dAdd_ll, Mi.dAdd_lo, Mi.dAdd_ol, Mi.dAdd_oo, Mi.dSub_int, Mi.dMul_int, Mi.dMod_int, Mi.dFdiv_int, Mi.dPow_int, Mi.dNeg_int, Mi.dDivmod_int, Mi.dGt_int, Mi.dGe_int, Mi.dLe_int, Mi.dLtI_int, Mi.dLt_int, Mi.dEq_int, Mi.dNe_int, Mi.dMax2_int, Mi.dMin2_int, Mi.fn1_ap, Mi.fn2_ap, Mi.dLen_tup, Mi.dLen_lst, Mi.dLen_cst, Mi.dLen_own, Mi.fnM_ap, Mi.kfn_nx, Mi.kfn_rt, Mi.kfn_exc, Mi.fnO_ap, Mi.kfo_nx, Mi.kfo_rt, Mi.env0, Mi.envN, Mi.envS, Mi.wipeN, Mi.wipeS, Mi.lit_own, Mi.lit_lst, Mi.lit_cst, Mi.ix_own, Mi.ix_lst, Mi.ix_cst, Mi.ix_tup, Mi.dix_own, Mi.dix_lst, Mi.dix_cst, Mi.dix_tup, Mi.rng0, Mi.toL, Mi.end_lawL, Mi.btw_int, Mi.btw_bl, Mi.btw_non, Mi.btw_str, Mi.is_non_int, Mi.is_bl_int, Mi.is_int_int, Mi.is_str_int, Mi.is_tup_int, Mi.is_lst_int, Mi.is_cst_int, Mi.is_own_int, Mi.is_non_bool, Mi.is_bl_bool, Mi.is_int_bool, Mi.is_str_bool, Mi.is_tup_bool, Mi.is_lst_bool, Mi.is_cst_bool, Mi.is_own_bool, Mi.is_non_tuple, Mi.is_bl_tuple, Mi.is_int_tuple, Mi.is_str_tuple, Mi.is_tup_tuple, Mi.is_lst_tuple, Mi.is_cst_tuple, Mi.is_own_tuple, Mi.is_non_list, Mi.is_bl_list, Mi.is_int_list, Mi.is_str_list, Mi.is_tup_list, Mi.is_lst_list, Mi.is_cst_list, Mi.is_own_list, Mi.is_non_str, Mi.is_bl_str, Mi.is_int_str, Mi.is_str_str, Mi.is_tup_str, Mi.is_lst_str, Mi.is_cst_str, Mi.is_own_str, Mi.cast_lit, Mi.mPart_ap, Mi.kPt_ok, Mi.mNoPart_ap, Mi.mSl_ap, Mi.kSl1_ok, Mi.kSl2_ok, Mi.kSl3_ok, Mi.dSl_tup, Mi.dSl_lst, Mi.dSl_cst, Mi.mZip_ap, Mi.kZ_tup, Mi.kZ_lst, Mi.mPick_ap, Mi.kPk_ok, Mi.kPk2_some, Mi.at_0, Mi.at_1, Mi.at_2, Mi.at_3, Mi.isT_non, Mi.isT_bl, Mi.isT_int, Mi.isT_str, Mi.isT_tup, Mi.isT_lst, Mi.isT_cst, Mi.isT_own, Mi.dInt_bl, Mi.dIs_f_non, Mi.dIs_t_non, Mi.dIs_f_bl, Mi.dIs_t_bl, Mi.dIs_f_int, Mi.dIs_t_int, Mi.dIs_f_str, Mi.dIs_t_str, Mi.dIs_f_tup, Mi.dIs_t_tup, Mi.dIs_f_lst, Mi.dIs_t_lst, Mi.dIs_f_own, Mi.dIs_t_own, Mi.dIs_f_cst, Mi.dIs_t_cst, Mi.mLR1_ap, Mi.kLR1_ok, Mi.mLR2_ap, Mi.kLR2_ok, Mi.kLR2b_ok, Mi.mCallB_ap, Mi.kcB_some, Mi.kcB1_ok, Mi.kcB2_some, Mi.kcB3_bl, Mi.kcB3_exc, Mi.mExtend_ap, Mi.kEx_some, Mi.kEx2_ok, Mi.kEx3_some, Mi.dNotIn2, Mi.dIn2, Mi.dIsB_tt, Mi.dIsB_ft, Mi.dNotB_tt, Mi.dNotB_ft, D.frz, frzs, D.plain, plains, Bool.and_self, Bool.and_true, Bool.true_and, Bool.and_false, Bool.false_and, List.length_cons, List.length_nil, List.length_set, Nat.reduceAdd, Nat.zero_add, Nat.reduceLT, Nat.reduceLeDiff, sizeLine_eq, if_true, if_false, Bool.not_true, Bool.not_false, Bool.false_eq_true, decide_true, decide_false, and_self, and_true, true_and, List.cons_append, List.nil_append, Option.map_some, Option.bind_some, Int.reduceToNat, Int.reducePow, Int.reduceNeg, Int.reduceEq, Int.reduceLT, Int.reduceLE, Int.reduceAdd, Int.reduceSub, Int.reduceMul, eq_self, Mi.dat, not_true_eq_false, not_false_eq_true, Bool.or_self, Bool.or_true, Bool.or_false, Bool.false_or, Bool.true_or, false_and, and_false, true_or, or_true, false_or, or_false, ho, hr, c1, c2, cc, oftL, List.append_nil]
      · simp -implicitDefEqProofs only [Mi.kof_some, Mi.kof_none, Mi.mOp1_ap, Mi.k1_ok, Mi.k1_exc, Mi.mOp2_ap, Mi.k2a_ok, Mi.k2a_exc, Mi.k2b_ok, Mi.k2b_exc, Mi.mOpL_ap, Mi.kL_ok, Mi.kL_exc, Mi.mCons_ap, Mi.kca_ok, Mi.kca_exc, Mi.kcb_ok, Mi.kcb_exc, Mi.mNil_ap, Mi.mC_ap, Mi.mLst_ap, Mi.mTup_ap, Mi.kLst_ok, Mi.kTup_ok, Mi.mVar_ap, Mi.kV_some, Mi.mFrz_ap, Mi.kF_some, Mi.mMove_ap, Mi.kM_some, Mi.at0, Mi.atS, Mi.set0, Mi.setS, Mi.mT_ap, Mi.kT_ok, Mi.kT_exc, Mi.mNotT_ap, Mi.kN_ok, Mi.kN_exc, Mi.mAndT_ap, Mi.kA_ok, Mi.kA_exc, Mi.mOrT_ap, Mi.kO_ok, Mi.kO_exc, Mi.mAndV_ap, Mi.kAV_ok, Mi.mOrV_ap, Mi.kOV_ok, Mi.mIf_ap, Mi.kIf_ok, Mi.mChain_ap, Mi.kCh_ok, Mi.kCh1_ok, Mi.kCh2_ok, Mi.mSeq_ap, Mi.kS_nx, Mi.kS_rt, Mi.kS_exc, Mi.kS_bk, Mi.kS_ct, Mi.mNext_ap, Mi.mDrop_ap, Mi.kD_ok, Mi.kD_exc, Mi.mRet_ap, Mi.kR_ok, Mi.kR_exc, Mi.mRetN_ap, Mi.mIfS_ap, Mi.kI_ok, Mi.kI_exc, Mi.mAsg_ap, Mi.kG_ok, Mi.kG_exc, Mi.kG2_some, Mi.mgName_ap, Mi.mgTup_ap, Mi.mgCons_ap, Mi.kgs_some, Mi.mgNil_ap, Mi.mPar_ap, Mi.kP_ok, Mi.mPar3_ap, Mi.kP3_ok, Mi.ownAt_ap, Mi.kw_own, Mi.mSlotIx_ap, Mi.kX_some, Mi.kX2_ok, Mi.kX3_some, Mi.mCall_ap, Mi.kc_ok, Mi.kf_ok, Mi.kf_exc, Mi.mCallO_ap, Mi.kq_some, Mi.kq2_ok, Mi.kq3_some, Mi.kq4_ok, Mi.mSetIx_ap, Mi.ky_ok, Mi.ky2_some, Mi.ky3_ok, Mi.ky4_some, Mi.mItL_ap, Mi.kIL_ok, Mi.kRs_some, Mi.mItT_ap, Mi.kIT_ok, Mi.mRng1_ap, Mi.kr1_ok, Mi.mRng2_ap, Mi.kr2_ok, Mi.mFor_ap, Mi.kFo_ok, Mi.mLoop_nil, Mi.kl1_some, Mi.kl2_nx, Mi.kl2_ct, Mi.kl2_bk, Mi.kl2_rt, Mi.kl2_exc, Mi.mLc_ap, Mi.kLc_ok, Mi.lc_nil, Mi.kz1_some, Mi.kz2_ok, Mi.kz3_ok, Mi.mYes_ap, Mi.mAug_ap, Mi.kU_some, Mi.kU2_int, Mi.mTry_ap, Mi.kTr_nx, Mi.kTr_rt, Mi.mMeth_ap, Mi.kMe_lst, Mi.kMe_own, Mi.mAppend_ap, Mi.kAp_some, Mi.kAp2_ok, Mi.kAp3_some, Mi.dAdd_int, Mi.dAdd_str, Mi.dAdd_tup, Mi.dAdd_ll, Mi.dAdd_lo, Mi.dAdd_ol, Mi.dAdd_oo, Mi.dSub_int, Mi.dMul_int, Mi.dMod_int, Mi.dFdiv_int, Mi.dPow_int, Mi.dNeg_int, Mi.dDivmod_int, Mi.dGt_int, Mi.dGe_int, Mi.dLe_int, Mi.dLtI_int, Mi.dLt_int, Mi.dEq_int, Mi.dNe_int, Mi.dMax2_int, Mi.dMin2_int, Mi.fn1_ap, Mi.fn2_ap, Mi.dLen_tup, Mi.dLen_lst, Mi.dLen_cst, Mi.dLen_own, Mi.fnM_ap, Mi.kfn_nx, Mi.kfn_rt, Mi.kfn_exc, Mi.fnO_ap, Mi.kfo_nx, Mi.kfo_rt, Mi.env0, Mi.envN, Mi.envS, Mi.wipeN, Mi.wipeS, Mi.lit_own, Mi.lit_lst, Mi.lit_cst, Mi.ix_own, Mi.ix_lst, Mi.ix_cst, Mi.ix_tup, Mi.dix_own, Mi.dix_lst, Mi.dix_cst, Mi.dix_tup, Mi.rng0, Mi.toL, Mi.end_lawL, Mi.btw_int, Mi.btw_bl, Mi.btw_non, Mi.btw_str, Mi.is_non_int, Mi.is_bl_int, Mi.is_int_int, Mi.is_str_int, Mi.is_tup_int, Mi.is_lst_int, Mi.is_cst_int, Mi.is_own_int, Mi.is_non_bool, Mi.is_bl_bool, Mi.is_int_bool, Mi.is_str_bool, Mi.is_tup_bool, Mi.is_lst_bool, Mi.is_cst_bool, Mi.is_own_bool, Mi.is_non_tuple, Mi.is_bl_tuple, Mi.is_int_tuple, Mi.is_str_tuple, Mi.is_tup_tuple, Mi.is_lst_tuple, Mi.is_cst_tuple, Mi.is_own_tuple, Mi.is_non_list, Mi.is_bl_list, Mi.is_int_list, Mi.is_str_list, Mi.is_tup_list, Mi.is_lst_list, Mi.is_cst_list, Mi.is_own_list, Mi.is_non_str, Mi.is_bl_str, Mi.is_int_str, Mi.is_str_str, Mi.is_tup_str, Mi.is_lst_str, Mi.is_cst_str, Mi.is_own_str, Mi.cast_lit, Mi.mPart_ap, Mi.kPt_ok, Mi.mNoPart_ap, Mi.mSl_ap, Mi.kSl1_ok, Mi.kSl2_ok, Mi.kSl3_ok, Mi.dSl_tup, Mi.dSl_lst, Mi.dSl_cst, Mi.mZip_ap, Mi.kZ_tup, Mi.kZ_lst, Mi.mPick_ap, Mi.kPk_ok, Mi.kPk2_some, Mi.at_0, Mi.at_1, Mi.at_2, Mi.at_3, Mi.isT_non, Mi.isT_bl, Mi.isT_int, Mi.isT_str, Mi.isT_tup, Mi.isT_lst, Mi.isT_cst, Mi.isT_own, Mi.dInt_bl, Mi.dIs_f_non, Mi.dIs_t_non, Mi.dIs_f_bl, Mi.dIs_t_bl, Mi.dIs_f_int, Mi.dIs_t_int, Mi.dIs_f_str, Mi.dIs_t_str, Mi.dIs_f_tup, Mi.dIs_t_tup, Mi.dIs_f_lst, Mi.dIs_t_lst, Mi.dIs_f_own, Mi.dIs_t_own, Mi.dIs_f_cst, Mi.dIs_t_cst, Mi.mLR1_ap, Mi.kLR1_ok, Mi.mLR2_ap, Mi.kLR2_ok, Mi.kLR2b_ok, Mi.mCallB_ap, Mi.kcB_some, Mi.kcB1_ok, Mi.kcB2_some, Mi.kcB3_bl, Mi.kcB3_exc, Mi.mExtend_ap, Mi.kEx_some, Mi.kEx2_ok, Mi.kEx3_some, Mi.dNotIn2, Mi.dIn2, Mi.dIsB_tt, Mi.dIsB_ft, Mi.dNotB_tt, Mi.dNotB_ft, D.frz, frzs, D.plain, plains, Bool.and_self, Bool.and_true, Bool.true_and, Bool.and_false, Bool.false_and, List.length_cons, List.length_nil, List.length_set, Nat.reduceAdd, Nat.zero_add, Nat.reduceLT, Nat.reduceLeDiff, sizeLine_eq, if_true, if_false, Bool.not_true, Bool.not_false, Bool.false_eq_true, decide_true, decide_false, and_self, and_true, true_and, List.cons_append, List.nil_append, Option.map_some, Option.bind_some, Int.reduceToNat, Int.reducePow, Int.reduceNeg, Int.reduceEq, Int.reduceLT, Int.reduceLE, Int.reduceAdd, Int.reduceSub, Int.reduceMul, eq_self, Mi.dat, not_true_eq_false, not_false_eq_true, Bool.or_self, Bool.or_true, Bool.or_false, Bool.false_or, Bool.true_or, false_and, and_false, true_or, or_true, false_or, or_false, ho, hr, c1, c2, cc, oftL, List.append_nil]
    · by_cases cc : k * (k - a - 1) = (n - k - 1) * b
      · simp -implicitDefEqProofs only [Mi.kof_some, Mi.kof_none, Mi.mOp1_ap, Mi.k1_ok, Mi.k1_exc, Mi.mOp2_ap, Mi.k2a_ok, Mi.k2a_exc, Mi.k2b_ok, Mi.k2b_exc, Mi.mOpL_ap, Mi.kL_ok, Mi.kL_exc, Mi.mCons_ap, Mi.kca_ok, Mi.kca_exc, Mi.kcb_ok, Mi.kcb_exc, Mi.mNil_ap, Mi.mC_ap, Mi.mLst_ap, Mi.mTup_ap, Mi.kLst_ok, Mi.kTup_ok, Mi.mVar_ap, Mi.kV_some, Mi.mFrz_ap, Mi.kF_some, Mi.mMove_ap, Mi.kM_some, Mi.at0, Mi.atS, Mi.set0, Mi.setS, Mi.mT_ap, Mi.kT_ok, Mi.kT_exc, Mi.mNotT_ap, Mi.kN_ok, Mi.kN_exc, Mi.mAndT_ap, Mi.kA_ok, Mi.kA_exc, Mi.mOrT_ap, Mi.kO_ok, Mi.kO_exc, Mi.mAndV_ap, Mi.kAV_ok, Mi.mOrV_ap, Mi.kOV_ok, Mi.mIf_ap, Mi.kIf_ok, Mi.mChain_ap, Mi.kCh_ok, Mi.kCh1_ok, Mi.kCh2_ok, Mi.mSeq_ap, Mi.kS_nx, Mi.kS_rt, Mi.kS_exc, Mi.kS_bk, Mi.kS_ct, Mi.mNext_ap, Mi.mDrop_ap, Mi.kD_ok, Mi.kD_exc, Mi.mRet_ap, Mi.kR_ok, Mi.kR_exc, Mi.mRetN_ap, Mi.mIfS_ap, Mi.kI_ok, Mi.kI_exc, Mi.mAsg_ap, Mi.kG_ok, Mi.kG_exc, Mi.kG2_some, Mi.mgName_ap, Mi.mgTup_ap, Mi.mgCons_ap, Mi.kgs_some, Mi.mgNil_ap, Mi.mPar_ap, Mi.kP_ok, Mi.mPar3_ap, Mi.kP3_ok, Mi.ownAt_ap, Mi.kw_own, Mi.mSlotIx_ap, Mi.kX_some, Mi.kX2_ok, Mi.kX3_some, Mi.mCall_ap, Mi.kc_ok, Mi.kf_ok, Mi.kf_exc, Mi.mCallO_ap, Mi.kq_some, Mi.kq2_ok, Mi.kq3_some, Mi.kq4_ok, Mi.mSetIx_ap, Mi.ky_ok, Mi.ky2_some, Mi.ky3_ok, Mi.ky4_some, Mi.mItL_ap, Mi.kIL_ok, Mi.kRs_some, Mi.mItT_ap, Mi.kIT_ok, Mi.mRng1_ap, Mi.kr1_ok, Mi.mRng2_ap, Mi.kr2_ok, Mi.mFor_ap, Mi.kFo_ok, Mi.mLoop_nil, Mi.kl1_some, Mi.kl2_nx, Mi.kl2_ct, Mi.kl2_bk, Mi.kl2_rt, Mi.kl2_exc, Mi.mLc_ap, Mi.kLc_ok, Mi.lc_nil, Mi.kz1_some, Mi.kz2_ok, Mi.kz3_ok, Mi.mYes_ap, Mi.mAug_ap, Mi.kU_some, Mi.kU2_int, Mi.mTry_ap, Mi.kTr_nx, Mi.kTr_rt, Mi.mMeth_ap, Mi.kMe_lst, Mi.kMe_own, Mi.mAppend_ap, Mi.kAp_some, Mi.kAp2_ok, Mi.kAp3_some, Mi.dAdd_int, Mi.dAdd_str, Mi.dAdd_tup, Mi.dAdd_ll, Mi.dAdd_lo, Mi.dAdd_ol, Mi.dAdd_oo, Mi.dSub_int, Mi.dMul_int, Mi.dMod_int, Mi.dFdiv_int, Mi.dPow_int, Mi.dNeg_int, Mi.dDivmod_int, Mi.dGt_int, Mi.dGe_int, Mi.dLe_int, Mi.dLtI_int, Mi.dLt_int, Mi.dEq_int, Mi.dNe_int, Mi.dMax2_int, Mi.dMin2_int, Mi.fn1_ap, Mi.fn2_ap, Mi.dLen_tup, Mi.dLen_lst, Mi.dLen_cst, Mi.dLen_own, Mi.fnM_ap, Mi.kfn_nx, Mi.kfn_rt, Mi.kfn_exc, Mi.fnO_ap, Mi.kfo_nx, Mi.kfo_rt, Mi.env0, Mi.envN, Mi.envS, Mi.wipeN, Mi.wipeS, Mi.lit_own, Mi.lit_lst, Mi.lit_cst, Mi.ix_own, Mi.ix_lst, Mi.ix_cst, Mi.ix_tup, Mi.dix_own, Mi.dix_lst, Mi.dix_cst, Mi.dix_tup, Mi.rng0, Mi.toL, Mi.end_lawL, Mi.btw_int, Mi.btw_bl, Mi.btw_non, Mi.btw_str, Mi.is_non_int, Mi.is_bl_int, Mi.is_int_int, Mi.is_str_int, Mi.is_tup_int, Mi.is_lst_int, Mi.is_cst_int, Mi.is_own_int, Mi.is_non_bool, Mi.is_bl_bool, Mi.is_int_bool, Mi.is_str_bool, Mi.is_tup_bool, Mi.is_lst_bool, Mi.is_cst_bool, Mi.is_own_bool, Mi.is_non_tuple, Mi.is_bl_tuple, Mi.is_int_tuple, Mi.is_str_tuple, Mi.is_tup_tuple, Mi.is_lst_tuple, Mi.is_cst_tuple, Mi.is_own_tuple, Mi.is_non_list, Mi.is_bl_list, Mi.is_int_list, Mi.is_str_list, Mi.is_tup_list, Mi.is_lst_list, Mi.is_cst_list, Mi.is_own_list, Mi.is_non_str, Mi.is_bl_str, Mi.is_int_str, Mi.is_str_str, Mi.is_tup_str, Mi.is_lst_str, Mi.is_cst_str, Mi.is_own_str, Mi.cast_lit, Mi.mPart_ap, Mi.kPt_ok, Mi.mNoPart_ap, Mi.mSl_ap, Mi.kSl1_ok, Mi.kSl2_ok, Mi.kSl3_ok, Mi.dSl_tup, Mi.dSl_lst, Mi.dSl_cst, Mi.mZip_ap, Mi.kZ_tup, Mi.kZ_lst, Mi.mPick_ap, Mi.kPk_ok, Mi.kPk2_some, Mi.at_0, Mi.at_1, Mi.at_2, Mi.at_3, Mi.isT_non, Mi.isT_bl, Mi.isT_int, Mi.isT_str, Mi.isT_tup, Mi.isT_lst, Mi.isT_cst, Mi.isT_own, Mi.dInt_bl, Mi.dIs_f_non, Mi.dIs_t_non, Mi.dIs_f_bl, Mi.dIs_t_bl, Mi.dIs_f_int, Mi.dIs_t_int, Mi.dIs_f_str, Mi.dIs_t_str, Mi.dIs_f_tup, Mi.dIs_t_tup, Mi.dIs_f_lst, Mi.dIs_t_lst, Mi.dIs_f_own, Mi.dIs_t_own, Mi.dIs_f_cst, Mi.dIs_t_cst, Mi.mLR1_ap, Mi.kLR1_ok, Mi.mLR2_ap, Mi.kLR2_ok, Mi.kLR2b_ok, Mi.mCallB_ap, Mi.kcB_some, Mi.kcB1_ok, Mi.kcB2_some, Mi.kcB3_bl, Mi.kcB3_exc, Mi.mExtend_ap, Mi.kEx_some, Mi.kEx2_ok, Mi.kEx3_some, Mi.dNotIn2, Mi.dIn2, Mi.dIsB_tt, Mi.dIsB_ft, Mi.dNotB_tt, Mi.dNotB_ft, D.frz, frzs, D.plain, plains, Bool.and_self, Bool.and_true, Bool.true_and, Bool.and_false, Bool.false_and, List.length_cons, List.length_nil, List.length_set, Nat.reduceAdd, Nat.zero_add, Nat.reduceLT, Nat.reduceLeDiff, sizeLine_eq, if_true, if_false, Bool.not_true, Bool.not_false, Bool.false_eq_true, decide_true, decide_false, and_self, and_true, true_and, List.cons_append, List.nil_append, Option.map_some, Option.bind_some, Int.reduceToNat, Int.reducePow, Int.reduceNeg, Int.reduceEq, Int.reduceLT, Int.reduceLE, Int.reduceAdd, Int.reduceSub, Int.reduceMul, eq_self, Mi.dat, not_true_eq_false, not_false_eq_true, Bool.or_self, Bool.or_true, Bool.or_false, Bool.false_or, Bool.true_or, false_and, and_false, true_or, or_true, false_or, or_false, ho, hr, c1, c2, cc, oftL, List.append_nil]
      · simp -implicitDefEqProofs only [Mi.kof_some, Mi.kof_none, Mi.mOp1_ap, Mi.k1_ok, Mi.k1_exc, Mi.mOp2_ap, Mi.k2a_ok, Mi.k2a_exc, Mi.k2b_ok, Mi.k2b_exc, Mi.mOpL_ap, Mi.kL_ok, Mi.kL_exc, Mi.mCons_ap, Mi.kca_ok, Mi.kca_exc, Mi.kcb_ok, Mi.kcb_exc, Mi.mNil_ap, Mi.mC_ap, Mi.mLst_ap, Mi.mTup_ap, Mi.kLst_ok, Mi.kTup_ok, Mi.mVar_ap, Mi.kV_some, Mi.mFrz_ap, Mi.kF_some, Mi.mMove_ap, Mi.kM_some, Mi.at0, Mi.atS, Mi.set0, Mi.setS, Mi.mT_ap, Mi.kT_ok, Mi.kT_exc, Mi.mNotT_ap, Mi.kN_ok, Mi.kN_exc, Mi.mAndT_ap, Mi.kA_ok, Mi.kA_exc, Mi.mOrT_ap, Mi.kO_ok, Mi.kO_exc, Mi.mAndV_ap, Mi.kAV_ok, Mi.mOrV_ap, Mi.kOV_ok, Mi.mIf_ap, Mi.kIf_ok, Mi.mChain_ap, Mi.kCh_ok, Mi.kCh1_ok, Mi.kCh2_ok, Mi.mSeq_ap, Mi.kS_nx, Mi.kS_rt, Mi.kS_exc, Mi.kS_bk, Mi.kS_ct, Mi.mNext_ap, Mi.mDrop_ap, Mi.kD_ok, Mi.kD_exc, Mi.mRet_ap, Mi.kR_ok, Mi.kR_exc, Mi.mRetN_ap, Mi.mIfS_ap, Mi.kI_ok, Mi.kI_exc, Mi.mAsg_ap, Mi.kG_ok, Mi.kG_exc, Mi.kG2_some, Mi.mgName_ap, Mi.mgTup_ap, Mi.mgCons_ap, Mi.kgs_some, Mi.mgNil_ap, Mi.mPar_ap, Mi.kP_ok, Mi.mPar3_ap, Mi.kP3_ok, Mi.ownAt_ap, Mi.kw_own, Mi.mSlotIx_ap, Mi.kX_some, Mi.kX2_ok, Mi.kX3_some, Mi.mCall_ap, Mi.kc_ok, Mi.kf_ok, Mi.kf_exc, Mi.mCallO_ap, Mi.kq_some, Mi.kq2_ok, Mi.kq3_some, Mi.kq4_ok, Mi.mSetIx_ap, Mi.ky_ok, Mi.ky2_some, Mi.ky3_ok, Mi.ky4_some, Mi.mItL_ap, Mi.kIL_ok, Mi.kRs_some, Mi.mItT_ap, Mi.kIT_ok, Mi.mRng1_ap, Mi.kr1_ok, Mi.mRng2_ap, Mi.kr2_ok, Mi.mFor_ap, Mi.kFo_ok, Mi.mLoop_nil, Mi.kl1_some, Mi.kl2_nx, Mi.kl2_ct, Mi.kl2_bk, Mi.kl2_rt, Mi.kl2_exc, Mi.mLc_ap, Mi.kLc_ok, Mi.lc_nil, Mi.kz1_some, Mi.kz2_ok, Mi.kz3_ok, Mi.mYes_ap, Mi.mAug_ap, Mi.kU_some, Mi.kU2_int, Mi.mTry_ap, Mi.kTr_nx, Mi.kTr_rt, Mi.mMeth_ap, Mi.kMe_lst, Mi.kMe_own, Mi.mAppend_ap, Mi.kAp_some, Mi.kAp2_ok, Mi.kAp3_some, Mi.dAdd_int, Mi.dAdd_str, Mi.dAdd_tup, Mi.dAdd_ll, Mi.dAdd_lo, Mi.dAdd_ol, Mi.dAdd_oo, Mi.dSub_int, Mi.dMul_int, Mi.dMod_int, Mi.dFdiv_int, Mi.dPow_int, Mi.dNeg_int, Mi.dDivmod_int, Mi.dGt_int, Mi.dGe_int, Mi.dLe_int, Mi.dLtI_int, Mi.dLt_int, Mi.dEq_int, Mi.dNe_int, Mi.dMax2_int, Mi.dMin2_int, Mi.fn1_ap, Mi.fn2_ap, Mi.dLen_tup, Mi.dLen_lst, Mi.dLen_cst, Mi.dLen_own, Mi.fnM_ap, Mi.kfn_nx, Mi.kfn_rt, Mi.kfn_exc, Mi.fnO_ap, Mi.kfo_nx, Mi.kfo_rt, Mi.env0, Mi.envN, Mi.envS, Mi.wipeN, Mi.wipeS, Mi.lit_own, Mi.lit_lst, Mi.lit_cst, Mi.ix_own, Mi.ix_lst, Mi.ix_cst, Mi.ix_tup, Mi.dix_own, Mi.dix_lst, Mi.dix_cst, Mi.dix_tup, Mi.rng0, Mi.toL, Mi.end_lawL, Mi.btw_int, Mi.btw_bl, Mi.btw_non, Mi.btw_str, Mi.is_non_int, Mi.is_bl_int, Mi.is_int_int, Mi.is_str_int, Mi.is_tup_int, Mi.is_lst_int, Mi.is_cst_int, Mi.is_own_int, Mi.is_non_bool, Mi.is_bl_bool, Mi.is_int_bool, Mi.is_str_bool, Mi.is_tup_bool, Mi.is_lst_bool, Mi.is_cst_bool, Mi.is_own_bool, Mi.is_non_tuple, Mi.is_bl_tuple, Mi.is_int_tuple, Mi.is_str_tuple, Mi.is_tup_tuple, Mi.is_lst_tuple, Mi.is_cst_tuple, Mi.is_own_tuple, Mi.is_non_list, Mi.is_bl_list, Mi.is_int_list, Mi.is_str_list, Mi.is_tup_list, Mi.is_lst_list, Mi.is_cst_list, Mi.is_own_list, Mi.is_non_str, Mi.is_bl_str, Mi.is_int_str, Mi.is_str_str, Mi.is_tup_str, Mi.is_lst_str, Mi.is_cst_str, Mi.is_own_str, Mi.cast_lit, Mi.mPart_ap, Mi.kPt_ok, Mi.mNoPart_ap, Mi.mSl_ap, Mi.kSl1_ok, Mi.kSl2_ok, Mi.kSl3_ok, Mi.dSl_tup, Mi.dSl_lst, Mi.dSl_cst, Mi.mZip_ap, Mi.kZ_tup, Mi.kZ_lst, Mi.mPick_ap, Mi.kPk_ok, Mi.kPk2_some, Mi.at_0, Mi.at_1, Mi.at_2, Mi.at_3, Mi.isT_non, Mi.isT_bl, Mi.isT_int, Mi.isT_str, Mi.isT_tup, Mi.isT_lst, Mi.isT_cst, Mi.isT_own, Mi.dInt_bl, Mi.dIs_f_non, Mi.dIs_t_non, Mi.dIs_f_bl, Mi.dIs_t_bl, Mi.dIs_f_int, Mi.dIs_t_int, Mi.dIs_f_str, Mi.dIs_t_str, Mi.dIs_f_tup, Mi.dIs_t_tup, Mi.dIs_f_lst, Mi.dIs_t_lst, Mi.dIs_f_own, Mi.dIs_t_own, Mi.dIs_f_cst, Mi.dIs_t_cst, Mi.mLR1_ap, Mi.kLR1_ok, Mi.mLR2_ap, Mi.kLR2_ok, Mi.kLR2b_ok, Mi.mCallB_ap, Mi.kcB_some, Mi.kcB1_ok, Mi.kcB2_some, Mi.kcB3_bl, Mi.kcB3_exc, Mi.mExtend_ap, Mi.kEx_some, Mi.kEx2_ok, Mi.kEx3_some, Mi.dNotIn2, Mi.dIn2, Mi.dIsB_tt, Mi.dIsB_ft, Mi.dNotB_tt, Mi.dNotB_ft, D.frz, frzs, D.plain, plains, Bool.and_self, Bool.and_true, Bool.true_and, Bool.and_false, Bool.false_and, List.length_cons, List.length_nil, List.length_set, Nat.reduceAdd, Nat.zero_add, Nat.reduceLT, Nat.reduceLeDiff, sizeLine_eq, if_true, if_false, Bool.not_true, Bool.not_false, Bool.false_eq_true, decide_true, decide_false, and_self, and_true, true_and, List.cons_append, List.nil_append, Option.map_some, Option.bind_some, Int.reduceToNat, Int.reducePow, Int.reduceNeg, Int.reduceEq, Int.reduceLT, Int.reduceLE, Int.reduceAdd, Int.reduceSub, Int.reduceMul, eq_self, Mi.dat, not_true_eq_false, not_false_eq_true, Bool.or_self, Bool.or_true, Bool.or_false, Bool.false_or, Bool.true_or, false_and, and_false, true_or, or_true, false_or, or_false, ho, hr, c1, c2, cc, oftL, List.append_nil]
end Lw
namespace Lw
open PySem PySem.Spec PyProof.Rows L2 Mi
/-- data that == can look at, not deep -/
def Lay (x : D) : Prop := ∃ p, toPy x = some p ∧ p.canLay0 = true ∧ p.depth ≤ 10
theorem lay_list : ∀ xs : List D, (∀ x ∈ xs, Lay x) → ∃ ps, toPys xs = some ps ∧ PyData.canLayAll0 ps = true ∧ PyData.depthAll ps ≤ 10 ∧ ps.length = xs.length
  | [], _ => ⟨[], rfl, rfl, by unfold PyData.depthAll; decide, rfl⟩
  | x :: xs, h => by
    obtain ⟨p, h1, h2, h3⟩ := h x List.mem_cons_self
    obtain ⟨ps, g1, g2, g3, g4⟩ := lay_list xs fun y hy => h y (List.mem_cons_of_mem _ hy)
    refine ⟨p :: ps, ?_, ?_, ?_, by simp [g4]⟩
    · show (toPy x).bind (fun p => (toPys xs).map (p :: ·)) = _
      rw [h1, g1]; rfl
    · unfold PyData.canLayAll0; rw [h2, g2]; rfl
    · unfold PyData.depthAll; omega
theorem eq_nil {xs : List D} (h : ∀ x ∈ xs, Lay x) : dEq (.own xs) (.own []) = some (.bl (decide (xs = []))) := by
  obtain ⟨ps, g1, g2, g3, g4⟩ := lay_list xs h
  have s : SeqAt.shaped (.list ps) = true := by
    unfold SeqAt.shaped PyData.canLay0 PyData.depth
    rw [g2]
    simp; omega
  have s0 : SeqAt.shaped (.list []) = true := by rfl
  show ((((toPys xs).map PyData.list).bind fun p => ((toPys []).map PyData.list).bind fun q => if (SeqAt.shaped p && SeqAt.shaped q) = true then some (PyData.eqv p q) else none).map D.bl) = _
  rw [g1]
  show ((if (SeqAt.shaped (.list ps) && SeqAt.shaped (.list [])) = true then some (PyData.eqv (.list ps) (.list [])) else none).map D.bl) = _
  rw [s, s0]
  simp only [Bool.and_self, if_true, Option.map_some]
  unfold PyData.eqv
  cases ps with
  | nil =>
    obtain rfl : xs = [] := List.eq_nil_of_length_eq_zero g4.symm
    rfl
  | cons p ps =>
    cases xs with
    | nil => cases g4
    | cons x xs => rfl
theorem eq_nilL {xs : List D} (h : ∀ x ∈ xs, Lay x) : dEq (.lst xs) (.own []) = some (.bl (decide (xs = []))) := eq_nil h
theorem lay_int {i : Int} : Lay (.int i) := ⟨.int i, rfl, rfl, by simp [PyData.depth]⟩
theorem lay_tup {xs : List D} {ps : List PyData} (h : toPys xs = some ps) (h2 : PyData.canLayAll0 ps = true) (h3 : PyData.depthAll ps ≤ 8) : Lay (.tup xs) := by
  refine ⟨.tuple ps, ?_, ?_, ?_⟩
  · show (toPys xs).map PyData.tuple = _
    rw [h]; rfl
  · unfold PyData.canLay0; exact h2
  · unfold PyData.depth; omega
theorem strOk_of {x : Str} (h : PyData.strOk x = true) : (PyData.str x).canLay0 = true := by unfold PyData.canLay0; exact h
theorem lay3 {w : Str} {x y : Int} (h : PyData.strOk w = true) : Lay (.tup [.str w, .int x, .int y]) := by
  refine lay_tup (ps := [.str w, .int x, .int y]) rfl ?_ ?_
  · simp [PyData.canLayAll0, PyData.canLay0, h]
  · simp [PyData.depthAll, PyData.depth]
theorem lay1 {w : Str} (h : PyData.strOk w = true) : Lay (.tup [.str w]) := by
  refine lay_tup (ps := [.str w]) rfl ?_ ?_
  · simp [PyData.canLayAll0, PyData.canLay0, h]
  · simp [PyData.depthAll, PyData.depth]
theorem lay_gD {w : Str} {x y : Int} (h : PyData.strOk w = true) : ∀ z ∈ gD w x y, Lay z := by
  unfold gD
  split
  · intro z hz; obtain rfl := List.mem_singleton.mp hz; exact lay3 h
  · intro z hz; cases hz
theorem lay_few {x y : Int} : ∀ z ∈ fewD x y, Lay z := by
  unfold fewD
  split
  · intro z hz; obtain rfl := List.mem_singleton.mp hz; exact lay3 (by decide +kernel)
  · intro z hz; cases hz
theorem lay_app {xs ys : List D} (h : ∀ z ∈ xs, Lay z) (g : ∀ z ∈ ys, Lay z) : ∀ z ∈ xs ++ ys, Lay z := fun z hz => (List.mem_append.mp hz).elim (h z) (g z)
theorem lay_bars {n k a b s : Int} (G : Good n k a b) : ∀ z ∈ barsL n k a b s, Lay z := by
  unfold barsL
  refine lay_app ?_ (lay_app ?_ ?_)
  · unfold cntD
    split
    · intro z hz; cases hz
    · intro z hz; obtain rfl := List.mem_singleton.mp hz; exact lay3 (by decide +kernel)
  · rcases often_cases G s with h | ⟨f, g, h, _⟩
    · rw [h]; intro z hz; obtain rfl := List.mem_singleton.mp hz; exact lay1 (by decide +kernel)
    · rw [h]; intro z hz; cases hz
  · split
    · refine lay_app (lay_gD (by decide +kernel)) (lay_app (lay_gD (by decide +kernel)) ?_)
      rcases often_cases G s with h | ⟨f, g, h, _⟩
      · rw [h]; intro z hz; cases hz
      · rw [h]
        show ∀ z ∈ (if b = 0 ∨ b = k then [] else fewD n f ++ fewD n g), Lay z
        split
        · intro z hz; cases hz
        · exact lay_app lay_few lay_few
    · intro z hz; cases hz
theorem bars_cnt {n k a b s : Int} (h : barsL n k a b s = []) : k * (k - a - 1) = (n - k - 1) * b := by
  unfold barsL at h
  have h := (List.append_eq_nil_iff.mp h).1
  unfold cntD at h
  by_cases c : k * (k - a - 1) = (n - k - 1) * b
  · exact c
  · rw [if_neg c] at h; cases h
end Lw
namespace Lw
open PySem PySem.Spec PyProof.Rows L2 Mi
theorem eq_tnil {xs : List D} (h : ∀ x ∈ xs, Lay x) : dEq (.tup xs) (.tup []) = some (.bl (decide (xs = []))) := by
  obtain ⟨ps, g1, g2, g3, g4⟩ := lay_list xs h
  have s : SeqAt.shaped (.tuple ps) = true := by
    unfold SeqAt.shaped PyData.canLay0 PyData.depth
    rw [g2]
    simp; omega
  have s0 : SeqAt.shaped (.tuple []) = true := by rfl
  show ((((toPys xs).map PyData.tuple).bind fun p => ((toPys []).map PyData.tuple).bind fun q => if (SeqAt.shaped p && SeqAt.shaped q) = true then some (PyData.eqv p q) else none).map D.bl) = _
  rw [g1]
  show ((if (SeqAt.shaped (.tuple ps) && SeqAt.shaped (.tuple [])) = true then some (PyData.eqv (.tuple ps) (.tuple [])) else none).map D.bl) = _
  rw [s, s0]
  simp only [Bool.and_self, if_true, Option.map_some]
  unfold PyData.eqv
  cases ps with
  | nil =>
    obtain rfl : xs = [] := List.eq_nil_of_length_eq_zero g4.symm
    rfl
  | cons p ps =>
    cases xs with
    | nil => cases g4
    | cons x xs => rfl
theorem toPys_mem {x : D} : ∀ {xs : List D} {ps : List PyData}, toPys xs = some ps → x ∈ xs → ∃ p, toPy x = some p ∧ p ∈ ps
  | [], ps, _, h => nomatch h
  | y :: ys, ps, e, h => by
    obtain ⟨p, h1, h2⟩ := Option.bind_eq_some_iff.mp (show (toPy y).bind (fun p => (toPys ys).map (p :: ·)) = some ps from e)
    obtain ⟨qs, h3, rfl⟩ := Option.map_eq_some_iff.mp h2
    rcases List.mem_cons.mp h with rfl | h
    · exact ⟨p, h1, List.mem_cons_self⟩
    · obtain ⟨q, h4, h5⟩ := toPys_mem h3 h
      exact ⟨q, h4, List.mem_cons_of_mem _ h5⟩
theorem dIn_own {x : D} {xs : List D} {p : PyData} {ps : List PyData} (h1 : toPy x = some p) (h2 : toPys xs = some ps) (h3 : SeqAt.shaped p = true) (h4 : SeqAt.shaped (.list ps) = true) : dIn x (.own xs) = some (.bl (ps.any fun z => PyData.eqv z p)) := by
  show ((toPy x).bind fun x => ((toPys xs).map PyData.list).bind fun y => match y with
    | .list ds => if SeqAt.shaped x && SeqAt.shaped (.list ds) then some (D.bl (xor false (ds.any fun z => PyData.eqv z x))) else none
    | .tuple ds => if SeqAt.shaped x && SeqAt.shaped (.tuple ds) then some (D.bl (xor false (ds.any fun z => PyData.eqv z x))) else none
    | _ => none) = _
  rw [h1, h2]
  simp only [Option.bind_some, Option.map_some, h3, h4, Bool.and_self, if_true, Bool.false_xor]
theorem lay_shaped {xs : List D} {ps : List PyData} (h : ∀ x ∈ xs, Lay x) (e : toPys xs = some ps) : SeqAt.shaped (.list ps) = true := by
  obtain ⟨qs, g1, g2, g3, g4⟩ := lay_list xs h
  rw [e] at g1; cases g1
  unfold SeqAt.shaped PyData.canLay0 PyData.depth
  rw [g2]
  simp; omega
theorem lay_sh {x : D} {p : PyData} (h : Lay x) (e : toPy x = some p) : SeqAt.shaped p = true ∧ p.canLay0 = true := by
  obtain ⟨q, g1, g2, g3⟩ := h
  rw [e] at g1; cases g1
  refine ⟨?_, g2⟩
  unfold SeqAt.shaped
  rw [g2]
  simp; omega
theorem in_self {x : D} {xs : List D} (h : ∀ x ∈ xs, Lay x) (hx : x ∈ xs) : dIn x (.own xs) = some (.bl true) := by
  obtain ⟨ps, g1, g2, g3, g4⟩ := lay_list xs h
  obtain ⟨p, h1, h2⟩ := toPys_mem g1 hx
  obtain ⟨s1, s2⟩ := lay_sh (h x hx) h1
  rw [dIn_own h1 g1 s1 (lay_shaped h g1)]
  rw [show (ps.any fun z => PyData.eqv z p) = true from List.any_eq_true.mpr ⟨p, h2, SeqAt.eqv_refl p s2⟩]
/-- what a bar looks like -/
def BarT (z : D) : Prop := (∃ w x y, z = .tup [.str w, .int x, .int y] ∧ PyData.strOk w = true) ∨ ∃ w, z = .tup [.str w] ∧ PyData.strOk w = true
theorem bar_lay {z : D} (h : BarT z) : Lay z := by
  rcases h with ⟨w, x, y, rfl, h⟩ | ⟨w, rfl, h⟩
  · exact lay3 h
  · exact lay1 h
theorem bar_gD {w : Str} {x y : Int} (h : PyData.strOk w = true) : ∀ z ∈ gD w x y, BarT z := by
  unfold gD
  split
  · intro z hz; obtain rfl := List.mem_singleton.mp hz; exact .inl ⟨_, _, _, rfl, h⟩
  · intro z hz; cases hz
theorem bar_few {x y : Int} : ∀ z ∈ fewD x y, BarT z := by
  unfold fewD
  split
  · intro z hz; obtain rfl := List.mem_singleton.mp hz; exact .inl ⟨_, _, _, rfl, by decide +kernel⟩
  · intro z hz; cases hz
theorem bar_app {xs ys : List D} (h : ∀ z ∈ xs, BarT z) (g : ∀ z ∈ ys, BarT z) : ∀ z ∈ xs ++ ys, BarT z := fun z hz => (List.mem_append.mp hz).elim (h z) (g z)
theorem bar_bars {n k a b s : Int} (G : Good n k a b) : ∀ z ∈ barsL n k a b s, BarT z := by
  unfold barsL
  refine bar_app ?_ (bar_app ?_ ?_)
  · unfold cntD
    split
    · intro z hz; cases hz
    · intro z hz; obtain rfl := List.mem_singleton.mp hz; exact .inl ⟨_, _, _, rfl, by decide +kernel⟩
  · rcases often_cases G s with h | ⟨f, g, h, _⟩
    · rw [h]; intro z hz; obtain rfl := List.mem_singleton.mp hz; exact .inr ⟨_, rfl, by decide +kernel⟩
    · rw [h]; intro z hz; cases hz
  · split
    · refine bar_app (bar_gD (by decide +kernel)) (bar_app (bar_gD (by decide +kernel)) ?_)
      rcases often_cases G s with h | ⟨f, g, h, _⟩
      · rw [h]; intro z hz; cases hz
      · rw [h]
        show ∀ z ∈ (if b = 0 ∨ b = k then [] else fewD n f ++ fewD n g), BarT z
        split
        · intro z hz; cases hz
        · exact bar_app bar_few bar_few
    · intro z hz; cases hz
theorem cut3 {x y z : D} : cutL [x, y, z] (some 1) none = [y, z] := rfl
theorem cut1 {x : D} : cutL [x] (some 1) none = [] := rfl
theorem all0 : dAll (.own []) = some (.bl true) := by rfl
theorem all2 : dAll (.own [.bl true, .bl true]) = some (.bl true) := by rfl
theorem bar_plain {z : D} (h : BarT z) : F_is_plain [z] = .ok (.bl true) := by
  rcases h with ⟨w, x, y, rfl, h⟩ | ⟨w, rfl, h⟩
  · have e := eq_tnil (xs := [.str w, .int x, .int y]) (fun v hv => by
      simp only [List.mem_cons, List.not_mem_nil, or_false] at hv
      rcases hv with rfl | rfl | rfl
      · exact ⟨.str w, rfl, strOk_of h, by simp [PyData.depth]⟩
      · exact lay_int
      · exact lay_int)
    rw [show decide ([D.str w, D.int x, D.int y] = []) = false from rfl] at e
    unfold F_is_plain m_is_plain
    simp -implicitDefEqProofs only [Mi.kof_some, Mi.kof_none, Mi.mOp1_ap, Mi.k1_ok, Mi.k1_exc, Mi.mOp2_ap, Mi.k2a_ok, Mi.k2a_exc, Mi.k2b_ok, Mi.k2b_exc, Mi.mOpL_ap, Mi.kL_ok, Mi.kL_exc, Mi.mCons_ap, Mi.kca_ok, Mi.kca_exc, Mi.kcb_ok, Mi.kcb_exc, Mi.mNil_ap, Mi.mC_ap, Mi.mLst_ap, Mi.mTup_ap, Mi.kLst_ok, Mi.kTup_ok, Mi.mVar_ap, Mi.kV_some, Mi.mFrz_ap, Mi.kF_some, Mi.mMove_ap, Mi.kM_some, Mi.at0, Mi.atS, Mi.set0, Mi.setS, Mi.mT_ap, Mi.kT_ok, Mi.kT_exc, Mi.mNotT_ap, Mi.kN_ok, Mi.kN_exc, Mi.mAndT_ap, Mi.kA_ok, Mi.kA_exc, Mi.mOrT_ap, Mi.kO_ok, Mi.kO_exc, Mi.mAndV_ap, Mi.kAV_ok, Mi.mOrV_ap, Mi.kOV_ok, Mi.mIf_ap, Mi.kIf_ok, Mi.mChain_ap, Mi.kCh_ok, Mi.kCh1_ok, Mi.kCh2_ok, Mi.mSeq_ap, Mi.kS_nx, Mi.kS_rt, Mi.kS_exc, Mi.kS_bk, Mi.kS_ct, Mi.mNext_ap, Mi.mDrop_ap, Mi.kD_ok, Mi.kD_exc, Mi.mRet_ap, Mi.kR_ok, Mi.kR_exc, Mi.mRetN_ap, Mi.mIfS_ap, Mi.kI_ok, Mi.kI_exc, Mi.mAsg_ap, Mi.kG_ok, Mi.kG_exc, Mi.kG2_some, Mi.mgName_ap, Mi.mgTup_ap, Mi.mgCons_ap, Mi.kgs_some, Mi.mgNil_ap, Mi.mPar_ap, Mi.kP_ok, Mi.mPar3_ap, Mi.kP3_ok, Mi.ownAt_ap, Mi.kw_own, Mi.mSlotIx_ap, Mi.kX_some, Mi.kX2_ok, Mi.kX3_some, Mi.mCall_ap, Mi.kc_ok, Mi.kf_ok, Mi.kf_exc, Mi.mCallO_ap, Mi.kq_some, Mi.kq2_ok, Mi.kq3_some, Mi.kq4_ok, Mi.mSetIx_ap, Mi.ky_ok, Mi.ky2_some, Mi.ky3_ok, Mi.ky4_some, Mi.mItL_ap, Mi.kIL_ok, Mi.kRs_some, Mi.mItT_ap, Mi.kIT_ok, Mi.mRng1_ap, Mi.kr1_ok, Mi.mRng2_ap, Mi.kr2_ok, Mi.mFor_ap, Mi.kFo_ok, Mi.mLoop_nil, Mi.kl1_some, Mi.kl2_nx, Mi.kl2_ct, Mi.kl2_bk, Mi.kl2_rt, Mi.kl2_exc, Mi.mLc_ap, Mi.kLc_ok, Mi.lc_nil, Mi.kz1_some, Mi.kz2_ok, Mi.kz3_ok, Mi.mYes_ap, Mi.mAug_ap, Mi.kU_some, Mi.kU2_int, Mi.mTry_ap, Mi.kTr_nx, Mi.kTr_rt, Mi.mMeth_ap, Mi.kMe_lst, Mi.kMe_own, Mi.mAppend_ap, Mi.kAp_some, Mi.kAp2_ok, Mi.kAp3_some, Mi.dAdd_int, Mi.dAdd_str, Mi.dAdd_tup, Mi.dAdd_ll, Mi.dAdd_lo, Mi.dAdd_ol, Mi.dAdd_oo, Mi.dSub_int, Mi.dMul_int, Mi.dMod_int, Mi.dFdiv_int, Mi.dPow_int, Mi.dNeg_int, Mi.dDivmod_int, Mi.dGt_int, Mi.dGe_int, Mi.dLe_int, Mi.dLtI_int, Mi.dLt_int, Mi.dEq_int, Mi.dNe_int, Mi.dMax2_int, Mi.dMin2_int, Mi.fn1_ap, Mi.fn2_ap, Mi.dLen_tup, Mi.dLen_lst, Mi.dLen_cst, Mi.dLen_own, Mi.fnM_ap, Mi.kfn_nx, Mi.kfn_rt, Mi.kfn_exc, Mi.fnO_ap, Mi.kfo_nx, Mi.kfo_rt, Mi.env0, Mi.envN, Mi.envS, Mi.wipeN, Mi.wipeS, Mi.lit_own, Mi.lit_lst, Mi.lit_cst, Mi.ix_own, Mi.ix_lst, Mi.ix_cst, Mi.ix_tup, Mi.dix_own, Mi.dix_lst, Mi.dix_cst, Mi.dix_tup, Mi.rng0, Mi.toL, Mi.end_lawL, Mi.btw_int, Mi.btw_bl, Mi.btw_non, Mi.btw_str, Mi.is_non_int, Mi.is_bl_int, Mi.is_int_int, Mi.is_str_int, Mi.is_tup_int, Mi.is_lst_int, Mi.is_cst_int, Mi.is_own_int, Mi.is_non_bool, Mi.is_bl_bool, Mi.is_int_bool, Mi.is_str_bool, Mi.is_tup_bool, Mi.is_lst_bool, Mi.is_cst_bool, Mi.is_own_bool, Mi.is_non_tuple, Mi.is_bl_tuple, Mi.is_int_tuple, Mi.is_str_tuple, Mi.is_tup_tuple, Mi.is_lst_tuple, Mi.is_cst_tuple, Mi.is_own_tuple, Mi.is_non_list, Mi.is_bl_list, Mi.is_int_list, Mi.is_str_list, Mi.is_tup_list, Mi.is_lst_list, Mi.is_cst_list, Mi.is_own_list, Mi.is_non_str, Mi.is_bl_str, Mi.is_int_str, Mi.is_str_str, Mi.is_tup_str, Mi.is_lst_str, Mi.is_cst_str, Mi.is_own_str, Mi.cast_lit, Mi.mPart_ap, Mi.kPt_ok, Mi.mNoPart_ap, Mi.mSl_ap, Mi.kSl1_ok, Mi.kSl2_ok, Mi.kSl3_ok, Mi.dSl_tup, Mi.dSl_lst, Mi.dSl_cst, Mi.mZip_ap, Mi.kZ_tup, Mi.kZ_lst, Mi.mPick_ap, Mi.kPk_ok, Mi.kPk2_some, Mi.at_0, Mi.at_1, Mi.at_2, Mi.at_3, Mi.isT_non, Mi.isT_bl, Mi.isT_int, Mi.isT_str, Mi.isT_tup, Mi.isT_lst, Mi.isT_cst, Mi.isT_own, Mi.dInt_bl, Mi.dIs_f_non, Mi.dIs_t_non, Mi.dIs_f_bl, Mi.dIs_t_bl, Mi.dIs_f_int, Mi.dIs_t_int, Mi.dIs_f_str, Mi.dIs_t_str, Mi.dIs_f_tup, Mi.dIs_t_tup, Mi.dIs_f_lst, Mi.dIs_t_lst, Mi.dIs_f_own, Mi.dIs_t_own, Mi.dIs_f_cst, Mi.dIs_t_cst, Mi.mLR1_ap, Mi.kLR1_ok, Mi.mLR2_ap, Mi.kLR2_ok, Mi.kLR2b_ok, Mi.mCallB_ap, Mi.kcB_some, Mi.kcB1_ok, Mi.kcB2_some, Mi.kcB3_bl, Mi.kcB3_exc, Mi.mExtend_ap, Mi.kEx_some, Mi.kEx2_ok, Mi.kEx3_some, Mi.dNotIn2, Mi.dIn2, Mi.dIsB_tt, Mi.dIsB_ft, Mi.dNotB_tt, Mi.dNotB_ft, D.frz, frzs, D.plain, plains, Bool.and_self, Bool.and_true, Bool.true_and, Bool.and_false, Bool.false_and, List.length_cons, List.length_nil, List.length_set, Nat.reduceAdd, Nat.zero_add, Nat.reduceLT, Nat.reduceLeDiff, sizeLine_eq, if_true, if_false, Bool.not_true, Bool.not_false, Bool.false_eq_true, decide_true, decide_false, and_self, and_true, true_and, List.cons_append, List.nil_append, Option.map_some, Option.bind_some, Int.reduceToNat, Int.reducePow, Int.reduceNeg, Int.reduceEq, Int.reduceLT, Int.reduceLE, Int.reduceAdd, Int.reduceSub, Int.reduceMul, eq_self, Mi.dat, not_true_eq_false, not_false_eq_true, Bool.or_self, Bool.or_true, Bool.or_false, Bool.false_or, Bool.true_or, false_and, and_false, true_or, or_true, false_or, or_false, e, cut3, Mi.lc_cons, all2, dNot_bl]
  · have e := eq_tnil (xs := [.str w]) (fun v hv => by
      obtain rfl := List.mem_singleton.mp hv
      exact ⟨.str w, rfl, strOk_of h, by simp [PyData.depth]⟩)
    rw [show decide ([D.str w] = []) = false from rfl] at e
    unfold F_is_plain m_is_plain
    simp -implicitDefEqProofs only [Mi.kof_some, Mi.kof_none, Mi.mOp1_ap, Mi.k1_ok, Mi.k1_exc, Mi.mOp2_ap, Mi.k2a_ok, Mi.k2a_exc, Mi.k2b_ok, Mi.k2b_exc, Mi.mOpL_ap, Mi.kL_ok, Mi.kL_exc, Mi.mCons_ap, Mi.kca_ok, Mi.kca_exc, Mi.kcb_ok, Mi.kcb_exc, Mi.mNil_ap, Mi.mC_ap, Mi.mLst_ap, Mi.mTup_ap, Mi.kLst_ok, Mi.kTup_ok, Mi.mVar_ap, Mi.kV_some, Mi.mFrz_ap, Mi.kF_some, Mi.mMove_ap, Mi.kM_some, Mi.at0, Mi.atS, Mi.set0, Mi.setS, Mi.mT_ap, Mi.kT_ok, Mi.kT_exc, Mi.mNotT_ap, Mi.kN_ok, Mi.kN_exc, Mi.mAndT_ap, Mi.kA_ok, Mi.kA_exc, Mi.mOrT_ap, Mi.kO_ok, Mi.kO_exc, Mi.mAndV_ap, Mi.kAV_ok, Mi.mOrV_ap, Mi.kOV_ok, Mi.mIf_ap, Mi.kIf_ok, Mi.mChain_ap, Mi.kCh_ok, Mi.kCh1_ok, Mi.kCh2_ok, Mi.mSeq_ap, Mi.kS_nx, Mi.kS_rt, Mi.kS_exc, Mi.kS_bk, Mi.kS_ct, Mi.mNext_ap, Mi.mDrop_ap, Mi.kD_ok, Mi.kD_exc, Mi.mRet_ap, Mi.kR_ok, Mi.kR_exc, Mi.mRetN_ap, Mi.mIfS_ap, Mi.kI_ok, Mi.kI_exc, Mi.mAsg_ap, Mi.kG_ok, Mi.kG_exc, Mi.kG2_some, Mi.mgName_ap, Mi.mgTup_ap, Mi.mgCons_ap, Mi.kgs_some, Mi.mgNil_ap, Mi.mPar_ap, Mi.kP_ok, Mi.mPar3_ap, Mi.kP3_ok, Mi.ownAt_ap, Mi.kw_own, Mi.mSlotIx_ap, Mi.kX_some, Mi.kX2_ok, Mi.kX3_some, Mi.mCall_ap, Mi.kc_ok, Mi.kf_ok, Mi.kf_exc, Mi.mCallO_ap, Mi.kq_some, Mi.kq2_ok, Mi.kq3_some, Mi.kq4_ok, Mi.mSetIx_ap, Mi.ky_ok, Mi.ky2_some, Mi.ky3_ok, Mi.ky4_some, Mi.mItL_ap, Mi.kIL_ok, Mi.kRs_some, Mi.mItT_ap, Mi.kIT_ok, Mi.mRng1_ap, Mi.kr1_ok, Mi.mRng2_ap, Mi.kr2_ok, Mi.mFor_ap, Mi.kFo_ok, Mi.mLoop_nil, Mi.kl1_some, Mi.kl2_nx, Mi.kl2_ct, Mi.kl2_bk, Mi.kl2_rt, Mi.kl2_exc, Mi.mLc_ap, Mi.kLc_ok, Mi.lc_nil, Mi.kz1_some, Mi.kz2_ok, Mi.kz3_ok, Mi.mYes_ap, Mi.mAug_ap, Mi.kU_some, Mi.kU2_int, Mi.mTry_ap, Mi.kTr_nx, Mi.kTr_rt, Mi.mMeth_ap, Mi.kMe_lst, Mi.kMe_own, Mi.mAppend_ap, Mi.kAp_some, Mi.kAp2_ok, Mi.kAp3_some, Mi.dAdd_int, Mi.dAdd_str, Mi.dAdd_tup, Mi.dAdd_ll, Mi.dAdd_lo, Mi.dAdd_ol, Mi.dAdd_oo, Mi.dSub_int, Mi.dMul_int, Mi.dMod_int, Mi.dFdiv_int, Mi.dPow_int, Mi.dNeg_int, Mi.dDivmod_int, Mi.dGt_int, Mi.dGe_int, Mi.dLe_int, Mi.dLtI_int, Mi.dLt_int, Mi.dEq_int, Mi.dNe_int, Mi.dMax2_int, Mi.dMin2_int, Mi.fn1_ap, Mi.fn2_ap, Mi.dLen_tup, Mi.dLen_lst, Mi.dLen_cst, Mi.dLen_own, Mi.fnM_ap, Mi.kfn_nx, Mi.kfn_rt, Mi.kfn_exc, Mi.fnO_ap, Mi.kfo_nx, Mi.kfo_rt, Mi.env0, Mi.envN, Mi.envS, Mi.wipeN, Mi.wipeS, Mi.lit_own, Mi.lit_lst, Mi.lit_cst, Mi.ix_own, Mi.ix_lst, Mi.ix_cst, Mi.ix_tup, Mi.dix_own, Mi.dix_lst, Mi.dix_cst, Mi.dix_tup, Mi.rng0, Mi.toL, Mi.end_lawL, Mi.btw_int, Mi.btw_bl, Mi.btw_non, Mi.btw_str, Mi.is_non_int, Mi.is_bl_int, Mi.is_int_int, Mi.is_str_int, Mi.is_tup_int, Mi.is_lst_int, Mi.is_cst_int, Mi.is_own_int, Mi.is_non_bool, Mi.is_bl_bool, Mi.is_int_bool, Mi.is_str_bool, Mi.is_tup_bool, Mi.is_lst_bool, Mi.is_cst_bool, Mi.is_own_bool, Mi.is_non_tuple, Mi.is_bl_tuple, Mi.is_int_tuple, Mi.is_str_tuple, Mi.is_tup_tuple, Mi.is_lst_tuple, Mi.is_cst_tuple, Mi.is_own_tuple, Mi.is_non_list, Mi.is_bl_list, Mi.is_int_list, Mi.is_str_list, Mi.is_tup_list, Mi.is_lst_list, Mi.is_cst_list, Mi.is_own_list, Mi.is_non_str, Mi.is_bl_str, Mi.is_int_str, Mi.is_str_str, Mi.is_tup_str, Mi.is_lst_str, Mi.is_cst_str, Mi.is_own_str, Mi.cast_lit, Mi.mPart_ap, Mi.kPt_ok, Mi.mNoPart_ap, Mi.mSl_ap, Mi.kSl1_ok, Mi.kSl2_ok, Mi.kSl3_ok, Mi.dSl_tup, Mi.dSl_lst, Mi.dSl_cst, Mi.mZip_ap, Mi.kZ_tup, Mi.kZ_lst, Mi.mPick_ap, Mi.kPk_ok, Mi.kPk2_some, Mi.at_0, Mi.at_1, Mi.at_2, Mi.at_3, Mi.isT_non, Mi.isT_bl, Mi.isT_int, Mi.isT_str, Mi.isT_tup, Mi.isT_lst, Mi.isT_cst, Mi.isT_own, Mi.dInt_bl, Mi.dIs_f_non, Mi.dIs_t_non, Mi.dIs_f_bl, Mi.dIs_t_bl, Mi.dIs_f_int, Mi.dIs_t_int, Mi.dIs_f_str, Mi.dIs_t_str, Mi.dIs_f_tup, Mi.dIs_t_tup, Mi.dIs_f_lst, Mi.dIs_t_lst, Mi.dIs_f_own, Mi.dIs_t_own, Mi.dIs_f_cst, Mi.dIs_t_cst, Mi.mLR1_ap, Mi.kLR1_ok, Mi.mLR2_ap, Mi.kLR2_ok, Mi.kLR2b_ok, Mi.mCallB_ap, Mi.kcB_some, Mi.kcB1_ok, Mi.kcB2_some, Mi.kcB3_bl, Mi.kcB3_exc, Mi.mExtend_ap, Mi.kEx_some, Mi.kEx2_ok, Mi.kEx3_some, Mi.dNotIn2, Mi.dIn2, Mi.dIsB_tt, Mi.dIsB_ft, Mi.dNotB_tt, Mi.dNotB_ft, D.frz, frzs, D.plain, plains, Bool.and_self, Bool.and_true, Bool.true_and, Bool.and_false, Bool.false_and, List.length_cons, List.length_nil, List.length_set, Nat.reduceAdd, Nat.zero_add, Nat.reduceLT, Nat.reduceLeDiff, sizeLine_eq, if_true, if_false, Bool.not_true, Bool.not_false, Bool.false_eq_true, decide_true, decide_false, and_self, and_true, true_and, List.cons_append, List.nil_append, Option.map_some, Option.bind_some, Int.reduceToNat, Int.reducePow, Int.reduceNeg, Int.reduceEq, Int.reduceLT, Int.reduceLE, Int.reduceAdd, Int.reduceSub, Int.reduceMul, eq_self, Mi.dat, not_true_eq_false, not_false_eq_true, Bool.or_self, Bool.or_true, Bool.or_false, Bool.false_or, Bool.true_or, false_and, and_false, true_or, or_true, false_or, or_false, e, cut1, Mi.lc_cons, all0, dNot_bl]
end Lw
namespace Lw
open PySem PySem.Spec PyProof.Rows L2 Mi
theorem barsP {n k a b : Int} (G : Good n k a b) : ∃ s, Root (qOf k a b) s ∧ F_roots_in [.tup [.int n, .int k, .int a, .int b]] = .ok (rootsD k a b s) ∧ F_bars_of [.tup [.int n, .int k, .int a, .int b]] = .ok (.own (barsL n k a b s)) := by
  obtain ⟨s, R, h1⟩ := v_roots G
  exact ⟨s, R, h1, v_bars G R h1⟩
open Classical in
noncomputable def emp (n k a : Int) : D → Bool
  | .int b => decide (F_bars_of [.tup [.int n, .int k, .int a, .int b]] = .ok (.own []))
  | _ => false
def b0 (n k a : Int) : Int := k * (k - a - 1) / (n - k - 1)
def tp (n k a : Int) : D → D := fun d => .tup [.int n, .int k, .int a, d]
noncomputable def stepL (n k a : Int) : List D := if 0 ≤ b0 n k a ∧ b0 n k a ≤ k ∧ emp n k a (.int (b0 n k a)) = true then [tp n k a (.int (b0 n k a))] else []
structure In (n k a : Int) : Prop where
  n0 : 3 ≤ n
  n1 : n ≤ 60
  k0 : 1 ≤ k
  k1 : k ≤ n - 2
  a0 : 0 ≤ a
  a1 : a < k
theorem In.good {n k a b : Int} (I : In n k a) (h0 : 0 ≤ b) (h1 : b ≤ k) : Good n k a b := by
  obtain ⟨g1, g2, g3, g4, g5, g6⟩ := I
  exact ⟨g1, by omega, g3, g4, g5, g6, h0, h1⟩
theorem emp_of {n k a b s : Int} (h : F_bars_of [.tup [.int n, .int k, .int a, .int b]] = .ok (.own (barsL n k a b s))) : emp n k a (.int b) = decide (barsL n k a b s = []) := by
  unfold emp
  by_cases c : barsL n k a b s = []
  · simp [c]; rw [h, c]
  · simp [c]; rw [h]
    intro z
    injection z with z
    injection z with z
    exact c z
theorem emp_b {n k a b : Int} (I : In n k a) (h0 : 0 ≤ b) (h1 : b ≤ k) (h : emp n k a (.int b) = true) : k * (k - a - 1) = (n - k - 1) * b := by
  obtain ⟨s, _, _, e1⟩ := barsP (I.good h0 h1)
  rw [emp_of e1] at h
  exact bars_cnt (of_decide_eq_true h)
theorem emp_b0 {n k a b : Int} (I : In n k a) (h0 : 0 ≤ b) (h1 : b ≤ k) (h : emp n k a (.int b) = true) : b = b0 n k a := by
  have e := emp_b I h0 h1 h
  obtain ⟨g1, g2, g3, g4, g5, g6⟩ := I
  unfold b0
  rw [e, Int.mul_ediv_cancel_left _ (by omega)]
theorem step_len {n k a : Int} : (stepL n k a).length ≤ 1 := by unfold stepL; split <;> simp
theorem p_turn {n k a : Int} (I : In n k a) (acc : List D) (hl : acc.length < 10000) (o4 o5 o6 : Option D) : ∃ p4 p5 p6, l_all_numbers_1 [some (.int n), some (.own acc), some (.int k), some (.int a), o4, o5, o6] = .nx [some (.int n), some (.own (acc ++ stepL n k a)), some (.int k), some (.int a), p4, p5, p6] := by
  have I' := I
  obtain ⟨g1, g2, g3, g4, g5, g6⟩ := I
  have c1 : CMulX k (k - a - 1) := cmulx64 (by omega) (by omega)
  have w1 : CDivP (k * (k - a - 1)) (n - k - 1) := cdivp_small (by omega) (by omega)
  have z : acc.length < 16777216 := by omega
  have nn : 0 ≤ k * (k - a - 1) := Int.mul_nonneg (by omega) (by omega)
  obtain ⟨b, eb⟩ : ∃ b, k * (k - a - 1) / (n - k - 1) = b := ⟨_, rfl⟩
  have hb0 : 0 ≤ b := by rw [← eb]; exact Int.ediv_nonneg nn (by omega)
  have eb' : b0 n k a = b := eb
  refine ⟨some (.tup [.int n, .int k, .int a, .int b]), some (.int b), some (.int (k * (k - a - 1) % (n - k - 1))), ?_⟩
  have ed := Int.emod_add_mul_ediv (k * (k - a - 1)) (n - k - 1)
  rw [eb] at ed
  unfold l_all_numbers_1
  by_cases e : k * (k - a - 1) % (n - k - 1) = 0
  · by_cases h : b ≤ k
    · have G := I'.good hb0 h
      have ar := are_good G
      obtain ⟨s, _, _, e1⟩ := barsP G
      have en := eq_nil (lay_bars (s := s) G)
      have st : stepL n k a = if decide (barsL n k a b s = []) = true then [tp n k a (.int b)] else [] := by
        unfold stepL
        rw [eb', emp_of e1]
        by_cases q : decide (barsL n k a b s = []) = true
        · rw [if_pos ⟨hb0, h, q⟩, if_pos q]
        · rw [if_neg (fun z => q z.2.2), if_neg q]
      rw [st]
      by_cases q : barsL n k a b s = []
      · rw [q] at e1 en
        simp -implicitDefEqProofs only [Mi.kof_some, Mi.kof_none, Mi.mOp1_ap, Mi.k1_ok, Mi.k1_exc, Mi.mOp2_ap, Mi.k2a_ok, Mi.k2a_exc, Mi.k2b_ok, Mi.k2b_exc, Mi.mOpL_ap, Mi.kL_ok, Mi.kL_exc, Mi.mCons_ap, Mi.kca_ok, Mi.kca_exc, Mi.kcb_ok, Mi.kcb_exc, Mi.mNil_ap, Mi.mC_ap, Mi.mLst_ap, Mi.mTup_ap, Mi.kLst_ok, Mi.kTup_ok, Mi.mVar_ap, Mi.kV_some, Mi.mFrz_ap, Mi.kF_some, Mi.mMove_ap, Mi.kM_some, Mi.at0, Mi.atS, Mi.set0, Mi.setS, Mi.mT_ap, Mi.kT_ok, Mi.kT_exc, Mi.mNotT_ap, Mi.kN_ok, Mi.kN_exc, Mi.mAndT_ap, Mi.kA_ok, Mi.kA_exc, Mi.mOrT_ap, Mi.kO_ok, Mi.kO_exc, Mi.mAndV_ap, Mi.kAV_ok, Mi.mOrV_ap, Mi.kOV_ok, Mi.mIf_ap, Mi.kIf_ok, Mi.mChain_ap, Mi.kCh_ok, Mi.kCh1_ok, Mi.kCh2_ok, Mi.mSeq_ap, Mi.kS_nx, Mi.kS_rt, Mi.kS_exc, Mi.kS_bk, Mi.kS_ct, Mi.mNext_ap, Mi.mDrop_ap, Mi.kD_ok, Mi.kD_exc, Mi.mRet_ap, Mi.kR_ok, Mi.kR_exc, Mi.mRetN_ap, Mi.mIfS_ap, Mi.kI_ok, Mi.kI_exc, Mi.mAsg_ap, Mi.kG_ok, Mi.kG_exc, Mi.kG2_some, Mi.mgName_ap, Mi.mgTup_ap, Mi.mgCons_ap, Mi.kgs_some, Mi.mgNil_ap, Mi.mPar_ap, Mi.kP_ok, Mi.mPar3_ap, Mi.kP3_ok, Mi.ownAt_ap, Mi.kw_own, Mi.mSlotIx_ap, Mi.kX_some, Mi.kX2_ok, Mi.kX3_some, Mi.mCall_ap, Mi.kc_ok, Mi.kf_ok, Mi.kf_exc, Mi.mCallO_ap, Mi.kq_some, Mi.kq2_ok, Mi.kq3_some, Mi.kq4_ok, Mi.mSetIx_ap, Mi.ky_ok, Mi.ky2_some, Mi.ky3_ok, Mi.ky4_some, Mi.mItL_ap, Mi.kIL_ok, Mi.kRs_some, Mi.mItT_ap, Mi.kIT_ok, Mi.mRng1_ap, Mi.kr1_ok, Mi.mRng2_ap, Mi.kr2_ok, Mi.mFor_ap, Mi.kFo_ok, Mi.mLoop_nil, Mi.kl1_some, Mi.kl2_nx, Mi.kl2_ct, Mi.kl2_bk, Mi.kl2_rt, Mi.kl2_exc, Mi.mLc_ap, Mi.kLc_ok, Mi.lc_nil, Mi.kz1_some, Mi.kz2_ok, Mi.kz3_ok, Mi.mYes_ap, Mi.mAug_ap, Mi.kU_some, Mi.kU2_int, Mi.mTry_ap, Mi.kTr_nx, Mi.kTr_rt, Mi.mMeth_ap, Mi.kMe_lst, Mi.kMe_own, Mi.mAppend_ap, Mi.kAp_some, Mi.kAp2_ok, Mi.kAp3_some, Mi.dAdd_int, Mi.dAdd_str, Mi.dAdd_tup, Mi.dAdd_ll, Mi.dAdd_lo, Mi.dAdd_ol, Mi.dAdd_oo, Mi.dSub_int, Mi.dMul_int, Mi.dMod_int, Mi.dFdiv_int, Mi.dPow_int, Mi.dNeg_int, Mi.dDivmod_int, Mi.dGt_int, Mi.dGe_int, Mi.dLe_int, Mi.dLtI_int, Mi.dLt_int, Mi.dEq_int, Mi.dNe_int, Mi.dMax2_int, Mi.dMin2_int, Mi.fn1_ap, Mi.fn2_ap, Mi.dLen_tup, Mi.dLen_lst, Mi.dLen_cst, Mi.dLen_own, Mi.fnM_ap, Mi.kfn_nx, Mi.kfn_rt, Mi.kfn_exc, Mi.fnO_ap, Mi.kfo_nx, Mi.kfo_rt, Mi.env0, Mi.envN, Mi.envS, Mi.wipeN, Mi.wipeS, Mi.lit_own, Mi.lit_lst, Mi.lit_cst, Mi.ix_own, Mi.ix_lst, Mi.ix_cst, Mi.ix_tup, Mi.dix_own, Mi.dix_lst, Mi.dix_cst, Mi.dix_tup, Mi.rng0, Mi.toL, Mi.end_lawL, Mi.btw_int, Mi.btw_bl, Mi.btw_non, Mi.btw_str, Mi.is_non_int, Mi.is_bl_int, Mi.is_int_int, Mi.is_str_int, Mi.is_tup_int, Mi.is_lst_int, Mi.is_cst_int, Mi.is_own_int, Mi.is_non_bool, Mi.is_bl_bool, Mi.is_int_bool, Mi.is_str_bool, Mi.is_tup_bool, Mi.is_lst_bool, Mi.is_cst_bool, Mi.is_own_bool, Mi.is_non_tuple, Mi.is_bl_tuple, Mi.is_int_tuple, Mi.is_str_tuple, Mi.is_tup_tuple, Mi.is_lst_tuple, Mi.is_cst_tuple, Mi.is_own_tuple, Mi.is_non_list, Mi.is_bl_list, Mi.is_int_list, Mi.is_str_list, Mi.is_tup_list, Mi.is_lst_list, Mi.is_cst_list, Mi.is_own_list, Mi.is_non_str, Mi.is_bl_str, Mi.is_int_str, Mi.is_str_str, Mi.is_tup_str, Mi.is_lst_str, Mi.is_cst_str, Mi.is_own_str, Mi.cast_lit, Mi.mPart_ap, Mi.kPt_ok, Mi.mNoPart_ap, Mi.mSl_ap, Mi.kSl1_ok, Mi.kSl2_ok, Mi.kSl3_ok, Mi.dSl_tup, Mi.dSl_lst, Mi.dSl_cst, Mi.mZip_ap, Mi.kZ_tup, Mi.kZ_lst, Mi.mPick_ap, Mi.kPk_ok, Mi.kPk2_some, Mi.at_0, Mi.at_1, Mi.at_2, Mi.at_3, Mi.isT_non, Mi.isT_bl, Mi.isT_int, Mi.isT_str, Mi.isT_tup, Mi.isT_lst, Mi.isT_cst, Mi.isT_own, Mi.dInt_bl, Mi.dIs_f_non, Mi.dIs_t_non, Mi.dIs_f_bl, Mi.dIs_t_bl, Mi.dIs_f_int, Mi.dIs_t_int, Mi.dIs_f_str, Mi.dIs_t_str, Mi.dIs_f_tup, Mi.dIs_t_tup, Mi.dIs_f_lst, Mi.dIs_t_lst, Mi.dIs_f_own, Mi.dIs_t_own, Mi.dIs_f_cst, Mi.dIs_t_cst, Mi.mLR1_ap, Mi.kLR1_ok, Mi.mLR2_ap, Mi.kLR2_ok, Mi.kLR2b_ok, Mi.mCallB_ap, Mi.kcB_some, Mi.kcB1_ok, Mi.kcB2_some, Mi.kcB3_bl, Mi.kcB3_exc, Mi.mExtend_ap, Mi.kEx_some, Mi.kEx2_ok, Mi.kEx3_some, Mi.dNotIn2, Mi.dIn2, Mi.dIsB_tt, Mi.dIsB_ft, Mi.dNotB_tt, Mi.dNotB_ft, D.frz, frzs, D.plain, plains, Bool.and_self, Bool.and_true, Bool.true_and, Bool.and_false, Bool.false_and, List.length_cons, List.length_nil, List.length_set, Nat.reduceAdd, Nat.zero_add, Nat.reduceLT, Nat.reduceLeDiff, sizeLine_eq, if_true, if_false, Bool.not_true, Bool.not_false, Bool.false_eq_true, decide_true, decide_false, and_self, and_true, true_and, List.cons_append, List.nil_append, Option.map_some, Option.bind_some, Int.reduceToNat, Int.reducePow, Int.reduceNeg, Int.reduceEq, Int.reduceLT, Int.reduceLE, Int.reduceAdd, Int.reduceSub, Int.reduceMul, eq_self, Mi.dat, not_true_eq_false, not_false_eq_true, Bool.or_self, Bool.or_true, Bool.or_false, Bool.false_or, Bool.true_or, false_and, and_false, true_or, or_true, false_or, or_false, c1, w1, eb, e, ar, e1, en, q, z, tp]
      · simp -implicitDefEqProofs only [Mi.kof_some, Mi.kof_none, Mi.mOp1_ap, Mi.k1_ok, Mi.k1_exc, Mi.mOp2_ap, Mi.k2a_ok, Mi.k2a_exc, Mi.k2b_ok, Mi.k2b_exc, Mi.mOpL_ap, Mi.kL_ok, Mi.kL_exc, Mi.mCons_ap, Mi.kca_ok, Mi.kca_exc, Mi.kcb_ok, Mi.kcb_exc, Mi.mNil_ap, Mi.mC_ap, Mi.mLst_ap, Mi.mTup_ap, Mi.kLst_ok, Mi.kTup_ok, Mi.mVar_ap, Mi.kV_some, Mi.mFrz_ap, Mi.kF_some, Mi.mMove_ap, Mi.kM_some, Mi.at0, Mi.atS, Mi.set0, Mi.setS, Mi.mT_ap, Mi.kT_ok, Mi.kT_exc, Mi.mNotT_ap, Mi.kN_ok, Mi.kN_exc, Mi.mAndT_ap, Mi.kA_ok, Mi.kA_exc, Mi.mOrT_ap, Mi.kO_ok, Mi.kO_exc, Mi.mAndV_ap, Mi.kAV_ok, Mi.mOrV_ap, Mi.kOV_ok, Mi.mIf_ap, Mi.kIf_ok, Mi.mChain_ap, Mi.kCh_ok, Mi.kCh1_ok, Mi.kCh2_ok, Mi.mSeq_ap, Mi.kS_nx, Mi.kS_rt, Mi.kS_exc, Mi.kS_bk, Mi.kS_ct, Mi.mNext_ap, Mi.mDrop_ap, Mi.kD_ok, Mi.kD_exc, Mi.mRet_ap, Mi.kR_ok, Mi.kR_exc, Mi.mRetN_ap, Mi.mIfS_ap, Mi.kI_ok, Mi.kI_exc, Mi.mAsg_ap, Mi.kG_ok, Mi.kG_exc, Mi.kG2_some, Mi.mgName_ap, Mi.mgTup_ap, Mi.mgCons_ap, Mi.kgs_some, Mi.mgNil_ap, Mi.mPar_ap, Mi.kP_ok, Mi.mPar3_ap, Mi.kP3_ok, Mi.ownAt_ap, Mi.kw_own, Mi.mSlotIx_ap, Mi.kX_some, Mi.kX2_ok, Mi.kX3_some, Mi.mCall_ap, Mi.kc_ok, Mi.kf_ok, Mi.kf_exc, Mi.mCallO_ap, Mi.kq_some, Mi.kq2_ok, Mi.kq3_some, Mi.kq4_ok, Mi.mSetIx_ap, Mi.ky_ok, Mi.ky2_some, Mi.ky3_ok, Mi.ky4_some, Mi.mItL_ap, Mi.kIL_ok, Mi.kRs_some, Mi.mItT_ap, Mi.kIT_ok, Mi.mRng1_ap, Mi.kr1_ok, Mi.mRng2_ap, Mi.kr2_ok, Mi.mFor_ap, Mi.kFo_ok, Mi.mLoop_nil, Mi.kl1_some, Mi.kl2_nx, Mi.kl2_ct, Mi.kl2_bk, Mi.kl2_rt, Mi.kl2_exc, Mi.mLc_ap, Mi.kLc_ok, Mi.lc_nil, Mi.kz1_some, Mi.kz2_ok, Mi.kz3_ok, Mi.mYes_ap, Mi.mAug_ap, Mi.kU_some, Mi.kU2_int, Mi.mTry_ap, Mi.kTr_nx, Mi.kTr_rt, Mi.mMeth_ap, Mi.kMe_lst, Mi.kMe_own, Mi.mAppend_ap, Mi.kAp_some, Mi.kAp2_ok, Mi.kAp3_some, Mi.dAdd_int, Mi.dAdd_str, Mi.dAdd_tup, Mi.dAdd_ll, Mi.dAdd_lo, Mi.dAdd_ol, Mi.dAdd_oo, Mi.dSub_int, Mi.dMul_int, Mi.dMod_int, Mi.dFdiv_int, Mi.dPow_int, Mi.dNeg_int, Mi.dDivmod_int, Mi.dGt_int, Mi.dGe_int, Mi.dLe_int, Mi.dLtI_int, Mi.dLt_int, Mi.dEq_int, Mi.dNe_int, Mi.dMax2_int, Mi.dMin2_int, Mi.fn1_ap, Mi.fn2_ap, Mi.dLen_tup, Mi.dLen_lst, Mi.dLen_cst, Mi.dLen_own, Mi.fnM_ap, Mi.kfn_nx, Mi.kfn_rt, Mi.kfn_exc, Mi.fnO_ap, Mi.kfo_nx, Mi.kfo_rt, Mi.env0, Mi.envN, Mi.envS, Mi.wipeN, Mi.wipeS, Mi.lit_own, Mi.lit_lst, Mi.lit_cst, Mi.ix_own, Mi.ix_lst, Mi.ix_cst, Mi.ix_tup, Mi.dix_own, Mi.dix_lst, Mi.dix_cst, Mi.dix_tup, Mi.rng0, Mi.toL, Mi.end_lawL, Mi.btw_int, Mi.btw_bl, Mi.btw_non, Mi.btw_str, Mi.is_non_int, Mi.is_bl_int, Mi.is_int_int, Mi.is_str_int, Mi.is_tup_int, Mi.is_lst_int, Mi.is_cst_int, Mi.is_own_int, Mi.is_non_bool, Mi.is_bl_bool, Mi.is_int_bool, Mi.is_str_bool, Mi.is_tup_bool, Mi.is_lst_bool, Mi.is_cst_bool, Mi.is_own_bool, Mi.is_non_tuple, Mi.is_bl_tuple, Mi.is_int_tuple, Mi.is_str_tuple, Mi.is_tup_tuple, Mi.is_lst_tuple, Mi.is_cst_tuple, Mi.is_own_tuple, Mi.is_non_list, Mi.is_bl_list, Mi.is_int_list, Mi.is_str_list, Mi.is_tup_list, Mi.is_lst_list, Mi.is_cst_list, Mi.is_own_list, Mi.is_non_str, Mi.is_bl_str, Mi.is_int_str, Mi.is_str_str, Mi.is_tup_str, Mi.is_lst_str, Mi.is_cst_str, Mi.is_own_str, Mi.cast_lit, Mi.mPart_ap, Mi.kPt_ok, Mi.mNoPart_ap, Mi.mSl_ap, Mi.kSl1_ok, Mi.kSl2_ok, Mi.kSl3_ok, Mi.dSl_tup, Mi.dSl_lst, Mi.dSl_cst, Mi.mZip_ap, Mi.kZ_tup, Mi.kZ_lst, Mi.mPick_ap, Mi.kPk_ok, Mi.kPk2_some, Mi.at_0, Mi.at_1, Mi.at_2, Mi.at_3, Mi.isT_non, Mi.isT_bl, Mi.isT_int, Mi.isT_str, Mi.isT_tup, Mi.isT_lst, Mi.isT_cst, Mi.isT_own, Mi.dInt_bl, Mi.dIs_f_non, Mi.dIs_t_non, Mi.dIs_f_bl, Mi.dIs_t_bl, Mi.dIs_f_int, Mi.dIs_t_int, Mi.dIs_f_str, Mi.dIs_t_str, Mi.dIs_f_tup, Mi.dIs_t_tup, Mi.dIs_f_lst, Mi.dIs_t_lst, Mi.dIs_f_own, Mi.dIs_t_own, Mi.dIs_f_cst, Mi.dIs_t_cst, Mi.mLR1_ap, Mi.kLR1_ok, Mi.mLR2_ap, Mi.kLR2_ok, Mi.kLR2b_ok, Mi.mCallB_ap, Mi.kcB_some, Mi.kcB1_ok, Mi.kcB2_some, Mi.kcB3_bl, Mi.kcB3_exc, Mi.mExtend_ap, Mi.kEx_some, Mi.kEx2_ok, Mi.kEx3_some, Mi.dNotIn2, Mi.dIn2, Mi.dIsB_tt, Mi.dIsB_ft, Mi.dNotB_tt, Mi.dNotB_ft, D.frz, frzs, D.plain, plains, Bool.and_self, Bool.and_true, Bool.true_and, Bool.and_false, Bool.false_and, List.length_cons, List.length_nil, List.length_set, Nat.reduceAdd, Nat.zero_add, Nat.reduceLT, Nat.reduceLeDiff, sizeLine_eq, if_true, if_false, Bool.not_true, Bool.not_false, Bool.false_eq_true, decide_true, decide_false, and_self, and_true, true_and, List.cons_append, List.nil_append, Option.map_some, Option.bind_some, Int.reduceToNat, Int.reducePow, Int.reduceNeg, Int.reduceEq, Int.reduceLT, Int.reduceLE, Int.reduceAdd, Int.reduceSub, Int.reduceMul, eq_self, Mi.dat, not_true_eq_false, not_false_eq_true, Bool.or_self, Bool.or_true, Bool.or_false, Bool.false_or, Bool.true_or, false_and, and_false, true_or, or_true, false_or, or_false, c1, w1, eb, e, ar, e1, en, q, z, List.append_nil]
    · have st : stepL n k a = [] := by
        unfold stepL
        rw [eb', if_neg fun z => h z.2.1]
      have ar : F_are_numbers [.tup [.int n, .int k, .int a, .int b]] = .ok (.bl false) := by
        have q1 : n ≤ 1000000 := by omega
        have q2 : a ≤ k - 1 := by omega
        unfold F_are_numbers m_are_numbers
        simp -implicitDefEqProofs only [Mi.kof_some, Mi.kof_none, Mi.mOp1_ap, Mi.k1_ok, Mi.k1_exc, Mi.mOp2_ap, Mi.k2a_ok, Mi.k2a_exc, Mi.k2b_ok, Mi.k2b_exc, Mi.mOpL_ap, Mi.kL_ok, Mi.kL_exc, Mi.mCons_ap, Mi.kca_ok, Mi.kca_exc, Mi.kcb_ok, Mi.kcb_exc, Mi.mNil_ap, Mi.mC_ap, Mi.mLst_ap, Mi.mTup_ap, Mi.kLst_ok, Mi.kTup_ok, Mi.mVar_ap, Mi.kV_some, Mi.mFrz_ap, Mi.kF_some, Mi.mMove_ap, Mi.kM_some, Mi.at0, Mi.atS, Mi.set0, Mi.setS, Mi.mT_ap, Mi.kT_ok, Mi.kT_exc, Mi.mNotT_ap, Mi.kN_ok, Mi.kN_exc, Mi.mAndT_ap, Mi.kA_ok, Mi.kA_exc, Mi.mOrT_ap, Mi.kO_ok, Mi.kO_exc, Mi.mAndV_ap, Mi.kAV_ok, Mi.mOrV_ap, Mi.kOV_ok, Mi.mIf_ap, Mi.kIf_ok, Mi.mChain_ap, Mi.kCh_ok, Mi.kCh1_ok, Mi.kCh2_ok, Mi.mSeq_ap, Mi.kS_nx, Mi.kS_rt, Mi.kS_exc, Mi.kS_bk, Mi.kS_ct, Mi.mNext_ap, Mi.mDrop_ap, Mi.kD_ok, Mi.kD_exc, Mi.mRet_ap, Mi.kR_ok, Mi.kR_exc, Mi.mRetN_ap, Mi.mIfS_ap, Mi.kI_ok, Mi.kI_exc, Mi.mAsg_ap, Mi.kG_ok, Mi.kG_exc, Mi.kG2_some, Mi.mgName_ap, Mi.mgTup_ap, Mi.mgCons_ap, Mi.kgs_some, Mi.mgNil_ap, Mi.mPar_ap, Mi.kP_ok, Mi.mPar3_ap, Mi.kP3_ok, Mi.ownAt_ap, Mi.kw_own, Mi.mSlotIx_ap, Mi.kX_some, Mi.kX2_ok, Mi.kX3_some, Mi.mCall_ap, Mi.kc_ok, Mi.kf_ok, Mi.kf_exc, Mi.mCallO_ap, Mi.kq_some, Mi.kq2_ok, Mi.kq3_some, Mi.kq4_ok, Mi.mSetIx_ap, Mi.ky_ok, Mi.ky2_some, Mi.ky3_ok, Mi.ky4_some, Mi.mItL_ap, Mi.kIL_ok, Mi.kRs_some, Mi.mItT_ap, Mi.kIT_ok, Mi.mRng1_ap, Mi.kr1_ok, Mi.mRng2_ap, Mi.kr2_ok, Mi.mFor_ap, Mi.kFo_ok, Mi.mLoop_nil, Mi.kl1_some, Mi.kl2_nx, Mi.kl2_ct, Mi.kl2_bk, Mi.kl2_rt, Mi.kl2_exc, Mi.mLc_ap, Mi.kLc_ok, Mi.lc_nil, Mi.kz1_some, Mi.kz2_ok, Mi.kz3_ok, Mi.mYes_ap, Mi.mAug_ap, Mi.kU_some, Mi.kU2_int, Mi.mTry_ap, Mi.kTr_nx, Mi.kTr_rt, Mi.mMeth_ap, Mi.kMe_lst, Mi.kMe_own, Mi.mAppend_ap, Mi.kAp_some, Mi.kAp2_ok, Mi.kAp3_some, Mi.dAdd_int, Mi.dAdd_str, Mi.dAdd_tup, Mi.dAdd_ll, Mi.dAdd_lo, Mi.dAdd_ol, Mi.dAdd_oo, Mi.dSub_int, Mi.dMul_int, Mi.dMod_int, Mi.dFdiv_int, Mi.dPow_int, Mi.dNeg_int, Mi.dDivmod_int, Mi.dGt_int, Mi.dGe_int, Mi.dLe_int, Mi.dLtI_int, Mi.dLt_int, Mi.dEq_int, Mi.dNe_int, Mi.dMax2_int, Mi.dMin2_int, Mi.fn1_ap, Mi.fn2_ap, Mi.dLen_tup, Mi.dLen_lst, Mi.dLen_cst, Mi.dLen_own, Mi.fnM_ap, Mi.kfn_nx, Mi.kfn_rt, Mi.kfn_exc, Mi.fnO_ap, Mi.kfo_nx, Mi.kfo_rt, Mi.env0, Mi.envN, Mi.envS, Mi.wipeN, Mi.wipeS, Mi.lit_own, Mi.lit_lst, Mi.lit_cst, Mi.ix_own, Mi.ix_lst, Mi.ix_cst, Mi.ix_tup, Mi.dix_own, Mi.dix_lst, Mi.dix_cst, Mi.dix_tup, Mi.rng0, Mi.toL, Mi.end_lawL, Mi.btw_int, Mi.btw_bl, Mi.btw_non, Mi.btw_str, Mi.is_non_int, Mi.is_bl_int, Mi.is_int_int, Mi.is_str_int, Mi.is_tup_int, Mi.is_lst_int, Mi.is_cst_int, Mi.is_own_int, Mi.is_non_bool, Mi.is_bl_bool, Mi.is_int_bool, Mi.is_str_bool, Mi.is_tup_bool, Mi.is_lst_bool, Mi.is_cst_bool, Mi.is_own_bool, Mi.is_non_tuple, Mi.is_bl_tuple, Mi.is_int_tuple, Mi.is_str_tuple, Mi.is_tup_tuple, Mi.is_lst_tuple, Mi.is_cst_tuple, Mi.is_own_tuple, Mi.is_non_list, Mi.is_bl_list, Mi.is_int_list, Mi.is_str_list, Mi.is_tup_list, Mi.is_lst_list, Mi.is_cst_list, Mi.is_own_list, Mi.is_non_str, Mi.is_bl_str, Mi.is_int_str, Mi.is_str_str, Mi.is_tup_str, Mi.is_lst_str, Mi.is_cst_str, Mi.is_own_str, Mi.cast_lit, Mi.mPart_ap, Mi.kPt_ok, Mi.mNoPart_ap, Mi.mSl_ap, Mi.kSl1_ok, Mi.kSl2_ok, Mi.kSl3_ok, Mi.dSl_tup, Mi.dSl_lst, Mi.dSl_cst, Mi.mZip_ap, Mi.kZ_tup, Mi.kZ_lst, Mi.mPick_ap, Mi.kPk_ok, Mi.kPk2_some, Mi.at_0, Mi.at_1, Mi.at_2, Mi.at_3, Mi.isT_non, Mi.isT_bl, Mi.isT_int, Mi.isT_str, Mi.isT_tup, Mi.isT_lst, Mi.isT_cst, Mi.isT_own, Mi.dInt_bl, Mi.dIs_f_non, Mi.dIs_t_non, Mi.dIs_f_bl, Mi.dIs_t_bl, Mi.dIs_f_int, Mi.dIs_t_int, Mi.dIs_f_str, Mi.dIs_t_str, Mi.dIs_f_tup, Mi.dIs_t_tup, Mi.dIs_f_lst, Mi.dIs_t_lst, Mi.dIs_f_own, Mi.dIs_t_own, Mi.dIs_f_cst, Mi.dIs_t_cst, Mi.mLR1_ap, Mi.kLR1_ok, Mi.mLR2_ap, Mi.kLR2_ok, Mi.kLR2b_ok, Mi.mCallB_ap, Mi.kcB_some, Mi.kcB1_ok, Mi.kcB2_some, Mi.kcB3_bl, Mi.kcB3_exc, Mi.mExtend_ap, Mi.kEx_some, Mi.kEx2_ok, Mi.kEx3_some, Mi.dNotIn2, Mi.dIn2, Mi.dIsB_tt, Mi.dIsB_ft, Mi.dNotB_tt, Mi.dNotB_ft, D.frz, frzs, D.plain, plains, Bool.and_self, Bool.and_true, Bool.true_and, Bool.and_false, Bool.false_and, List.length_cons, List.length_nil, List.length_set, Nat.reduceAdd, Nat.zero_add, Nat.reduceLT, Nat.reduceLeDiff, sizeLine_eq, if_true, if_false, Bool.not_true, Bool.not_false, Bool.false_eq_true, decide_true, decide_false, and_self, and_true, true_and, List.cons_append, List.nil_append, Option.map_some, Option.bind_some, Int.reduceToNat, Int.reducePow, Int.reduceNeg, Int.reduceEq, Int.reduceLT, Int.reduceLE, Int.reduceAdd, Int.reduceSub, Int.reduceMul, eq_self, Mi.dat, not_true_eq_false, not_false_eq_true, Bool.or_self, Bool.or_true, Bool.or_false, Bool.false_or, Bool.true_or, false_and, and_false, true_or, or_true, false_or, or_false, vb_int, g1, q1, g3, g4, g5, q2, hb0, h]
      rw [st]
      simp -implicitDefEqProofs only [Mi.kof_some, Mi.kof_none, Mi.mOp1_ap, Mi.k1_ok, Mi.k1_exc, Mi.mOp2_ap, Mi.k2a_ok, Mi.k2a_exc, Mi.k2b_ok, Mi.k2b_exc, Mi.mOpL_ap, Mi.kL_ok, Mi.kL_exc, Mi.mCons_ap, Mi.kca_ok, Mi.kca_exc, Mi.kcb_ok, Mi.kcb_exc, Mi.mNil_ap, Mi.mC_ap, Mi.mLst_ap, Mi.mTup_ap, Mi.kLst_ok, Mi.kTup_ok, Mi.mVar_ap, Mi.kV_some, Mi.mFrz_ap, Mi.kF_some, Mi.mMove_ap, Mi.kM_some, Mi.at0, Mi.atS, Mi.set0, Mi.setS, Mi.mT_ap, Mi.kT_ok, Mi.kT_exc, Mi.mNotT_ap, Mi.kN_ok, Mi.kN_exc, Mi.mAndT_ap, Mi.kA_ok, Mi.kA_exc, Mi.mOrT_ap, Mi.kO_ok, Mi.kO_exc, Mi.mAndV_ap, Mi.kAV_ok, Mi.mOrV_ap, Mi.kOV_ok, Mi.mIf_ap, Mi.kIf_ok, Mi.mChain_ap, Mi.kCh_ok, Mi.kCh1_ok, Mi.kCh2_ok, Mi.mSeq_ap, Mi.kS_nx, Mi.kS_rt, Mi.kS_exc, Mi.kS_bk, Mi.kS_ct, Mi.mNext_ap, Mi.mDrop_ap, Mi.kD_ok, Mi.kD_exc, Mi.mRet_ap, Mi.kR_ok, Mi.kR_exc, Mi.mRetN_ap, Mi.mIfS_ap, Mi.kI_ok, Mi.kI_exc, Mi.mAsg_ap, Mi.kG_ok, Mi.kG_exc, Mi.kG2_some, Mi.mgName_ap, Mi.mgTup_ap, Mi.mgCons_ap, Mi.kgs_some, Mi.mgNil_ap, Mi.mPar_ap, Mi.kP_ok, Mi.mPar3_ap, Mi.kP3_ok, Mi.ownAt_ap, Mi.kw_own, Mi.mSlotIx_ap, Mi.kX_some, Mi.kX2_ok, Mi.kX3_some, Mi.mCall_ap, Mi.kc_ok, Mi.kf_ok, Mi.kf_exc, Mi.mCallO_ap, Mi.kq_some, Mi.kq2_ok, Mi.kq3_some, Mi.kq4_ok, Mi.mSetIx_ap, Mi.ky_ok, Mi.ky2_some, Mi.ky3_ok, Mi.ky4_some, Mi.mItL_ap, Mi.kIL_ok, Mi.kRs_some, Mi.mItT_ap, Mi.kIT_ok, Mi.mRng1_ap, Mi.kr1_ok, Mi.mRng2_ap, Mi.kr2_ok, Mi.mFor_ap, Mi.kFo_ok, Mi.mLoop_nil, Mi.kl1_some, Mi.kl2_nx, Mi.kl2_ct, Mi.kl2_bk, Mi.kl2_rt, Mi.kl2_exc, Mi.mLc_ap, Mi.kLc_ok, Mi.lc_nil, Mi.kz1_some, Mi.kz2_ok, Mi.kz3_ok, Mi.mYes_ap, Mi.mAug_ap, Mi.kU_some, Mi.kU2_int, Mi.mTry_ap, Mi.kTr_nx, Mi.kTr_rt, Mi.mMeth_ap, Mi.kMe_lst, Mi.kMe_own, Mi.mAppend_ap, Mi.kAp_some, Mi.kAp2_ok, Mi.kAp3_some, Mi.dAdd_int, Mi.dAdd_str, Mi.dAdd_tup, Mi.dAdd_ll, Mi.dAdd_lo, Mi.dAdd_ol, Mi.dAdd_oo, Mi.dSub_int, Mi.dMul_int, Mi.dMod_int, Mi.dFdiv_int, Mi.dPow_int, Mi.dNeg_int, Mi.dDivmod_int, Mi.dGt_int, Mi.dGe_int, Mi.dLe_int, Mi.dLtI_int, Mi.dLt_int, Mi.dEq_int, Mi.dNe_int, Mi.dMax2_int, Mi.dMin2_int, Mi.fn1_ap, Mi.fn2_ap, Mi.dLen_tup, Mi.dLen_lst, Mi.dLen_cst, Mi.dLen_own, Mi.fnM_ap, Mi.kfn_nx, Mi.kfn_rt, Mi.kfn_exc, Mi.fnO_ap, Mi.kfo_nx, Mi.kfo_rt, Mi.env0, Mi.envN, Mi.envS, Mi.wipeN, Mi.wipeS, Mi.lit_own, Mi.lit_lst, Mi.lit_cst, Mi.ix_own, Mi.ix_lst, Mi.ix_cst, Mi.ix_tup, Mi.dix_own, Mi.dix_lst, Mi.dix_cst, Mi.dix_tup, Mi.rng0, Mi.toL, Mi.end_lawL, Mi.btw_int, Mi.btw_bl, Mi.btw_non, Mi.btw_str, Mi.is_non_int, Mi.is_bl_int, Mi.is_int_int, Mi.is_str_int, Mi.is_tup_int, Mi.is_lst_int, Mi.is_cst_int, Mi.is_own_int, Mi.is_non_bool, Mi.is_bl_bool, Mi.is_int_bool, Mi.is_str_bool, Mi.is_tup_bool, Mi.is_lst_bool, Mi.is_cst_bool, Mi.is_own_bool, Mi.is_non_tuple, Mi.is_bl_tuple, Mi.is_int_tuple, Mi.is_str_tuple, Mi.is_tup_tuple, Mi.is_lst_tuple, Mi.is_cst_tuple, Mi.is_own_tuple, Mi.is_non_list, Mi.is_bl_list, Mi.is_int_list, Mi.is_str_list, Mi.is_tup_list, Mi.is_lst_list, Mi.is_cst_list, Mi.is_own_list, Mi.is_non_str, Mi.is_bl_str, Mi.is_int_str, Mi.is_str_str, Mi.is_tup_str, Mi.is_lst_str, Mi.is_cst_str, Mi.is_own_str, Mi.cast_lit, Mi.mPart_ap, Mi.kPt_ok, Mi.mNoPart_ap, Mi.mSl_ap, Mi.kSl1_ok, Mi.kSl2_ok, Mi.kSl3_ok, Mi.dSl_tup, Mi.dSl_lst, Mi.dSl_cst, Mi.mZip_ap, Mi.kZ_tup, Mi.kZ_lst, Mi.mPick_ap, Mi.kPk_ok, Mi.kPk2_some, Mi.at_0, Mi.at_1, Mi.at_2, Mi.at_3, Mi.isT_non, Mi.isT_bl, Mi.isT_int, Mi.isT_str, Mi.isT_tup, Mi.isT_lst, Mi.isT_cst, Mi.isT_own, Mi.dInt_bl, Mi.dIs_f_non, Mi.dIs_t_non, Mi.dIs_f_bl, Mi.dIs_t_bl, Mi.dIs_f_int, Mi.dIs_t_int, Mi.dIs_f_str, Mi.dIs_t_str, Mi.dIs_f_tup, Mi.dIs_t_tup, Mi.dIs_f_lst, Mi.dIs_t_lst, Mi.dIs_f_own, Mi.dIs_t_own, Mi.dIs_f_cst, Mi.dIs_t_cst, Mi.mLR1_ap, Mi.kLR1_ok, Mi.mLR2_ap, Mi.kLR2_ok, Mi.kLR2b_ok, Mi.mCallB_ap, Mi.kcB_some, Mi.kcB1_ok, Mi.kcB2_some, Mi.kcB3_bl, Mi.kcB3_exc, Mi.mExtend_ap, Mi.kEx_some, Mi.kEx2_ok, Mi.kEx3_some, Mi.dNotIn2, Mi.dIn2, Mi.dIsB_tt, Mi.dIsB_ft, Mi.dNotB_tt, Mi.dNotB_ft, D.frz, frzs, D.plain, plains, Bool.and_self, Bool.and_true, Bool.true_and, Bool.and_false, Bool.false_and, List.length_cons, List.length_nil, List.length_set, Nat.reduceAdd, Nat.zero_add, Nat.reduceLT, Nat.reduceLeDiff, sizeLine_eq, if_true, if_false, Bool.not_true, Bool.not_false, Bool.false_eq_true, decide_true, decide_false, and_self, and_true, true_and, List.cons_append, List.nil_append, Option.map_some, Option.bind_some, Int.reduceToNat, Int.reducePow, Int.reduceNeg, Int.reduceEq, Int.reduceLT, Int.reduceLE, Int.reduceAdd, Int.reduceSub, Int.reduceMul, eq_self, Mi.dat, not_true_eq_false, not_false_eq_true, Bool.or_self, Bool.or_true, Bool.or_false, Bool.false_or, Bool.true_or, false_and, and_false, true_or, or_true, false_or, or_false, c1, w1, eb, e, ar, List.append_nil]
  · have st : stepL n k a = [] := by
      unfold stepL
      rw [eb']
      by_cases q : 0 ≤ b ∧ b ≤ k ∧ emp n k a (.int b) = true
      · have := emp_b I' q.1 q.2.1 q.2.2
        omega
      · rw [if_neg q]
    rw [st]
    simp -implicitDefEqProofs only [Mi.kof_some, Mi.kof_none, Mi.mOp1_ap, Mi.k1_ok, Mi.k1_exc, Mi.mOp2_ap, Mi.k2a_ok, Mi.k2a_exc, Mi.k2b_ok, Mi.k2b_exc, Mi.mOpL_ap, Mi.kL_ok, Mi.kL_exc, Mi.mCons_ap, Mi.kca_ok, Mi.kca_exc, Mi.kcb_ok, Mi.kcb_exc, Mi.mNil_ap, Mi.mC_ap, Mi.mLst_ap, Mi.mTup_ap, Mi.kLst_ok, Mi.kTup_ok, Mi.mVar_ap, Mi.kV_some, Mi.mFrz_ap, Mi.kF_some, Mi.mMove_ap, Mi.kM_some, Mi.at0, Mi.atS, Mi.set0, Mi.setS, Mi.mT_ap, Mi.kT_ok, Mi.kT_exc, Mi.mNotT_ap, Mi.kN_ok, Mi.kN_exc, Mi.mAndT_ap, Mi.kA_ok, Mi.kA_exc, Mi.mOrT_ap, Mi.kO_ok, Mi.kO_exc, Mi.mAndV_ap, Mi.kAV_ok, Mi.mOrV_ap, Mi.kOV_ok, Mi.mIf_ap, Mi.kIf_ok, Mi.mChain_ap, Mi.kCh_ok, Mi.kCh1_ok, Mi.kCh2_ok, Mi.mSeq_ap, Mi.kS_nx, Mi.kS_rt, Mi.kS_exc, Mi.kS_bk, Mi.kS_ct, Mi.mNext_ap, Mi.mDrop_ap, Mi.kD_ok, Mi.kD_exc, Mi.mRet_ap, Mi.kR_ok, Mi.kR_exc, Mi.mRetN_ap, Mi.mIfS_ap, Mi.kI_ok, Mi.kI_exc, Mi.mAsg_ap, Mi.kG_ok, Mi.kG_exc, Mi.kG2_some, Mi.mgName_ap, Mi.mgTup_ap, Mi.mgCons_ap, Mi.kgs_some, Mi.mgNil_ap, Mi.mPar_ap, Mi.kP_ok, Mi.mPar3_ap, Mi.kP3_ok, Mi.ownAt_ap, Mi.kw_own, Mi.mSlotIx_ap, Mi.kX_some, Mi.kX2_ok, Mi.kX3_some, Mi.mCall_ap, Mi.kc_ok, Mi.kf_ok, Mi.kf_exc, Mi.mCallO_ap, Mi.kq_some, Mi.kq2_ok, Mi.kq3_some, Mi.kq4_ok, Mi.mSetIx_ap, Mi.ky_ok, Mi.ky2_some, Mi.ky3_ok, Mi.ky4_some, Mi.mItL_ap, Mi.kIL_ok, Mi.kRs_some, Mi.mItT_ap, Mi.kIT_ok, Mi.mRng1_ap, Mi.kr1_ok, Mi.mRng2_ap, Mi.kr2_ok, Mi.mFor_ap, Mi.kFo_ok, Mi.mLoop_nil, Mi.kl1_some, Mi.kl2_nx, Mi.kl2_ct, Mi.kl2_bk, Mi.kl2_rt, Mi.kl2_exc, Mi.mLc_ap, Mi.kLc_ok, Mi.lc_nil, Mi.kz1_some, Mi.kz2_ok, Mi.kz3_ok, Mi.mYes_ap, Mi.mAug_ap, Mi.kU_some, Mi.kU2_int, Mi.mTry_ap, Mi.kTr_nx, Mi.kTr_rt, Mi.mMeth_ap, Mi.kMe_lst, Mi.kMe_own, Mi.mAppend_ap, Mi.kAp_some, Mi.kAp2_ok, Mi.kAp3_some, Mi.dAdd_int, Mi.dAdd_str, Mi.dAdd_tup, Mi.dAdd_ll, Mi.dAdd_lo, Mi.dAdd_ol, Mi.dAdd_oo, Mi.dSub_int, Mi.dMul_int, Mi.dMod_int, Mi.dFdiv_int, Mi.dPow_int, Mi.dNeg_int, Mi.dDivmod_int, Mi.dGt_int, Mi.dGe_int, Mi.dLe_int, Mi.dLtI_int, Mi.dLt_int, Mi.dEq_int, Mi.dNe_int, Mi.dMax2_int, Mi.dMin2_int, Mi.fn1_ap, Mi.fn2_ap, Mi.dLen_tup, Mi.dLen_lst, Mi.dLen_cst, Mi.dLen_own, Mi.fnM_ap, Mi.kfn_nx, Mi.kfn_rt, Mi.kfn_exc, Mi.fnO_ap, Mi.kfo_nx, Mi.kfo_rt, Mi.env0, Mi.envN, Mi.envS, Mi.wipeN, Mi.wipeS, Mi.lit_own, Mi.lit_lst, Mi.lit_cst, Mi.ix_own, Mi.ix_lst, Mi.ix_cst, Mi.ix_tup, Mi.dix_own, Mi.dix_lst, Mi.dix_cst, Mi.dix_tup, Mi.rng0, Mi.toL, Mi.end_lawL, Mi.btw_int, Mi.btw_bl, Mi.btw_non, Mi.btw_str, Mi.is_non_int, Mi.is_bl_int, Mi.is_int_int, Mi.is_str_int, Mi.is_tup_int, Mi.is_lst_int, Mi.is_cst_int, Mi.is_own_int, Mi.is_non_bool, Mi.is_bl_bool, Mi.is_int_bool, Mi.is_str_bool, Mi.is_tup_bool, Mi.is_lst_bool, Mi.is_cst_bool, Mi.is_own_bool, Mi.is_non_tuple, Mi.is_bl_tuple, Mi.is_int_tuple, Mi.is_str_tuple, Mi.is_tup_tuple, Mi.is_lst_tuple, Mi.is_cst_tuple, Mi.is_own_tuple, Mi.is_non_list, Mi.is_bl_list, Mi.is_int_list, Mi.is_str_list, Mi.is_tup_list, Mi.is_lst_list, Mi.is_cst_list, Mi.is_own_list, Mi.is_non_str, Mi.is_bl_str, Mi.is_int_str, Mi.is_str_str, Mi.is_tup_str, Mi.is_lst_str, Mi.is_cst_str, Mi.is_own_str, Mi.cast_lit, Mi.mPart_ap, Mi.kPt_ok, Mi.mNoPart_ap, Mi.mSl_ap, Mi.kSl1_ok, Mi.kSl2_ok, Mi.kSl3_ok, Mi.dSl_tup, Mi.dSl_lst, Mi.dSl_cst, Mi.mZip_ap, Mi.kZ_tup, Mi.kZ_lst, Mi.mPick_ap, Mi.kPk_ok, Mi.kPk2_some, Mi.at_0, Mi.at_1, Mi.at_2, Mi.at_3, Mi.isT_non, Mi.isT_bl, Mi.isT_int, Mi.isT_str, Mi.isT_tup, Mi.isT_lst, Mi.isT_cst, Mi.isT_own, Mi.dInt_bl, Mi.dIs_f_non, Mi.dIs_t_non, Mi.dIs_f_bl, Mi.dIs_t_bl, Mi.dIs_f_int, Mi.dIs_t_int, Mi.dIs_f_str, Mi.dIs_t_str, Mi.dIs_f_tup, Mi.dIs_t_tup, Mi.dIs_f_lst, Mi.dIs_t_lst, Mi.dIs_f_own, Mi.dIs_t_own, Mi.dIs_f_cst, Mi.dIs_t_cst, Mi.mLR1_ap, Mi.kLR1_ok, Mi.mLR2_ap, Mi.kLR2_ok, Mi.kLR2b_ok, Mi.mCallB_ap, Mi.kcB_some, Mi.kcB1_ok, Mi.kcB2_some, Mi.kcB3_bl, Mi.kcB3_exc, Mi.mExtend_ap, Mi.kEx_some, Mi.kEx2_ok, Mi.kEx3_some, Mi.dNotIn2, Mi.dIn2, Mi.dIsB_tt, Mi.dIsB_ft, Mi.dNotB_tt, Mi.dNotB_ft, D.frz, frzs, D.plain, plains, Bool.and_self, Bool.and_true, Bool.true_and, Bool.and_false, Bool.false_and, List.length_cons, List.length_nil, List.length_set, Nat.reduceAdd, Nat.zero_add, Nat.reduceLT, Nat.reduceLeDiff, sizeLine_eq, if_true, if_false, Bool.not_true, Bool.not_false, Bool.false_eq_true, decide_true, decide_false, and_self, and_true, true_and, List.cons_append, List.nil_append, Option.map_some, Option.bind_some, Int.reduceToNat, Int.reducePow, Int.reduceNeg, Int.reduceEq, Int.reduceLT, Int.reduceLE, Int.reduceAdd, Int.reduceSub, Int.reduceMul, eq_self, Mi.dat, not_true_eq_false, not_false_eq_true, Bool.or_self, Bool.or_true, Bool.or_false, Bool.false_or, Bool.true_or, false_and, and_false, true_or, or_true, false_or, or_false, c1, w1, eb, e, List.append_nil]
noncomputable def inn (n k : Int) : Int → Nat → List D
  | _, 0 => []
  | lo, m + 1 => stepL n k lo ++ inn n k (lo + 1) m
noncomputable def outr (n : Int) : Int → Nat → List D
  | _, 0 => []
  | lo, m + 1 => inn n lo 0 lo.toNat ++ outr n (lo + 1) m
theorem inn_len {n k : Int} : ∀ (m : Nat) (lo : Int), (inn n k lo m).length ≤ m
  | 0, lo => Nat.le_refl _
  | m + 1, lo => by
    unfold inn
    have := inn_len (n := n) (k := k) m (lo + 1)
    have := step_len (n := n) (k := k) (a := lo)
    rw [List.length_append]; omega
theorem outr_len {n : Int} : ∀ (m : Nat) (lo : Int), lo + m ≤ 61 → (outr n lo m).length ≤ 60 * m
  | 0, lo, _ => by show 0 ≤ _; omega
  | m + 1, lo, h => by
    unfold outr
    have := inn_len (n := n) (k := lo) lo.toNat 0
    have := outr_len (n := n) m (lo + 1) (by omega)
    rw [List.length_append]; omega
theorem p_inn {n k : Int} (hn : 3 ≤ n) (hn2 : n ≤ 60) (k0 : 1 ≤ k) (k1 : k ≤ n - 2) : ∀ (m : Nat) (lo : Int) (acc : List D) (o3 o4 o5 o6 : Option D), 0 ≤ lo → lo + m ≤ k → acc.length + m < 10000 →
    ∃ p3 p4 p5 p6, mLoop (mgName 3) l_all_numbers_1 (rangeD lo m) [some (.int n), some (.own acc), some (.int k), o3, o4, o5, o6] = .nx [some (.int n), some (.own (acc ++ inn n k lo m)), some (.int k), p3, p4, p5, p6]
  | 0, lo, acc, o3, o4, o5, o6, _, _, _ => ⟨o3, o4, o5, o6, by unfold inn; rw [List.append_nil]; rfl⟩
  | m + 1, lo, acc, o3, o4, o5, o6, h0, h1, hl => by
    obtain ⟨p4, p5, p6, ht⟩ := p_turn (n := n) (k := k) (a := lo) ⟨hn, hn2, k0, k1, h0, by omega⟩ acc (by omega) o4 o5 o6
    have sl := step_len (n := n) (k := k) (a := lo)
    obtain ⟨q3, q4, q5, q6, hi⟩ := p_inn hn hn2 k0 k1 m (lo + 1) (acc ++ stepL n k lo) (some (.int lo)) p4 p5 p6 (by omega) (by omega) (by rw [List.length_append]; omega)
    refine ⟨q3, q4, q5, q6, ?_⟩
    have hg : mgName 3 (.int lo) [some (.int n), some (.own acc), some (.int k), o3, o4, o5, o6] = some [some (.int n), some (.own acc), some (.int k), some (.int lo), o4, o5, o6] := rfl
    rw [Mi.rngS, Mi.mLoop_cons, hg, Mi.kl1_some, ht, Mi.kl2_nx, hi]
    conv => rhs; unfold inn
    rw [List.append_assoc]
theorem p_out {n : Int} (hn : 3 ≤ n) (hn2 : n ≤ 60) : ∀ (m : Nat) (lo : Int) (acc : List D) (o2 o3 o4 o5 o6 : Option D), 1 ≤ lo → lo + m ≤ n - 1 → acc.length + 60 * m < 9000 →
    ∃ p2 p3 p4 p5 p6, mLoop (mgName 2) l_all_numbers_0 (rangeD lo m) [some (.int n), some (.own acc), o2, o3, o4, o5, o6] = .nx [some (.int n), some (.own (acc ++ outr n lo m)), p2, p3, p4, p5, p6]
  | 0, lo, acc, o2, o3, o4, o5, o6, _, _, _ => ⟨o2, o3, o4, o5, o6, by unfold outr; rw [List.append_nil]; rfl⟩
  | m + 1, lo, acc, o2, o3, o4, o5, o6, h0, h1, hl => by
    obtain ⟨p3, p4, p5, p6, ht⟩ := p_inn hn hn2 (k := lo) (by omega) (by omega) lo.toNat 0 acc o3 o4 o5 o6 (by omega) (by omega) (by omega)
    have il := inn_len (n := n) (k := lo) lo.toNat 0
    obtain ⟨q2, q3, q4, q5, q6, hi⟩ := p_out hn hn2 m (lo + 1) (acc ++ inn n lo 0 lo.toNat) (some (.int lo)) p3 p4 p5 p6 (by omega) (by omega) (by rw [List.length_append]; omega)
    refine ⟨q2, q3, q4, q5, q6, ?_⟩
    have hg : mgName 2 (.int lo) [some (.int n), some (.own acc), o2, o3, o4, o5, o6] = some [some (.int n), some (.own acc), some (.int lo), o3, o4, o5, o6] := rfl
    have sl : small62 lo := ⟨by omega, by omega⟩
    have hb : l_all_numbers_0 [some (.int n), some (.own acc), some (.int lo), o3, o4, o5, o6] = .nx [some (.int n), some (.own (acc ++ inn n lo 0 lo.toNat)), some (.int lo), p3, p4, p5, p6] := by
      unfold l_all_numbers_1 at ht
      unfold l_all_numbers_0
      simp -implicitDefEqProofs only [Mi.kof_some, Mi.kof_none, Mi.mOp1_ap, Mi.k1_ok, Mi.k1_exc, Mi.mOp2_ap, Mi.k2a_ok, Mi.k2a_exc, Mi.k2b_ok, Mi.k2b_exc, Mi.mOpL_ap, Mi.kL_ok, Mi.kL_exc, Mi.mCons_ap, Mi.kca_ok, Mi.kca_exc, Mi.kcb_ok, Mi.kcb_exc, Mi.mNil_ap, Mi.mC_ap, Mi.mLst_ap, Mi.mTup_ap, Mi.kLst_ok, Mi.kTup_ok, Mi.mVar_ap, Mi.kV_some, Mi.mFrz_ap, Mi.kF_some, Mi.mMove_ap, Mi.kM_some, Mi.at0, Mi.atS, Mi.set0, Mi.setS, Mi.mT_ap, Mi.kT_ok, Mi.kT_exc, Mi.mNotT_ap, Mi.kN_ok, Mi.kN_exc, Mi.mAndT_ap, Mi.kA_ok, Mi.kA_exc, Mi.mOrT_ap, Mi.kO_ok, Mi.kO_exc, Mi.mAndV_ap, Mi.kAV_ok, Mi.mOrV_ap, Mi.kOV_ok, Mi.mIf_ap, Mi.kIf_ok, Mi.mChain_ap, Mi.kCh_ok, Mi.kCh1_ok, Mi.kCh2_ok, Mi.mSeq_ap, Mi.kS_nx, Mi.kS_rt, Mi.kS_exc, Mi.kS_bk, Mi.kS_ct, Mi.mNext_ap, Mi.mDrop_ap, Mi.kD_ok, Mi.kD_exc, Mi.mRet_ap, Mi.kR_ok, Mi.kR_exc, Mi.mRetN_ap, Mi.mIfS_ap, Mi.kI_ok, Mi.kI_exc, Mi.mAsg_ap, Mi.kG_ok, Mi.kG_exc, Mi.kG2_some, Mi.mgName_ap, Mi.mgTup_ap, Mi.mgCons_ap, Mi.kgs_some, Mi.mgNil_ap, Mi.mPar_ap, Mi.kP_ok, Mi.mPar3_ap, Mi.kP3_ok, Mi.ownAt_ap, Mi.kw_own, Mi.mSlotIx_ap, Mi.kX_some, Mi.kX2_ok, Mi.kX3_some, Mi.mCall_ap, Mi.kc_ok, Mi.kf_ok, Mi.kf_exc, Mi.mCallO_ap, Mi.kq_some, Mi.kq2_ok, Mi.kq3_some, Mi.kq4_ok, Mi.mSetIx_ap, Mi.ky_ok, Mi.ky2_some, Mi.ky3_ok, Mi.ky4_some, Mi.mItL_ap, Mi.kIL_ok, Mi.kRs_some, Mi.mItT_ap, Mi.kIT_ok, Mi.mRng1_ap, Mi.kr1_ok, Mi.mRng2_ap, Mi.kr2_ok, Mi.mFor_ap, Mi.kFo_ok, Mi.mLoop_nil, Mi.kl1_some, Mi.kl2_nx, Mi.kl2_ct, Mi.kl2_bk, Mi.kl2_rt, Mi.kl2_exc, Mi.mLc_ap, Mi.kLc_ok, Mi.lc_nil, Mi.kz1_some, Mi.kz2_ok, Mi.kz3_ok, Mi.mYes_ap, Mi.mAug_ap, Mi.kU_some, Mi.kU2_int, Mi.mTry_ap, Mi.kTr_nx, Mi.kTr_rt, Mi.mMeth_ap, Mi.kMe_lst, Mi.kMe_own, Mi.mAppend_ap, Mi.kAp_some, Mi.kAp2_ok, Mi.kAp3_some, Mi.dAdd_int, Mi.dAdd_str, Mi.dAdd_tup, Mi.dAdd_ll, Mi.dAdd_lo, Mi.dAdd_ol, Mi.dAdd_oo, Mi.dSub_int, Mi.dMul_int, Mi.dMod_int, Mi.dFdiv_int, Mi.dPow_int, Mi.dNeg_int, Mi.dDivmod_int, Mi.dGt_int, Mi.dGe_int, Mi.dLe_int, Mi.dLtI_int, Mi.dLt_int, Mi.dEq_int, Mi.dNe_int, Mi.dMax2_int, Mi.dMin2_int, Mi.fn1_ap, Mi.fn2_ap, Mi.dLen_tup, Mi.dLen_lst, Mi.dLen_cst, Mi.dLen_own, Mi.fnM_ap, Mi.kfn_nx, Mi.kfn_rt, Mi.kfn_exc, Mi.fnO_ap, Mi.kfo_nx, Mi.kfo_rt, Mi.env0, Mi.envN, Mi.envS, Mi.wipeN, Mi.wipeS, Mi.lit_own, Mi.lit_lst, Mi.lit_cst, Mi.ix_own, Mi.ix_lst, Mi.ix_cst, Mi.ix_tup, Mi.dix_own, Mi.dix_lst, Mi.dix_cst, Mi.dix_tup, Mi.rng0, Mi.toL, Mi.end_lawL, Mi.btw_int, Mi.btw_bl, Mi.btw_non, Mi.btw_str, Mi.is_non_int, Mi.is_bl_int, Mi.is_int_int, Mi.is_str_int, Mi.is_tup_int, Mi.is_lst_int, Mi.is_cst_int, Mi.is_own_int, Mi.is_non_bool, Mi.is_bl_bool, Mi.is_int_bool, Mi.is_str_bool, Mi.is_tup_bool, Mi.is_lst_bool, Mi.is_cst_bool, Mi.is_own_bool, Mi.is_non_tuple, Mi.is_bl_tuple, Mi.is_int_tuple, Mi.is_str_tuple, Mi.is_tup_tuple, Mi.is_lst_tuple, Mi.is_cst_tuple, Mi.is_own_tuple, Mi.is_non_list, Mi.is_bl_list, Mi.is_int_list, Mi.is_str_list, Mi.is_tup_list, Mi.is_lst_list, Mi.is_cst_list, Mi.is_own_list, Mi.is_non_str, Mi.is_bl_str, Mi.is_int_str, Mi.is_str_str, Mi.is_tup_str, Mi.is_lst_str, Mi.is_cst_str, Mi.is_own_str, Mi.cast_lit, Mi.mPart_ap, Mi.kPt_ok, Mi.mNoPart_ap, Mi.mSl_ap, Mi.kSl1_ok, Mi.kSl2_ok, Mi.kSl3_ok, Mi.dSl_tup, Mi.dSl_lst, Mi.dSl_cst, Mi.mZip_ap, Mi.kZ_tup, Mi.kZ_lst, Mi.mPick_ap, Mi.kPk_ok, Mi.kPk2_some, Mi.at_0, Mi.at_1, Mi.at_2, Mi.at_3, Mi.isT_non, Mi.isT_bl, Mi.isT_int, Mi.isT_str, Mi.isT_tup, Mi.isT_lst, Mi.isT_cst, Mi.isT_own, Mi.dInt_bl, Mi.dIs_f_non, Mi.dIs_t_non, Mi.dIs_f_bl, Mi.dIs_t_bl, Mi.dIs_f_int, Mi.dIs_t_int, Mi.dIs_f_str, Mi.dIs_t_str, Mi.dIs_f_tup, Mi.dIs_t_tup, Mi.dIs_f_lst, Mi.dIs_t_lst, Mi.dIs_f_own, Mi.dIs_t_own, Mi.dIs_f_cst, Mi.dIs_t_cst, Mi.mLR1_ap, Mi.kLR1_ok, Mi.mLR2_ap, Mi.kLR2_ok, Mi.kLR2b_ok, Mi.mCallB_ap, Mi.kcB_some, Mi.kcB1_ok, Mi.kcB2_some, Mi.kcB3_bl, Mi.kcB3_exc, Mi.mExtend_ap, Mi.kEx_some, Mi.kEx2_ok, Mi.kEx3_some, Mi.dNotIn2, Mi.dIn2, Mi.dIsB_tt, Mi.dIsB_ft, Mi.dNotB_tt, Mi.dNotB_ft, D.frz, frzs, D.plain, plains, Bool.and_self, Bool.and_true, Bool.true_and, Bool.and_false, Bool.false_and, List.length_cons, List.length_nil, List.length_set, Nat.reduceAdd, Nat.zero_add, Nat.reduceLT, Nat.reduceLeDiff, sizeLine_eq, if_true, if_false, Bool.not_true, Bool.not_false, Bool.false_eq_true, decide_true, decide_false, and_self, and_true, true_and, List.cons_append, List.nil_append, Option.map_some, Option.bind_some, Int.reduceToNat, Int.reducePow, Int.reduceNeg, Int.reduceEq, Int.reduceLT, Int.reduceLE, Int.reduceAdd, Int.reduceSub, Int.reduceMul, eq_self, Mi.dat, not_true_eq_false, not_false_eq_true, Bool.or_self, Bool.or_true, Bool.or_false, Bool.false_or, Bool.true_or, false_and, and_false, true_or, or_true, false_or, or_false, sl, ht]
    rw [Mi.rngS, Mi.mLoop_cons, hg, Mi.kl1_some, hb, Mi.kl2_nx, hi]
    conv => rhs; unfold outr
    rw [List.append_assoc]
noncomputable def allL (n : Int) : List D := outr n 1 (n - 1 - 1).toNat
theorem p_all {n : Int} (hn : 3 ≤ n) (hn2 : n ≤ 60) : F_all_numbers [.int n] = .ok (.own (allL n)) := by
  obtain ⟨p2, p3, p4, p5, p6, h⟩ := p_out hn hn2 (n - 1 - 1).toNat 1 [] none none none none none (by decide) (by omega) (by show 0 + _ < _; omega)
  have s1 : small62 1 := by decide
  have s2 : small62 (n - 1) := ⟨by omega, by omega⟩
  unfold l_all_numbers_0 at h
  rw [List.nil_append] at h
  unfold F_all_numbers m_all_numbers
  simp -implicitDefEqProofs only [Mi.kof_some, Mi.kof_none, Mi.mOp1_ap, Mi.k1_ok, Mi.k1_exc, Mi.mOp2_ap, Mi.k2a_ok, Mi.k2a_exc, Mi.k2b_ok, Mi.k2b_exc, Mi.mOpL_ap, Mi.kL_ok, Mi.kL_exc, Mi.mCons_ap, Mi.kca_ok, Mi.kca_exc, Mi.kcb_ok, Mi.kcb_exc, Mi.mNil_ap, Mi.mC_ap, Mi.mLst_ap, Mi.mTup_ap, Mi.kLst_ok, Mi.kTup_ok, Mi.mVar_ap, Mi.kV_some, Mi.mFrz_ap, Mi.kF_some, Mi.mMove_ap, Mi.kM_some, Mi.at0, Mi.atS, Mi.set0, Mi.setS, Mi.mT_ap, Mi.kT_ok, Mi.kT_exc, Mi.mNotT_ap, Mi.kN_ok, Mi.kN_exc, Mi.mAndT_ap, Mi.kA_ok, Mi.kA_exc, Mi.mOrT_ap, Mi.kO_ok, Mi.kO_exc, Mi.mAndV_ap, Mi.kAV_ok, Mi.mOrV_ap, Mi.kOV_ok, Mi.mIf_ap, Mi.kIf_ok, Mi.mChain_ap, Mi.kCh_ok, Mi.kCh1_ok, Mi.kCh2_ok, Mi.mSeq_ap, Mi.kS_nx, Mi.kS_rt, Mi.kS_exc, Mi.kS_bk, Mi.kS_ct, Mi.mNext_ap, Mi.mDrop_ap, Mi.kD_ok, Mi.kD_exc, Mi.mRet_ap, Mi.kR_ok, Mi.kR_exc, Mi.mRetN_ap, Mi.mIfS_ap, Mi.kI_ok, Mi.kI_exc, Mi.mAsg_ap, Mi.kG_ok, Mi.kG_exc, Mi.kG2_some, Mi.mgName_ap, Mi.mgTup_ap, Mi.mgCons_ap, Mi.kgs_some, Mi.mgNil_ap, Mi.mPar_ap, Mi.kP_ok, Mi.mPar3_ap, Mi.kP3_ok, Mi.ownAt_ap, Mi.kw_own, Mi.mSlotIx_ap, Mi.kX_some, Mi.kX2_ok, Mi.kX3_some, Mi.mCall_ap, Mi.kc_ok, Mi.kf_ok, Mi.kf_exc, Mi.mCallO_ap, Mi.kq_some, Mi.kq2_ok, Mi.kq3_some, Mi.kq4_ok, Mi.mSetIx_ap, Mi.ky_ok, Mi.ky2_some, Mi.ky3_ok, Mi.ky4_some, Mi.mItL_ap, Mi.kIL_ok, Mi.kRs_some, Mi.mItT_ap, Mi.kIT_ok, Mi.mRng1_ap, Mi.kr1_ok, Mi.mRng2_ap, Mi.kr2_ok, Mi.mFor_ap, Mi.kFo_ok, Mi.mLoop_nil, Mi.kl1_some, Mi.kl2_nx, Mi.kl2_ct, Mi.kl2_bk, Mi.kl2_rt, Mi.kl2_exc, Mi.mLc_ap, Mi.kLc_ok, Mi.lc_nil, Mi.kz1_some, Mi.kz2_ok, Mi.kz3_ok, Mi.mYes_ap, Mi.mAug_ap, Mi.kU_some, Mi.kU2_int, Mi.mTry_ap, Mi.kTr_nx, Mi.kTr_rt, Mi.mMeth_ap, Mi.kMe_lst, Mi.kMe_own, Mi.mAppend_ap, Mi.kAp_some, Mi.kAp2_ok, Mi.kAp3_some, Mi.dAdd_int, Mi.dAdd_str, Mi.dAdd_tup, Mi.dAdd_ll, Mi.dAdd_lo, Mi.dAdd_ol, Mi.dAdd_oo, Mi.dSub_int, Mi.dMul_int, Mi.dMod_int, Mi.dFdiv_int, Mi.dPow_int, Mi.dNeg_int, Mi.dDivmod_int, Mi.dGt_int, Mi.dGe_int, Mi.dLe_int, Mi.dLtI_int, Mi.dLt_int, Mi.dEq_int, Mi.dNe_int, Mi.dMax2_int, Mi.dMin2_int, Mi.fn1_ap, Mi.fn2_ap, Mi.dLen_tup, Mi.dLen_lst, Mi.dLen_cst, Mi.dLen_own, Mi.fnM_ap, Mi.kfn_nx, Mi.kfn_rt, Mi.kfn_exc, Mi.fnO_ap, Mi.kfo_nx, Mi.kfo_rt, Mi.env0, Mi.envN, Mi.envS, Mi.wipeN, Mi.wipeS, Mi.lit_own, Mi.lit_lst, Mi.lit_cst, Mi.ix_own, Mi.ix_lst, Mi.ix_cst, Mi.ix_tup, Mi.dix_own, Mi.dix_lst, Mi.dix_cst, Mi.dix_tup, Mi.rng0, Mi.toL, Mi.end_lawL, Mi.btw_int, Mi.btw_bl, Mi.btw_non, Mi.btw_str, Mi.is_non_int, Mi.is_bl_int, Mi.is_int_int, Mi.is_str_int, Mi.is_tup_int, Mi.is_lst_int, Mi.is_cst_int, Mi.is_own_int, Mi.is_non_bool, Mi.is_bl_bool, Mi.is_int_bool, Mi.is_str_bool, Mi.is_tup_bool, Mi.is_lst_bool, Mi.is_cst_bool, Mi.is_own_bool, Mi.is_non_tuple, Mi.is_bl_tuple, Mi.is_int_tuple, Mi.is_str_tuple, Mi.is_tup_tuple, Mi.is_lst_tuple, Mi.is_cst_tuple, Mi.is_own_tuple, Mi.is_non_list, Mi.is_bl_list, Mi.is_int_list, Mi.is_str_list, Mi.is_tup_list, Mi.is_lst_list, Mi.is_cst_list, Mi.is_own_list, Mi.is_non_str, Mi.is_bl_str, Mi.is_int_str, Mi.is_str_str, Mi.is_tup_str, Mi.is_lst_str, Mi.is_cst_str, Mi.is_own_str, Mi.cast_lit, Mi.mPart_ap, Mi.kPt_ok, Mi.mNoPart_ap, Mi.mSl_ap, Mi.kSl1_ok, Mi.kSl2_ok, Mi.kSl3_ok, Mi.dSl_tup, Mi.dSl_lst, Mi.dSl_cst, Mi.mZip_ap, Mi.kZ_tup, Mi.kZ_lst, Mi.mPick_ap, Mi.kPk_ok, Mi.kPk2_some, Mi.at_0, Mi.at_1, Mi.at_2, Mi.at_3, Mi.isT_non, Mi.isT_bl, Mi.isT_int, Mi.isT_str, Mi.isT_tup, Mi.isT_lst, Mi.isT_cst, Mi.isT_own, Mi.dInt_bl, Mi.dIs_f_non, Mi.dIs_t_non, Mi.dIs_f_bl, Mi.dIs_t_bl, Mi.dIs_f_int, Mi.dIs_t_int, Mi.dIs_f_str, Mi.dIs_t_str, Mi.dIs_f_tup, Mi.dIs_t_tup, Mi.dIs_f_lst, Mi.dIs_t_lst, Mi.dIs_f_own, Mi.dIs_t_own, Mi.dIs_f_cst, Mi.dIs_t_cst, Mi.mLR1_ap, Mi.kLR1_ok, Mi.mLR2_ap, Mi.kLR2_ok, Mi.kLR2b_ok, Mi.mCallB_ap, Mi.kcB_some, Mi.kcB1_ok, Mi.kcB2_some, Mi.kcB3_bl, Mi.kcB3_exc, Mi.mExtend_ap, Mi.kEx_some, Mi.kEx2_ok, Mi.kEx3_some, Mi.dNotIn2, Mi.dIn2, Mi.dIsB_tt, Mi.dIsB_ft, Mi.dNotB_tt, Mi.dNotB_ft, D.frz, frzs, D.plain, plains, Bool.and_self, Bool.and_true, Bool.true_and, Bool.and_false, Bool.false_and, List.length_cons, List.length_nil, List.length_set, Nat.reduceAdd, Nat.zero_add, Nat.reduceLT, Nat.reduceLeDiff, sizeLine_eq, if_true, if_false, Bool.not_true, Bool.not_false, Bool.false_eq_true, decide_true, decide_false, and_self, and_true, true_and, List.cons_append, List.nil_append, Option.map_some, Option.bind_some, Int.reduceToNat, Int.reducePow, Int.reduceNeg, Int.reduceEq, Int.reduceLT, Int.reduceLE, Int.reduceAdd, Int.reduceSub, Int.reduceMul, eq_self, Mi.dat, not_true_eq_false, not_false_eq_true, Bool.or_self, Bool.or_true, Bool.or_false, Bool.false_or, Bool.true_or, false_and, and_false, true_or, or_true, false_or, or_false, vb_int, hn, hn2, s1, s2, h, allL]
/-! what is in the list -/
theorem mem_inn {n k : Int} {x : D} : ∀ (m : Nat) (lo : Int), x ∈ inn n k lo m ↔ ∃ a : Int, lo ≤ a ∧ a < lo + m ∧ x ∈ stepL n k a
  | 0, lo => by
    unfold inn
    constructor
    · intro h; cases h
    · rintro ⟨a, h1, h2, _⟩; omega
  | m + 1, lo => by
    unfold inn
    rw [List.mem_append, mem_inn m (lo + 1)]
    constructor
    · rintro (h | ⟨a, h1, h2, h3⟩)
      · exact ⟨lo, by omega, by omega, h⟩
      · exact ⟨a, by omega, by omega, h3⟩
    · rintro ⟨a, h1, h2, h3⟩
      by_cases e : a = lo
      · subst e; exact .inl h3
      · exact .inr ⟨a, by omega, by omega, h3⟩
theorem mem_outr {n : Int} {x : D} : ∀ (m : Nat) (lo : Int), x ∈ outr n lo m ↔ ∃ k : Int, lo ≤ k ∧ k < lo + m ∧ x ∈ inn n k 0 k.toNat
  | 0, lo => by
    unfold outr
    constructor
    · intro h; cases h
    · rintro ⟨a, h1, h2, _⟩; omega
  | m + 1, lo => by
    unfold outr
    rw [List.mem_append, mem_outr m (lo + 1)]
    constructor
    · rintro (h | ⟨a, h1, h2, h3⟩)
      · exact ⟨lo, by omega, by omega, h⟩
      · exact ⟨a, by omega, by omega, h3⟩
    · rintro ⟨a, h1, h2, h3⟩
      by_cases e : a = lo
      · subst e; exact .inl h3
      · exact .inr ⟨a, by omega, by omega, h3⟩
theorem mem_step {n k a : Int} {x : D} : x ∈ stepL n k a ↔ x = tp n k a (.int (b0 n k a)) ∧ 0 ≤ b0 n k a ∧ b0 n k a ≤ k ∧ emp n k a (.int (b0 n k a)) = true := by
  unfold stepL
  by_cases q : 0 ≤ b0 n k a ∧ b0 n k a ≤ k ∧ emp n k a (.int (b0 n k a)) = true
  · rw [if_pos q]
    constructor
    · intro h; exact ⟨List.mem_singleton.mp h, q⟩
    · intro h; rw [h.1]; exact List.mem_singleton.mpr rfl
  · rw [if_neg q]
    constructor
    · intro h; cases h
    · intro h; exact absurd h.2 q
def Q4 (x : D) : Prop := ∃ n k a b : Int, x = .tup [.int n, .int k, .int a, .int b]
theorem q4_all {n : Int} : ∀ x ∈ allL n, Q4 x := by
  intro x hx
  obtain ⟨k, _, _, h⟩ := (mem_outr _ _).mp hx
  obtain ⟨a, _, _, h⟩ := (mem_inn _ _).mp h
  exact ⟨_, _, _, _, (mem_step.mp h).1⟩
theorem mem_all {n k a b s : Int} (G : Good n k a b) (h60 : n ≤ 60) (e : F_bars_of [.tup [.int n, .int k, .int a, .int b]] = .ok (.own (barsL n k a b s))) : .tup [.int n, .int k, .int a, .int b] ∈ allL n ↔ barsL n k a b s = [] := by
  obtain ⟨g1, g2, g3, g4, g5, g6, g7, g8⟩ := G
  have I : In n k a := ⟨g1, h60, g3, g4, g5, g6⟩
  have em := emp_of e
  constructor
  · intro h
    obtain ⟨k', _, _, h⟩ := (mem_outr _ _).mp h
    obtain ⟨a', _, _, h⟩ := (mem_inn _ _).mp h
    obtain ⟨h1, h2, h3, h4⟩ := mem_step.mp h
    unfold tp at h1
    simp only [D.tup.injEq, List.cons.injEq, D.int.injEq, and_true, true_and] at h1
    obtain ⟨rfl, rfl, h1⟩ := h1
    rw [← h1, em] at h4
    exact of_decide_eq_true h4
  · intro h
    have q : emp n k a (.int b) = true := by rw [em, h]; rfl
    have eb := emp_b0 I g7 g8 q
    refine (mem_outr _ _).mpr ⟨k, by omega, by omega, (mem_inn _ _).mpr ⟨a, by omega, by omega, mem_step.mpr ?_⟩⟩
    rw [← eb]
    exact ⟨rfl, g7, g8, q⟩
theorem int_lay4 {n k a b : Int} : Lay (.tup [.int n, .int k, .int a, .int b]) := by
  refine lay_tup (ps := [.int n, .int k, .int a, .int b]) rfl ?_ ?_
  · simp [PyData.canLayAll0, PyData.canLay0]
  · simp [PyData.depthAll, PyData.depth]
theorem eqv4 {n k a b n' k' a' b' : Int} : PyData.eqv (.tuple [.int n, .int k, .int a, .int b]) (.tuple [.int n', .int k', .int a', .int b']) = decide (n = n' ∧ k = k' ∧ a = a' ∧ b = b') := by
  simp only [PyData.eqv, PyData.eqvAll]
  by_cases h1 : n = n' <;> by_cases h2 : k = k' <;> by_cases h3 : a = a' <;> by_cases h4 : b = b' <;> simp [h1, h2, h3, h4]
open Classical in
theorem any4 {n k a b : Int} : ∀ {xs : List D} {ps : List PyData}, (∀ x ∈ xs, Q4 x) → toPys xs = some ps → (ps.any fun z => PyData.eqv z (.tuple [.int n, .int k, .int a, .int b])) = decide (D.tup [.int n, .int k, .int a, .int b] ∈ xs)
  | [], ps, _, e => by cases e; simp
  | x :: xs, ps, h, e => by
    obtain ⟨n', k', a', b', rfl⟩ := h _ List.mem_cons_self
    obtain ⟨qs, h3, rfl⟩ := Option.map_eq_some_iff.mp (show (toPys xs).map (PyData.tuple [.int n', .int k', .int a', .int b'] :: ·) = some ps from e)
    rw [List.any_cons, eqv4, any4 (fun y hy => h y (List.mem_cons_of_mem _ hy)) h3]
    by_cases q : D.tup [.int n, .int k, .int a, .int b] ∈ xs
    · simp [q]
    · by_cases z : n' = n ∧ k' = k ∧ a' = a ∧ b' = b
      · obtain ⟨rfl, rfl, rfl, rfl⟩ := z
        simp
      · have : ¬ (n = n' ∧ k = k' ∧ a = a' ∧ b = b') := fun y => z ⟨y.1.symm, y.2.1.symm, y.2.2.1.symm, y.2.2.2.symm⟩
        simp [q, z, this]
theorem in_all {n k a b s : Int} (G : Good n k a b) (h60 : n ≤ 60) (e : F_bars_of [.tup [.int n, .int k, .int a, .int b]] = .ok (.own (barsL n k a b s))) : dIn (.tup [.int n, .int k, .int a, .int b]) (.own (allL n)) = some (.bl (decide (barsL n k a b s = []))) := by
  have hL : ∀ x ∈ allL n, Lay x := fun x hx => by obtain ⟨_, _, _, _, rfl⟩ := q4_all x hx; exact int_lay4
  obtain ⟨ps, g1, g2, g3, g4⟩ := lay_list _ hL
  have s1 := (lay_sh (int_lay4 (n := n) (k := k) (a := a) (b := b)) (p := .tuple [.int n, .int k, .int a, .int b]) rfl).1
  rw [dIn_own (p := .tuple [.int n, .int k, .int a, .int b]) rfl g1 s1 (lay_shaped hL g1), any4 q4_all g1]
  congr 2
  by_cases q : barsL n k a b s = []
  · simp [q, (mem_all G h60 e).mpr q]
  · have w : ¬ D.tup [.int n, .int k, .int a, .int b] ∈ allL n := fun z => q ((mem_all G h60 e).mp z)
    simp [q, w]
end Lw
namespace Lw
open PySem PySem.Spec PyProof.Rows L2 Mi
/-! ### the plain law: the rest -/
/-- no bar, in numbers -/
structure Free (n k a b s : Int) : Prop where
  cnt : k * (k - a - 1) = (n - k - 1) * b
  oft : oftenD n k a b s ≠ .non
  gr : s * s = qOf k a b → sL k ((a - b + s) / 2) ((a - b - s) / 2) ≤ sR k ((a - b + s) / 2) ((a - b - s) / 2)
  ls : s * s = qOf k a b → sL k ((a - b - s) / 2) ((a - b + s) / 2) ≤ sR k ((a - b - s) / 2) ((a - b + s) / 2)
  fw : s * s = qOf k a b → b ≠ 0 → b ≠ k → ∀ f g : Int, oftenD n k a b s = .tup [.int f, .int g] → 2 * n ≤ f * (f + 3) ∧ 2 * n ≤ g * (g + 3)
theorem gD_nil {w : Str} {x y : Int} : gD w x y = [] ↔ x ≤ y := by
  unfold gD
  by_cases c : y < x
  · rw [if_pos c]; simp; omega
  · rw [if_neg c]; simp; omega
theorem fewD_nil {n m : Int} : fewD n m = [] ↔ 2 * n ≤ m * (m + 3) := by
  unfold fewD
  by_cases c : m * (m + 3) < 2 * n
  · rw [if_pos c]; simp; omega
  · rw [if_neg c]; simp; omega
theorem free_of {n k a b s : Int} (G : Good n k a b) : barsL n k a b s = [] ↔ Free n k a b s := by
  constructor
  · intro h
    have hc := bars_cnt h
    unfold barsL at h
    obtain ⟨_, h⟩ := List.append_eq_nil_iff.mp h
    obtain ⟨h1, h2⟩ := List.append_eq_nil_iff.mp h
    have ho : oftenD n k a b s ≠ .non := fun z => by rw [z] at h1; cases h1
    refine ⟨hc, ho, fun e => ?_, fun e => ?_, fun e b0 bk f g ef => ?_⟩
    · rw [if_pos e] at h2
      exact gD_nil.mp (List.append_eq_nil_iff.mp h2).1
    · rw [if_pos e] at h2
      exact gD_nil.mp (List.append_eq_nil_iff.mp (List.append_eq_nil_iff.mp h2).2).1
    · rw [if_pos e] at h2
      have h3 := (List.append_eq_nil_iff.mp (List.append_eq_nil_iff.mp h2).2).2
      rw [ef] at h3
      have h3 : (if b = 0 ∨ b = k then [] else fewD n f ++ fewD n g) = [] := h3
      rw [if_neg (fun z => z.elim b0 bk)] at h3
      obtain ⟨h4, h5⟩ := List.append_eq_nil_iff.mp h3
      exact ⟨fewD_nil.mp h4, fewD_nil.mp h5⟩
  · intro ⟨h1, h2, h3, h4, h5⟩
    unfold barsL
    have e1 : cntD n k a b = [] := by unfold cntD; rw [if_pos h1]
    rcases often_cases G s with z | ⟨f, g, z, _⟩
    · exact absurd z h2
    have e2 : oftL (oftenD n k a b s) = [] := by rw [z]; rfl
    rw [e1, e2]
    by_cases e : s * s = qOf k a b
    · rw [if_pos e, gD_nil.mpr (h3 e), gD_nil.mpr (h4 e), z]
      show (if b = 0 ∨ b = k then [] else fewD n f ++ fewD n g) = []
      by_cases q : b = 0 ∨ b = k
      · rw [if_pos q]
      · rw [if_neg q]
        obtain ⟨w1, w2⟩ := h5 e (fun y => q (.inl y)) (fun y => q (.inr y)) f g z
        rw [fewD_nil.mpr w1, fewD_nil.mpr w2]; rfl
    · rw [if_neg e]; rfl
/-- the rest's numbers are numbers, if its a is none below nought -/
theorem rest_good {n k a b : Int} (G : Good n k a b) (hc : k * (k - a - 1) = (n - k - 1) * b) (h : 0 ≤ n - 2 * k + b - 2) : Good n (n - k - 1) (n - 2 * k + b - 2) (n - 2 * k + a) := by
  obtain ⟨g1, g2, g3, g4, g5, g6, g7, g8⟩ := G
  have x : 0 ≤ n - 2 * k + a := by
    by_cases q : 0 ≤ n - 2 * k + a
    · exact q
    · have y1 : (n - k - 1) * b ≤ (n - k - 1) * k := Int.mul_le_mul_of_nonneg_left g8 (by omega)
      have y2 : k * (n - k - 1) < k * (k - a - 1) := Int.mul_lt_mul_of_pos_left (by omega) (by omega)
      rw [Int.mul_comm k (n - k - 1)] at y2
      omega
  exact ⟨g1, g2, by omega, by omega, h, by omega, x, by omega⟩
theorem rest_q {n k a b : Int} : qOf (n - k - 1) (n - 2 * k + b - 2) (n - 2 * k + a) = qOf k a b := by
  unfold qOf
  grind
theorem kr (k r t m b : Int) (hb : b = k + r * t) (hm : m * b = -(k * (r + 1) * (t + 1))) :
    b * (sL m (-1 - t) (-1 - r) - sR m (-1 - t) (-1 - r)) = -((1 + t) * r * (sL k t r - sR k t r)) := by
  unfold sL sR
  grind
theorem kr2 (k r t m b : Int) (hb : b = k + r * t) (hm : m * b = -(k * (r + 1) * (t + 1))) :
    b * (sL m (-1 - r) (-1 - t) - sR m (-1 - r) (-1 - t)) = -((1 + r) * t * (sL k r t - sR k r t)) := by
  unfold sL sR
  grind
theorem neg_of_mul {b x y : Int} (hb : 0 < b) (h : b * x = y) (hy : y ≤ 0) : x ≤ 0 := by
  by_cases c : x ≤ 0
  · exact c
  · have := Int.mul_pos hb (show 0 < x by omega)
    omega
/-- the rest's roots -/
theorem rest_rts {n k a b s : Int} (G : Good n k a b) (R : Root (qOf k a b) s) (e : s * s = qOf k a b) : (n - 2 * k + b - 2 - (n - 2 * k + a) + s) / 2 = -1 - (a - b - s) / 2 ∧ (n - 2 * k + b - 2 - (n - 2 * k + a) - s) / 2 = -1 - (a - b + s) / 2 := by
  have p := par (a - b) s (k - b) (by rw [e]; rfl)
  omega
theorem rest_often {n k a b s f g : Int} (G : Good n k a b) (R : Root (qOf k a b) s) (h : oftenD n k a b s = .tup [.int f, .int g]) : oftenD n (n - k - 1) (n - 2 * k + b - 2) (n - 2 * k + a) s = .tup [.int g, .int f] ∧ f + g = n - 1 ∧ 0 ≤ f ∧ 0 ≤ g ∧ (s * s = qOf k a b → k + f * ((a - b + s) / 2) + g * ((a - b - s) / 2) = 0) := by
  have rt := fun e => rts G R e
  have rr := fun e => rest_rts G R e
  unfold oftenD at h ⊢
  rw [rest_q]
  obtain ⟨g1, g2, g3, g4, g5, g6, g7, g8⟩ := G
  by_cases e : s * s = qOf k a b
  · rw [if_pos e] at h ⊢
    have rt := rt e
    obtain ⟨_, rr⟩ := rr e
    rw [rr]
    generalize (a - b + s) / 2 = r at *
    generalize (a - b - s) / 2 = t at *
    obtain ⟨s1, s2, df, smm, pr, r0, r1, t0, t1⟩ := rt
    obtain ⟨u, eu⟩ : ∃ u, 0 - k - (n - 1) * t = u := ⟨_, rfl⟩
    obtain ⟨v, ev'⟩ : ∃ v, 0 - (n - k - 1) - (n - 1) * (-1 - r) = v := ⟨_, rfl⟩
    rw [eu] at h
    rw [ev']
    have sum : v + u = (n - 1) * s := by rw [← eu, ← ev', ← df]; grind
    have sp : 0 < s := by omega
    obtain ⟨i1, i2⟩ := dv_two sp sum
    by_cases q : u % s = 0 ∧ 0 ≤ u / s ∧ u / s ≤ n - 1
    · rw [if_pos q] at h
      simp only [D.tup.injEq, List.cons.injEq, D.int.injEq, and_true] at h
      obtain ⟨ef, eg⟩ := h
      have j1 := i1.mpr q.1
      have j2 := i2 q.1
      rw [if_pos ⟨j1, by omega, by omega⟩, j2, ef]
      refine ⟨by rw [← eg, ← ef]; congr 3 <;> congr 1 <;> omega, by omega, by omega, by omega, fun _ => ?_⟩
      have hf : s * f = u := by
        have := Int.emod_add_mul_ediv u s
        rw [q.1, ef] at this
        omega
      rw [← eu, ← df] at hf
      have eg' : g = n - 1 - f := by omega
      rw [eg']
      grind
    · rw [if_neg q] at h; cases h
  · rw [if_neg e] at h ⊢
    by_cases q : n % 2 = 0 ∨ 2 * k + (n - 1) * (a - b) ≠ 0
    · rw [if_pos q] at h; cases h
    · rw [if_neg q] at h
      simp only [D.tup.injEq, List.cons.injEq, D.int.injEq, and_true] at h
      obtain ⟨ef, eg⟩ := h
      have q1 : n % 2 ≠ 0 := fun z => q (.inl z)
      have q2 : 2 * k + (n - 1) * (a - b) = 0 := by
        by_cases z : 2 * k + (n - 1) * (a - b) = 0
        · exact z
        · exact absurd (.inr z) q
      have q3 : 2 * (n - k - 1) + (n - 1) * (n - 2 * k + b - 2 - (n - 2 * k + a)) = 0 := by grind
      rw [if_neg (fun z => z.elim q1 fun y => y q3)]
      refine ⟨by rw [← ef, ← eg], by omega, by omega, by omega, fun z => absurd z e⟩
theorem b0_case {n k a r t : Int} (k1 : 1 ≤ k) (hc : k * (k - a - 1) = (n - k - 1) * 0) (smm : r + t = a - 0) (pr : r * t = 0 - k) (r0 : 0 ≤ r) : r = k ∧ t = -1 := by
  have ha : a = k - 1 := by
    rw [Int.mul_zero] at hc
    rcases Int.mul_eq_zero.mp hc with q | q <;> omega
  have et : t = k - 1 - r := by omega
  subst et
  have hk : (r - k) * (r + 1) = 0 := by grind
  rcases Int.mul_eq_zero.mp hk with q | q <;> omega
theorem rest_free {n k a b s : Int} (G : Good n k a b) (R : Root (qOf k a b) s) (F : Free n k a b s) (h : 0 ≤ n - 2 * k + b - 2) : Free n (n - k - 1) (n - 2 * k + b - 2) (n - 2 * k + a) s := by
  obtain ⟨hc, ho, hg, hl, hf⟩ := F
  rcases often_cases G s with z | ⟨f, g, z, _⟩
  · exact absurd z ho
  have ro := rest_often G R z
  have rt := fun e => rts G R e
  have rr := fun e => rest_rts G R e
  have G' := rest_good G hc h
  have rq := rest_q (n := n) (k := k) (a := a) (b := b)
  obtain ⟨g1, g2, g3, g4, g5, g6, g7, g8⟩ := G
  refine ⟨by grind, (by rw [ro.1]; intro y; cases y), fun e => ?_, fun e => ?_, fun e b0 bk f' g' e' => ?_⟩
  · rw [rq] at e
    have hl := hl e
    have rt := rt e
    obtain ⟨r1, r2⟩ := rr e
    rw [r1, r2]
    generalize (a - b + s) / 2 = r at *
    generalize (a - b - s) / 2 = t at *
    obtain ⟨s1, s2, df, smm, pr, r0, _, t0, t1⟩ := rt
    by_cases b0 : b = 0
    · subst b0
      obtain ⟨rk, tt⟩ := b0_case g3 hc smm pr r0
      subst tt
      unfold sL sR
      have x1 : (n - k - 1) * 1 ≤ (n - k - 1) * (r * r) := Int.mul_le_mul_of_nonneg_left (by have := mul_le2 (a := 1) (b := r) (by decide) (by omega); omega) (by omega)
      grind
    · have hm : (n - k - 1) * b = -(k * (r + 1) * (t + 1)) := by grind
      have id := kr k r t (n - k - 1) b (by omega) hm
      have x1 : 0 ≤ -(1 + t) * r := Int.mul_nonneg (by omega) r0
      have x2 := Int.mul_nonneg x1 (show 0 ≤ sR k t r - sL k t r by omega)
      have := neg_of_mul (by omega) id (by grind)
      omega
  · rw [rq] at e
    have hg := hg e
    have rt := rt e
    obtain ⟨r1, r2⟩ := rr e
    rw [r1, r2]
    generalize (a - b + s) / 2 = r at *
    generalize (a - b - s) / 2 = t at *
    obtain ⟨s1, s2, df, smm, pr, r0, _, t0, t1⟩ := rt
    by_cases b0 : b = 0
    · subst b0
      obtain ⟨rk, tt⟩ := b0_case g3 hc smm pr r0
      subst tt
      subst rk
      unfold sL sR
      have x1 : 0 ≤ (r + 1) * (n - 2 * r - 2) := Int.mul_nonneg (by omega) (by omega)
      grind
    · have hm : (n - k - 1) * b = -(k * (r + 1) * (t + 1)) := by grind
      have id := kr2 k r t (n - k - 1) b (by omega) hm
      have x1 : 0 ≤ (1 + r) * -t := Int.mul_nonneg (by omega) (by omega)
      have x2 := Int.mul_nonneg x1 (show 0 ≤ sR k r t - sL k r t by omega)
      have := neg_of_mul (by omega) id (by grind)
      omega
  · rw [rq] at e
    rw [ro.1] at e'
    simp only [D.tup.injEq, List.cons.injEq, D.int.injEq, and_true] at e'
    obtain ⟨rfl, rfl⟩ := e'
    have n0 : b ≠ 0 := fun y => by
      subst y
      have : k * (k - a - 1) = 0 := by rw [hc]; simp
      rcases Int.mul_eq_zero.mp this with q | q <;> omega
    have nk : b ≠ k := fun y => by
      subst y
      have : b * (b - a - 1 - (n - b - 1)) = 0 := by grind
      rcases Int.mul_eq_zero.mp this with q | q <;> omega
    obtain ⟨w1, w2⟩ := hf e n0 nk f g z
    exact ⟨w2, w1⟩
end Lw
namespace Lw
open PySem PySem.Spec PyProof.Rows L2 Mi
abbrev T4 (n k a b : Int) : D := .tup [.int n, .int k, .int a, .int b]
theorem look4 {n k a b : Int} (G : Good n k a b) : F_look_at_numbers [T4 n k a b] = .ok .non := by
  have h := are_good G
  unfold F_look_at_numbers m_look_at_numbers
  simp -implicitDefEqProofs only [Mi.kof_some, Mi.kof_none, Mi.mOp1_ap, Mi.k1_ok, Mi.k1_exc, Mi.mOp2_ap, Mi.k2a_ok, Mi.k2a_exc, Mi.k2b_ok, Mi.k2b_exc, Mi.mOpL_ap, Mi.kL_ok, Mi.kL_exc, Mi.mCons_ap, Mi.kca_ok, Mi.kca_exc, Mi.kcb_ok, Mi.kcb_exc, Mi.mNil_ap, Mi.mC_ap, Mi.mLst_ap, Mi.mTup_ap, Mi.kLst_ok, Mi.kTup_ok, Mi.mVar_ap, Mi.kV_some, Mi.mFrz_ap, Mi.kF_some, Mi.mMove_ap, Mi.kM_some, Mi.at0, Mi.atS, Mi.set0, Mi.setS, Mi.mT_ap, Mi.kT_ok, Mi.kT_exc, Mi.mNotT_ap, Mi.kN_ok, Mi.kN_exc, Mi.mAndT_ap, Mi.kA_ok, Mi.kA_exc, Mi.mOrT_ap, Mi.kO_ok, Mi.kO_exc, Mi.mAndV_ap, Mi.kAV_ok, Mi.mOrV_ap, Mi.kOV_ok, Mi.mIf_ap, Mi.kIf_ok, Mi.mChain_ap, Mi.kCh_ok, Mi.kCh1_ok, Mi.kCh2_ok, Mi.mSeq_ap, Mi.kS_nx, Mi.kS_rt, Mi.kS_exc, Mi.kS_bk, Mi.kS_ct, Mi.mNext_ap, Mi.mDrop_ap, Mi.kD_ok, Mi.kD_exc, Mi.mRet_ap, Mi.kR_ok, Mi.kR_exc, Mi.mRetN_ap, Mi.mIfS_ap, Mi.kI_ok, Mi.kI_exc, Mi.mAsg_ap, Mi.kG_ok, Mi.kG_exc, Mi.kG2_some, Mi.mgName_ap, Mi.mgTup_ap, Mi.mgCons_ap, Mi.kgs_some, Mi.mgNil_ap, Mi.mPar_ap, Mi.kP_ok, Mi.mPar3_ap, Mi.kP3_ok, Mi.ownAt_ap, Mi.kw_own, Mi.mSlotIx_ap, Mi.kX_some, Mi.kX2_ok, Mi.kX3_some, Mi.mCall_ap, Mi.kc_ok, Mi.kf_ok, Mi.kf_exc, Mi.mCallO_ap, Mi.kq_some, Mi.kq2_ok, Mi.kq3_some, Mi.kq4_ok, Mi.mSetIx_ap, Mi.ky_ok, Mi.ky2_some, Mi.ky3_ok, Mi.ky4_some, Mi.mItL_ap, Mi.kIL_ok, Mi.kRs_some, Mi.mItT_ap, Mi.kIT_ok, Mi.mRng1_ap, Mi.kr1_ok, Mi.mRng2_ap, Mi.kr2_ok, Mi.mFor_ap, Mi.kFo_ok, Mi.mLoop_nil, Mi.kl1_some, Mi.kl2_nx, Mi.kl2_ct, Mi.kl2_bk, Mi.kl2_rt, Mi.kl2_exc, Mi.mLc_ap, Mi.kLc_ok, Mi.lc_nil, Mi.kz1_some, Mi.kz2_ok, Mi.kz3_ok, Mi.mYes_ap, Mi.mAug_ap, Mi.kU_some, Mi.kU2_int, Mi.mTry_ap, Mi.kTr_nx, Mi.kTr_rt, Mi.mMeth_ap, Mi.kMe_lst, Mi.kMe_own, Mi.mAppend_ap, Mi.kAp_some, Mi.kAp2_ok, Mi.kAp3_some, Mi.dAdd_int, Mi.dAdd_str, Mi.dAdd_tup, Mi.dAdd_ll, Mi.dAdd_lo, Mi.dAdd_ol, Mi.dAdd_oo, Mi.dSub_int, Mi.dMul_int, Mi.dMod_int, Mi.dFdiv_int, Mi.dPow_int, Mi.dNeg_int, Mi.dDivmod_int, Mi.dGt_int, Mi.dGe_int, Mi.dLe_int, Mi.dLtI_int, Mi.dLt_int, Mi.dEq_int, Mi.dNe_int, Mi.dMax2_int, Mi.dMin2_int, Mi.fn1_ap, Mi.fn2_ap, Mi.dLen_tup, Mi.dLen_lst, Mi.dLen_cst, Mi.dLen_own, Mi.fnM_ap, Mi.kfn_nx, Mi.kfn_rt, Mi.kfn_exc, Mi.fnO_ap, Mi.kfo_nx, Mi.kfo_rt, Mi.env0, Mi.envN, Mi.envS, Mi.wipeN, Mi.wipeS, Mi.lit_own, Mi.lit_lst, Mi.lit_cst, Mi.ix_own, Mi.ix_lst, Mi.ix_cst, Mi.ix_tup, Mi.dix_own, Mi.dix_lst, Mi.dix_cst, Mi.dix_tup, Mi.rng0, Mi.toL, Mi.end_lawL, Mi.btw_int, Mi.btw_bl, Mi.btw_non, Mi.btw_str, Mi.is_non_int, Mi.is_bl_int, Mi.is_int_int, Mi.is_str_int, Mi.is_tup_int, Mi.is_lst_int, Mi.is_cst_int, Mi.is_own_int, Mi.is_non_bool, Mi.is_bl_bool, Mi.is_int_bool, Mi.is_str_bool, Mi.is_tup_bool, Mi.is_lst_bool, Mi.is_cst_bool, Mi.is_own_bool, Mi.is_non_tuple, Mi.is_bl_tuple, Mi.is_int_tuple, Mi.is_str_tuple, Mi.is_tup_tuple, Mi.is_lst_tuple, Mi.is_cst_tuple, Mi.is_own_tuple, Mi.is_non_list, Mi.is_bl_list, Mi.is_int_list, Mi.is_str_list, Mi.is_tup_list, Mi.is_lst_list, Mi.is_cst_list, Mi.is_own_list, Mi.is_non_str, Mi.is_bl_str, Mi.is_int_str, Mi.is_str_str, Mi.is_tup_str, Mi.is_lst_str, Mi.is_cst_str, Mi.is_own_str, Mi.cast_lit, Mi.mPart_ap, Mi.kPt_ok, Mi.mNoPart_ap, Mi.mSl_ap, Mi.kSl1_ok, Mi.kSl2_ok, Mi.kSl3_ok, Mi.dSl_tup, Mi.dSl_lst, Mi.dSl_cst, Mi.mZip_ap, Mi.kZ_tup, Mi.kZ_lst, Mi.mPick_ap, Mi.kPk_ok, Mi.kPk2_some, Mi.at_0, Mi.at_1, Mi.at_2, Mi.at_3, Mi.isT_non, Mi.isT_bl, Mi.isT_int, Mi.isT_str, Mi.isT_tup, Mi.isT_lst, Mi.isT_cst, Mi.isT_own, Mi.dInt_bl, Mi.dIs_f_non, Mi.dIs_t_non, Mi.dIs_f_bl, Mi.dIs_t_bl, Mi.dIs_f_int, Mi.dIs_t_int, Mi.dIs_f_str, Mi.dIs_t_str, Mi.dIs_f_tup, Mi.dIs_t_tup, Mi.dIs_f_lst, Mi.dIs_t_lst, Mi.dIs_f_own, Mi.dIs_t_own, Mi.dIs_f_cst, Mi.dIs_t_cst, Mi.mLR1_ap, Mi.kLR1_ok, Mi.mLR2_ap, Mi.kLR2_ok, Mi.kLR2b_ok, Mi.mCallB_ap, Mi.kcB_some, Mi.kcB1_ok, Mi.kcB2_some, Mi.kcB3_bl, Mi.kcB3_exc, Mi.mExtend_ap, Mi.kEx_some, Mi.kEx2_ok, Mi.kEx3_some, Mi.dNotIn2, Mi.dIn2, Mi.dIsB_tt, Mi.dIsB_ft, Mi.dNotB_tt, Mi.dNotB_ft, D.frz, frzs, D.plain, plains, Bool.and_self, Bool.and_true, Bool.true_and, Bool.and_false, Bool.false_and, List.length_cons, List.length_nil, List.length_set, Nat.reduceAdd, Nat.zero_add, Nat.reduceLT, Nat.reduceLeDiff, sizeLine_eq, if_true, if_false, Bool.not_true, Bool.not_false, Bool.false_eq_true, decide_true, decide_false, and_self, and_true, true_and, List.cons_append, List.nil_append, Option.map_some, Option.bind_some, Int.reduceToNat, Int.reducePow, Int.reduceNeg, Int.reduceEq, Int.reduceLT, Int.reduceLE, Int.reduceAdd, Int.reduceSub, Int.reduceMul, eq_self, Mi.dat, not_true_eq_false, not_false_eq_true, Bool.or_self, Bool.or_true, Bool.or_false, Bool.false_or, Bool.true_or, false_and, and_false, true_or, or_true, false_or, or_false, h]
theorem v_rest {n k a b : Int} (G : Good n k a b) : F_rest_numbers [T4 n k a b] = .ok (T4 n (n - k - 1) (n - 2 * k + b - 2) (n - 2 * k + a)) := by
  have l := look4 G
  obtain ⟨g1, g2, g3, g4, g5, g6, g7, g8⟩ := G
  have c1 : CMulX 2 k := cmulx64 (by decide) (by omega)
  unfold F_rest_numbers m_rest_numbers
  simp -implicitDefEqProofs only [Mi.kof_some, Mi.kof_none, Mi.mOp1_ap, Mi.k1_ok, Mi.k1_exc, Mi.mOp2_ap, Mi.k2a_ok, Mi.k2a_exc, Mi.k2b_ok, Mi.k2b_exc, Mi.mOpL_ap, Mi.kL_ok, Mi.kL_exc, Mi.mCons_ap, Mi.kca_ok, Mi.kca_exc, Mi.kcb_ok, Mi.kcb_exc, Mi.mNil_ap, Mi.mC_ap, Mi.mLst_ap, Mi.mTup_ap, Mi.kLst_ok, Mi.kTup_ok, Mi.mVar_ap, Mi.kV_some, Mi.mFrz_ap, Mi.kF_some, Mi.mMove_ap, Mi.kM_some, Mi.at0, Mi.atS, Mi.set0, Mi.setS, Mi.mT_ap, Mi.kT_ok, Mi.kT_exc, Mi.mNotT_ap, Mi.kN_ok, Mi.kN_exc, Mi.mAndT_ap, Mi.kA_ok, Mi.kA_exc, Mi.mOrT_ap, Mi.kO_ok, Mi.kO_exc, Mi.mAndV_ap, Mi.kAV_ok, Mi.mOrV_ap, Mi.kOV_ok, Mi.mIf_ap, Mi.kIf_ok, Mi.mChain_ap, Mi.kCh_ok, Mi.kCh1_ok, Mi.kCh2_ok, Mi.mSeq_ap, Mi.kS_nx, Mi.kS_rt, Mi.kS_exc, Mi.kS_bk, Mi.kS_ct, Mi.mNext_ap, Mi.mDrop_ap, Mi.kD_ok, Mi.kD_exc, Mi.mRet_ap, Mi.kR_ok, Mi.kR_exc, Mi.mRetN_ap, Mi.mIfS_ap, Mi.kI_ok, Mi.kI_exc, Mi.mAsg_ap, Mi.kG_ok, Mi.kG_exc, Mi.kG2_some, Mi.mgName_ap, Mi.mgTup_ap, Mi.mgCons_ap, Mi.kgs_some, Mi.mgNil_ap, Mi.mPar_ap, Mi.kP_ok, Mi.mPar3_ap, Mi.kP3_ok, Mi.ownAt_ap, Mi.kw_own, Mi.mSlotIx_ap, Mi.kX_some, Mi.kX2_ok, Mi.kX3_some, Mi.mCall_ap, Mi.kc_ok, Mi.kf_ok, Mi.kf_exc, Mi.mCallO_ap, Mi.kq_some, Mi.kq2_ok, Mi.kq3_some, Mi.kq4_ok, Mi.mSetIx_ap, Mi.ky_ok, Mi.ky2_some, Mi.ky3_ok, Mi.ky4_some, Mi.mItL_ap, Mi.kIL_ok, Mi.kRs_some, Mi.mItT_ap, Mi.kIT_ok, Mi.mRng1_ap, Mi.kr1_ok, Mi.mRng2_ap, Mi.kr2_ok, Mi.mFor_ap, Mi.kFo_ok, Mi.mLoop_nil, Mi.kl1_some, Mi.kl2_nx, Mi.kl2_ct, Mi.kl2_bk, Mi.kl2_rt, Mi.kl2_exc, Mi.mLc_ap, Mi.kLc_ok, Mi.lc_nil, Mi.kz1_some, Mi.kz2_ok, Mi.kz3_ok, Mi.mYes_ap, Mi.mAug_ap, Mi.kU_some, Mi.kU2_int, Mi.mTry_ap, Mi.kTr_nx, Mi.kTr_rt, Mi.mMeth_ap, Mi.kMe_lst, Mi.kMe_own, Mi.mAppend_ap, Mi.kAp_some, Mi.kAp2_ok, Mi.kAp3_some, Mi.dAdd_int, Mi.dAdd_str, Mi.dAdd_tup, Mi.dAdd_ll, Mi.dAdd_lo, Mi.dAdd_ol, Mi.dAdd_oo, Mi.dSub_int, Mi.dMul_int, Mi.dMod_int, Mi.dFdiv_int, Mi.dPow_int, Mi.dNeg_int, Mi.dDivmod_int, Mi.dGt_int, Mi.dGe_int, Mi.dLe_int, Mi.dLtI_int, Mi.dLt_int, Mi.dEq_int, Mi.dNe_int, Mi.dMax2_int, Mi.dMin2_int, Mi.fn1_ap, Mi.fn2_ap, Mi.dLen_tup, Mi.dLen_lst, Mi.dLen_cst, Mi.dLen_own, Mi.fnM_ap, Mi.kfn_nx, Mi.kfn_rt, Mi.kfn_exc, Mi.fnO_ap, Mi.kfo_nx, Mi.kfo_rt, Mi.env0, Mi.envN, Mi.envS, Mi.wipeN, Mi.wipeS, Mi.lit_own, Mi.lit_lst, Mi.lit_cst, Mi.ix_own, Mi.ix_lst, Mi.ix_cst, Mi.ix_tup, Mi.dix_own, Mi.dix_lst, Mi.dix_cst, Mi.dix_tup, Mi.rng0, Mi.toL, Mi.end_lawL, Mi.btw_int, Mi.btw_bl, Mi.btw_non, Mi.btw_str, Mi.is_non_int, Mi.is_bl_int, Mi.is_int_int, Mi.is_str_int, Mi.is_tup_int, Mi.is_lst_int, Mi.is_cst_int, Mi.is_own_int, Mi.is_non_bool, Mi.is_bl_bool, Mi.is_int_bool, Mi.is_str_bool, Mi.is_tup_bool, Mi.is_lst_bool, Mi.is_cst_bool, Mi.is_own_bool, Mi.is_non_tuple, Mi.is_bl_tuple, Mi.is_int_tuple, Mi.is_str_tuple, Mi.is_tup_tuple, Mi.is_lst_tuple, Mi.is_cst_tuple, Mi.is_own_tuple, Mi.is_non_list, Mi.is_bl_list, Mi.is_int_list, Mi.is_str_list, Mi.is_tup_list, Mi.is_lst_list, Mi.is_cst_list, Mi.is_own_list, Mi.is_non_str, Mi.is_bl_str, Mi.is_int_str, Mi.is_str_str, Mi.is_tup_str, Mi.is_lst_str, Mi.is_cst_str, Mi.is_own_str, Mi.cast_lit, Mi.mPart_ap, Mi.kPt_ok, Mi.mNoPart_ap, Mi.mSl_ap, Mi.kSl1_ok, Mi.kSl2_ok, Mi.kSl3_ok, Mi.dSl_tup, Mi.dSl_lst, Mi.dSl_cst, Mi.mZip_ap, Mi.kZ_tup, Mi.kZ_lst, Mi.mPick_ap, Mi.kPk_ok, Mi.kPk2_some, Mi.at_0, Mi.at_1, Mi.at_2, Mi.at_3, Mi.isT_non, Mi.isT_bl, Mi.isT_int, Mi.isT_str, Mi.isT_tup, Mi.isT_lst, Mi.isT_cst, Mi.isT_own, Mi.dInt_bl, Mi.dIs_f_non, Mi.dIs_t_non, Mi.dIs_f_bl, Mi.dIs_t_bl, Mi.dIs_f_int, Mi.dIs_t_int, Mi.dIs_f_str, Mi.dIs_t_str, Mi.dIs_f_tup, Mi.dIs_t_tup, Mi.dIs_f_lst, Mi.dIs_t_lst, Mi.dIs_f_own, Mi.dIs_t_own, Mi.dIs_f_cst, Mi.dIs_t_cst, Mi.mLR1_ap, Mi.kLR1_ok, Mi.mLR2_ap, Mi.kLR2_ok, Mi.kLR2b_ok, Mi.mCallB_ap, Mi.kcB_some, Mi.kcB1_ok, Mi.kcB2_some, Mi.kcB3_bl, Mi.kcB3_exc, Mi.mExtend_ap, Mi.kEx_some, Mi.kEx2_ok, Mi.kEx3_some, Mi.dNotIn2, Mi.dIn2, Mi.dIsB_tt, Mi.dIsB_ft, Mi.dNotB_tt, Mi.dNotB_ft, D.frz, frzs, D.plain, plains, Bool.and_self, Bool.and_true, Bool.true_and, Bool.and_false, Bool.false_and, List.length_cons, List.length_nil, List.length_set, Nat.reduceAdd, Nat.zero_add, Nat.reduceLT, Nat.reduceLeDiff, sizeLine_eq, if_true, if_false, Bool.not_true, Bool.not_false, Bool.false_eq_true, decide_true, decide_false, and_self, and_true, true_and, List.cons_append, List.nil_append, Option.map_some, Option.bind_some, Int.reduceToNat, Int.reducePow, Int.reduceNeg, Int.reduceEq, Int.reduceLT, Int.reduceLE, Int.reduceAdd, Int.reduceSub, Int.reduceMul, eq_self, Mi.dat, not_true_eq_false, not_false_eq_true, Bool.or_self, Bool.or_true, Bool.or_false, Bool.false_or, Bool.true_or, false_and, and_false, true_or, or_true, false_or, or_false, l, c1]
theorem v_underR {n k a b : Int} (G : Good n k a b) : F_under_root [T4 n k a b] = .ok (.int (qOf k a b)) := by
  have l := look4 G
  have u := v_under G
  unfold F_under_root m_under_root
  simp -implicitDefEqProofs only [Mi.kof_some, Mi.kof_none, Mi.mOp1_ap, Mi.k1_ok, Mi.k1_exc, Mi.mOp2_ap, Mi.k2a_ok, Mi.k2a_exc, Mi.k2b_ok, Mi.k2b_exc, Mi.mOpL_ap, Mi.kL_ok, Mi.kL_exc, Mi.mCons_ap, Mi.kca_ok, Mi.kca_exc, Mi.kcb_ok, Mi.kcb_exc, Mi.mNil_ap, Mi.mC_ap, Mi.mLst_ap, Mi.mTup_ap, Mi.kLst_ok, Mi.kTup_ok, Mi.mVar_ap, Mi.kV_some, Mi.mFrz_ap, Mi.kF_some, Mi.mMove_ap, Mi.kM_some, Mi.at0, Mi.atS, Mi.set0, Mi.setS, Mi.mT_ap, Mi.kT_ok, Mi.kT_exc, Mi.mNotT_ap, Mi.kN_ok, Mi.kN_exc, Mi.mAndT_ap, Mi.kA_ok, Mi.kA_exc, Mi.mOrT_ap, Mi.kO_ok, Mi.kO_exc, Mi.mAndV_ap, Mi.kAV_ok, Mi.mOrV_ap, Mi.kOV_ok, Mi.mIf_ap, Mi.kIf_ok, Mi.mChain_ap, Mi.kCh_ok, Mi.kCh1_ok, Mi.kCh2_ok, Mi.mSeq_ap, Mi.kS_nx, Mi.kS_rt, Mi.kS_exc, Mi.kS_bk, Mi.kS_ct, Mi.mNext_ap, Mi.mDrop_ap, Mi.kD_ok, Mi.kD_exc, Mi.mRet_ap, Mi.kR_ok, Mi.kR_exc, Mi.mRetN_ap, Mi.mIfS_ap, Mi.kI_ok, Mi.kI_exc, Mi.mAsg_ap, Mi.kG_ok, Mi.kG_exc, Mi.kG2_some, Mi.mgName_ap, Mi.mgTup_ap, Mi.mgCons_ap, Mi.kgs_some, Mi.mgNil_ap, Mi.mPar_ap, Mi.kP_ok, Mi.mPar3_ap, Mi.kP3_ok, Mi.ownAt_ap, Mi.kw_own, Mi.mSlotIx_ap, Mi.kX_some, Mi.kX2_ok, Mi.kX3_some, Mi.mCall_ap, Mi.kc_ok, Mi.kf_ok, Mi.kf_exc, Mi.mCallO_ap, Mi.kq_some, Mi.kq2_ok, Mi.kq3_some, Mi.kq4_ok, Mi.mSetIx_ap, Mi.ky_ok, Mi.ky2_some, Mi.ky3_ok, Mi.ky4_some, Mi.mItL_ap, Mi.kIL_ok, Mi.kRs_some, Mi.mItT_ap, Mi.kIT_ok, Mi.mRng1_ap, Mi.kr1_ok, Mi.mRng2_ap, Mi.kr2_ok, Mi.mFor_ap, Mi.kFo_ok, Mi.mLoop_nil, Mi.kl1_some, Mi.kl2_nx, Mi.kl2_ct, Mi.kl2_bk, Mi.kl2_rt, Mi.kl2_exc, Mi.mLc_ap, Mi.kLc_ok, Mi.lc_nil, Mi.kz1_some, Mi.kz2_ok, Mi.kz3_ok, Mi.mYes_ap, Mi.mAug_ap, Mi.kU_some, Mi.kU2_int, Mi.mTry_ap, Mi.kTr_nx, Mi.kTr_rt, Mi.mMeth_ap, Mi.kMe_lst, Mi.kMe_own, Mi.mAppend_ap, Mi.kAp_some, Mi.kAp2_ok, Mi.kAp3_some, Mi.dAdd_int, Mi.dAdd_str, Mi.dAdd_tup, Mi.dAdd_ll, Mi.dAdd_lo, Mi.dAdd_ol, Mi.dAdd_oo, Mi.dSub_int, Mi.dMul_int, Mi.dMod_int, Mi.dFdiv_int, Mi.dPow_int, Mi.dNeg_int, Mi.dDivmod_int, Mi.dGt_int, Mi.dGe_int, Mi.dLe_int, Mi.dLtI_int, Mi.dLt_int, Mi.dEq_int, Mi.dNe_int, Mi.dMax2_int, Mi.dMin2_int, Mi.fn1_ap, Mi.fn2_ap, Mi.dLen_tup, Mi.dLen_lst, Mi.dLen_cst, Mi.dLen_own, Mi.fnM_ap, Mi.kfn_nx, Mi.kfn_rt, Mi.kfn_exc, Mi.fnO_ap, Mi.kfo_nx, Mi.kfo_rt, Mi.env0, Mi.envN, Mi.envS, Mi.wipeN, Mi.wipeS, Mi.lit_own, Mi.lit_lst, Mi.lit_cst, Mi.ix_own, Mi.ix_lst, Mi.ix_cst, Mi.ix_tup, Mi.dix_own, Mi.dix_lst, Mi.dix_cst, Mi.dix_tup, Mi.rng0, Mi.toL, Mi.end_lawL, Mi.btw_int, Mi.btw_bl, Mi.btw_non, Mi.btw_str, Mi.is_non_int, Mi.is_bl_int, Mi.is_int_int, Mi.is_str_int, Mi.is_tup_int, Mi.is_lst_int, Mi.is_cst_int, Mi.is_own_int, Mi.is_non_bool, Mi.is_bl_bool, Mi.is_int_bool, Mi.is_str_bool, Mi.is_tup_bool, Mi.is_lst_bool, Mi.is_cst_bool, Mi.is_own_bool, Mi.is_non_tuple, Mi.is_bl_tuple, Mi.is_int_tuple, Mi.is_str_tuple, Mi.is_tup_tuple, Mi.is_lst_tuple, Mi.is_cst_tuple, Mi.is_own_tuple, Mi.is_non_list, Mi.is_bl_list, Mi.is_int_list, Mi.is_str_list, Mi.is_tup_list, Mi.is_lst_list, Mi.is_cst_list, Mi.is_own_list, Mi.is_non_str, Mi.is_bl_str, Mi.is_int_str, Mi.is_str_str, Mi.is_tup_str, Mi.is_lst_str, Mi.is_cst_str, Mi.is_own_str, Mi.cast_lit, Mi.mPart_ap, Mi.kPt_ok, Mi.mNoPart_ap, Mi.mSl_ap, Mi.kSl1_ok, Mi.kSl2_ok, Mi.kSl3_ok, Mi.dSl_tup, Mi.dSl_lst, Mi.dSl_cst, Mi.mZip_ap, Mi.kZ_tup, Mi.kZ_lst, Mi.mPick_ap, Mi.kPk_ok, Mi.kPk2_some, Mi.at_0, Mi.at_1, Mi.at_2, Mi.at_3, Mi.isT_non, Mi.isT_bl, Mi.isT_int, Mi.isT_str, Mi.isT_tup, Mi.isT_lst, Mi.isT_cst, Mi.isT_own, Mi.dInt_bl, Mi.dIs_f_non, Mi.dIs_t_non, Mi.dIs_f_bl, Mi.dIs_t_bl, Mi.dIs_f_int, Mi.dIs_t_int, Mi.dIs_f_str, Mi.dIs_t_str, Mi.dIs_f_tup, Mi.dIs_t_tup, Mi.dIs_f_lst, Mi.dIs_t_lst, Mi.dIs_f_own, Mi.dIs_t_own, Mi.dIs_f_cst, Mi.dIs_t_cst, Mi.mLR1_ap, Mi.kLR1_ok, Mi.mLR2_ap, Mi.kLR2_ok, Mi.kLR2b_ok, Mi.mCallB_ap, Mi.kcB_some, Mi.kcB1_ok, Mi.kcB2_some, Mi.kcB3_bl, Mi.kcB3_exc, Mi.mExtend_ap, Mi.kEx_some, Mi.kEx2_ok, Mi.kEx3_some, Mi.dNotIn2, Mi.dIn2, Mi.dIsB_tt, Mi.dIsB_ft, Mi.dNotB_tt, Mi.dNotB_ft, D.frz, frzs, D.plain, plains, Bool.and_self, Bool.and_true, Bool.true_and, Bool.and_false, Bool.false_and, List.length_cons, List.length_nil, List.length_set, Nat.reduceAdd, Nat.zero_add, Nat.reduceLT, Nat.reduceLeDiff, sizeLine_eq, if_true, if_false, Bool.not_true, Bool.not_false, Bool.false_eq_true, decide_true, decide_false, and_self, and_true, true_and, List.cons_append, List.nil_append, Option.map_some, Option.bind_some, Int.reduceToNat, Int.reducePow, Int.reduceNeg, Int.reduceEq, Int.reduceLT, Int.reduceLE, Int.reduceAdd, Int.reduceSub, Int.reduceMul, eq_self, Mi.dat, not_true_eq_false, not_false_eq_true, Bool.or_self, Bool.or_true, Bool.or_false, Bool.false_or, Bool.true_or, false_and, and_false, true_or, or_true, false_or, or_false, l, u]
theorem roots_dat {k a b s : Int} : dat (rootsD k a b s) = true := by
  unfold rootsD
  split <;> rfl
theorem often_dat {n k a b s : Int} : dat (oftenD n k a b s) = true := by
  unfold oftenD
  split
  · split <;> rfl
  · split <;> rfl
theorem v_rootsR {n k a b s : Int} (G : Good n k a b) (h : F_roots_in [T4 n k a b] = .ok (rootsD k a b s)) : F_roots_of [T4 n k a b] = .ok (rootsD k a b s) := by
  have l := look4 G
  have hp := dat_plain (roots_dat (k := k) (a := a) (b := b) (s := s))
  unfold F_roots_of m_roots_of
  simp -implicitDefEqProofs only [Mi.kof_some, Mi.kof_none, Mi.mOp1_ap, Mi.k1_ok, Mi.k1_exc, Mi.mOp2_ap, Mi.k2a_ok, Mi.k2a_exc, Mi.k2b_ok, Mi.k2b_exc, Mi.mOpL_ap, Mi.kL_ok, Mi.kL_exc, Mi.mCons_ap, Mi.kca_ok, Mi.kca_exc, Mi.kcb_ok, Mi.kcb_exc, Mi.mNil_ap, Mi.mC_ap, Mi.mLst_ap, Mi.mTup_ap, Mi.kLst_ok, Mi.kTup_ok, Mi.mVar_ap, Mi.kV_some, Mi.mFrz_ap, Mi.kF_some, Mi.mMove_ap, Mi.kM_some, Mi.at0, Mi.atS, Mi.set0, Mi.setS, Mi.mT_ap, Mi.kT_ok, Mi.kT_exc, Mi.mNotT_ap, Mi.kN_ok, Mi.kN_exc, Mi.mAndT_ap, Mi.kA_ok, Mi.kA_exc, Mi.mOrT_ap, Mi.kO_ok, Mi.kO_exc, Mi.mAndV_ap, Mi.kAV_ok, Mi.mOrV_ap, Mi.kOV_ok, Mi.mIf_ap, Mi.kIf_ok, Mi.mChain_ap, Mi.kCh_ok, Mi.kCh1_ok, Mi.kCh2_ok, Mi.mSeq_ap, Mi.kS_nx, Mi.kS_rt, Mi.kS_exc, Mi.kS_bk, Mi.kS_ct, Mi.mNext_ap, Mi.mDrop_ap, Mi.kD_ok, Mi.kD_exc, Mi.mRet_ap, Mi.kR_ok, Mi.kR_exc, Mi.mRetN_ap, Mi.mIfS_ap, Mi.kI_ok, Mi.kI_exc, Mi.mAsg_ap, Mi.kG_ok, Mi.kG_exc, Mi.kG2_some, Mi.mgName_ap, Mi.mgTup_ap, Mi.mgCons_ap, Mi.kgs_some, Mi.mgNil_ap, Mi.mPar_ap, Mi.kP_ok, Mi.mPar3_ap, Mi.kP3_ok, Mi.ownAt_ap, Mi.kw_own, Mi.mSlotIx_ap, Mi.kX_some, Mi.kX2_ok, Mi.kX3_some, Mi.mCall_ap, Mi.kc_ok, Mi.kf_ok, Mi.kf_exc, Mi.mCallO_ap, Mi.kq_some, Mi.kq2_ok, Mi.kq3_some, Mi.kq4_ok, Mi.mSetIx_ap, Mi.ky_ok, Mi.ky2_some, Mi.ky3_ok, Mi.ky4_some, Mi.mItL_ap, Mi.kIL_ok, Mi.kRs_some, Mi.mItT_ap, Mi.kIT_ok, Mi.mRng1_ap, Mi.kr1_ok, Mi.mRng2_ap, Mi.kr2_ok, Mi.mFor_ap, Mi.kFo_ok, Mi.mLoop_nil, Mi.kl1_some, Mi.kl2_nx, Mi.kl2_ct, Mi.kl2_bk, Mi.kl2_rt, Mi.kl2_exc, Mi.mLc_ap, Mi.kLc_ok, Mi.lc_nil, Mi.kz1_some, Mi.kz2_ok, Mi.kz3_ok, Mi.mYes_ap, Mi.mAug_ap, Mi.kU_some, Mi.kU2_int, Mi.mTry_ap, Mi.kTr_nx, Mi.kTr_rt, Mi.mMeth_ap, Mi.kMe_lst, Mi.kMe_own, Mi.mAppend_ap, Mi.kAp_some, Mi.kAp2_ok, Mi.kAp3_some, Mi.dAdd_int, Mi.dAdd_str, Mi.dAdd_tup, Mi.dAdd_ll, Mi.dAdd_lo, Mi.dAdd_ol, Mi.dAdd_oo, Mi.dSub_int, Mi.dMul_int, Mi.dMod_int, Mi.dFdiv_int, Mi.dPow_int, Mi.dNeg_int, Mi.dDivmod_int, Mi.dGt_int, Mi.dGe_int, Mi.dLe_int, Mi.dLtI_int, Mi.dLt_int, Mi.dEq_int, Mi.dNe_int, Mi.dMax2_int, Mi.dMin2_int, Mi.fn1_ap, Mi.fn2_ap, Mi.dLen_tup, Mi.dLen_lst, Mi.dLen_cst, Mi.dLen_own, Mi.fnM_ap, Mi.kfn_nx, Mi.kfn_rt, Mi.kfn_exc, Mi.fnO_ap, Mi.kfo_nx, Mi.kfo_rt, Mi.env0, Mi.envN, Mi.envS, Mi.wipeN, Mi.wipeS, Mi.lit_own, Mi.lit_lst, Mi.lit_cst, Mi.ix_own, Mi.ix_lst, Mi.ix_cst, Mi.ix_tup, Mi.dix_own, Mi.dix_lst, Mi.dix_cst, Mi.dix_tup, Mi.rng0, Mi.toL, Mi.end_lawL, Mi.btw_int, Mi.btw_bl, Mi.btw_non, Mi.btw_str, Mi.is_non_int, Mi.is_bl_int, Mi.is_int_int, Mi.is_str_int, Mi.is_tup_int, Mi.is_lst_int, Mi.is_cst_int, Mi.is_own_int, Mi.is_non_bool, Mi.is_bl_bool, Mi.is_int_bool, Mi.is_str_bool, Mi.is_tup_bool, Mi.is_lst_bool, Mi.is_cst_bool, Mi.is_own_bool, Mi.is_non_tuple, Mi.is_bl_tuple, Mi.is_int_tuple, Mi.is_str_tuple, Mi.is_tup_tuple, Mi.is_lst_tuple, Mi.is_cst_tuple, Mi.is_own_tuple, Mi.is_non_list, Mi.is_bl_list, Mi.is_int_list, Mi.is_str_list, Mi.is_tup_list, Mi.is_lst_list, Mi.is_cst_list, Mi.is_own_list, Mi.is_non_str, Mi.is_bl_str, Mi.is_int_str, Mi.is_str_str, Mi.is_tup_str, Mi.is_lst_str, Mi.is_cst_str, Mi.is_own_str, Mi.cast_lit, Mi.mPart_ap, Mi.kPt_ok, Mi.mNoPart_ap, Mi.mSl_ap, Mi.kSl1_ok, Mi.kSl2_ok, Mi.kSl3_ok, Mi.dSl_tup, Mi.dSl_lst, Mi.dSl_cst, Mi.mZip_ap, Mi.kZ_tup, Mi.kZ_lst, Mi.mPick_ap, Mi.kPk_ok, Mi.kPk2_some, Mi.at_0, Mi.at_1, Mi.at_2, Mi.at_3, Mi.isT_non, Mi.isT_bl, Mi.isT_int, Mi.isT_str, Mi.isT_tup, Mi.isT_lst, Mi.isT_cst, Mi.isT_own, Mi.dInt_bl, Mi.dIs_f_non, Mi.dIs_t_non, Mi.dIs_f_bl, Mi.dIs_t_bl, Mi.dIs_f_int, Mi.dIs_t_int, Mi.dIs_f_str, Mi.dIs_t_str, Mi.dIs_f_tup, Mi.dIs_t_tup, Mi.dIs_f_lst, Mi.dIs_t_lst, Mi.dIs_f_own, Mi.dIs_t_own, Mi.dIs_f_cst, Mi.dIs_t_cst, Mi.mLR1_ap, Mi.kLR1_ok, Mi.mLR2_ap, Mi.kLR2_ok, Mi.kLR2b_ok, Mi.mCallB_ap, Mi.kcB_some, Mi.kcB1_ok, Mi.kcB2_some, Mi.kcB3_bl, Mi.kcB3_exc, Mi.mExtend_ap, Mi.kEx_some, Mi.kEx2_ok, Mi.kEx3_some, Mi.dNotIn2, Mi.dIn2, Mi.dIsB_tt, Mi.dIsB_ft, Mi.dNotB_tt, Mi.dNotB_ft, D.frz, frzs, D.plain, plains, Bool.and_self, Bool.and_true, Bool.true_and, Bool.and_false, Bool.false_and, List.length_cons, List.length_nil, List.length_set, Nat.reduceAdd, Nat.zero_add, Nat.reduceLT, Nat.reduceLeDiff, sizeLine_eq, if_true, if_false, Bool.not_true, Bool.not_false, Bool.false_eq_true, decide_true, decide_false, and_self, and_true, true_and, List.cons_append, List.nil_append, Option.map_some, Option.bind_some, Int.reduceToNat, Int.reducePow, Int.reduceNeg, Int.reduceEq, Int.reduceLT, Int.reduceLE, Int.reduceAdd, Int.reduceSub, Int.reduceMul, eq_self, Mi.dat, not_true_eq_false, not_false_eq_true, Bool.or_self, Bool.or_true, Bool.or_false, Bool.false_or, Bool.true_or, false_and, and_false, true_or, or_true, false_or, or_false, l, h, hp]
theorem v_oftenR {n k a b s : Int} (G : Good n k a b) (R : Root (qOf k a b) s) (h : F_roots_in [T4 n k a b] = .ok (rootsD k a b s)) : F_often [T4 n k a b] = .ok (oftenD n k a b s) := by
  have l := look4 G
  have h := v_often G R h
  have hp := dat_plain (often_dat (n := n) (k := k) (a := a) (b := b) (s := s))
  unfold F_often m_often
  simp -implicitDefEqProofs only [Mi.kof_some, Mi.kof_none, Mi.mOp1_ap, Mi.k1_ok, Mi.k1_exc, Mi.mOp2_ap, Mi.k2a_ok, Mi.k2a_exc, Mi.k2b_ok, Mi.k2b_exc, Mi.mOpL_ap, Mi.kL_ok, Mi.kL_exc, Mi.mCons_ap, Mi.kca_ok, Mi.kca_exc, Mi.kcb_ok, Mi.kcb_exc, Mi.mNil_ap, Mi.mC_ap, Mi.mLst_ap, Mi.mTup_ap, Mi.kLst_ok, Mi.kTup_ok, Mi.mVar_ap, Mi.kV_some, Mi.mFrz_ap, Mi.kF_some, Mi.mMove_ap, Mi.kM_some, Mi.at0, Mi.atS, Mi.set0, Mi.setS, Mi.mT_ap, Mi.kT_ok, Mi.kT_exc, Mi.mNotT_ap, Mi.kN_ok, Mi.kN_exc, Mi.mAndT_ap, Mi.kA_ok, Mi.kA_exc, Mi.mOrT_ap, Mi.kO_ok, Mi.kO_exc, Mi.mAndV_ap, Mi.kAV_ok, Mi.mOrV_ap, Mi.kOV_ok, Mi.mIf_ap, Mi.kIf_ok, Mi.mChain_ap, Mi.kCh_ok, Mi.kCh1_ok, Mi.kCh2_ok, Mi.mSeq_ap, Mi.kS_nx, Mi.kS_rt, Mi.kS_exc, Mi.kS_bk, Mi.kS_ct, Mi.mNext_ap, Mi.mDrop_ap, Mi.kD_ok, Mi.kD_exc, Mi.mRet_ap, Mi.kR_ok, Mi.kR_exc, Mi.mRetN_ap, Mi.mIfS_ap, Mi.kI_ok, Mi.kI_exc, Mi.mAsg_ap, Mi.kG_ok, Mi.kG_exc, Mi.kG2_some, Mi.mgName_ap, Mi.mgTup_ap, Mi.mgCons_ap, Mi.kgs_some, Mi.mgNil_ap, Mi.mPar_ap, Mi.kP_ok, Mi.mPar3_ap, Mi.kP3_ok, Mi.ownAt_ap, Mi.kw_own, Mi.mSlotIx_ap, Mi.kX_some, Mi.kX2_ok, Mi.kX3_some, Mi.mCall_ap, Mi.kc_ok, Mi.kf_ok, Mi.kf_exc, Mi.mCallO_ap, Mi.kq_some, Mi.kq2_ok, Mi.kq3_some, Mi.kq4_ok, Mi.mSetIx_ap, Mi.ky_ok, Mi.ky2_some, Mi.ky3_ok, Mi.ky4_some, Mi.mItL_ap, Mi.kIL_ok, Mi.kRs_some, Mi.mItT_ap, Mi.kIT_ok, Mi.mRng1_ap, Mi.kr1_ok, Mi.mRng2_ap, Mi.kr2_ok, Mi.mFor_ap, Mi.kFo_ok, Mi.mLoop_nil, Mi.kl1_some, Mi.kl2_nx, Mi.kl2_ct, Mi.kl2_bk, Mi.kl2_rt, Mi.kl2_exc, Mi.mLc_ap, Mi.kLc_ok, Mi.lc_nil, Mi.kz1_some, Mi.kz2_ok, Mi.kz3_ok, Mi.mYes_ap, Mi.mAug_ap, Mi.kU_some, Mi.kU2_int, Mi.mTry_ap, Mi.kTr_nx, Mi.kTr_rt, Mi.mMeth_ap, Mi.kMe_lst, Mi.kMe_own, Mi.mAppend_ap, Mi.kAp_some, Mi.kAp2_ok, Mi.kAp3_some, Mi.dAdd_int, Mi.dAdd_str, Mi.dAdd_tup, Mi.dAdd_ll, Mi.dAdd_lo, Mi.dAdd_ol, Mi.dAdd_oo, Mi.dSub_int, Mi.dMul_int, Mi.dMod_int, Mi.dFdiv_int, Mi.dPow_int, Mi.dNeg_int, Mi.dDivmod_int, Mi.dGt_int, Mi.dGe_int, Mi.dLe_int, Mi.dLtI_int, Mi.dLt_int, Mi.dEq_int, Mi.dNe_int, Mi.dMax2_int, Mi.dMin2_int, Mi.fn1_ap, Mi.fn2_ap, Mi.dLen_tup, Mi.dLen_lst, Mi.dLen_cst, Mi.dLen_own, Mi.fnM_ap, Mi.kfn_nx, Mi.kfn_rt, Mi.kfn_exc, Mi.fnO_ap, Mi.kfo_nx, Mi.kfo_rt, Mi.env0, Mi.envN, Mi.envS, Mi.wipeN, Mi.wipeS, Mi.lit_own, Mi.lit_lst, Mi.lit_cst, Mi.ix_own, Mi.ix_lst, Mi.ix_cst, Mi.ix_tup, Mi.dix_own, Mi.dix_lst, Mi.dix_cst, Mi.dix_tup, Mi.rng0, Mi.toL, Mi.end_lawL, Mi.btw_int, Mi.btw_bl, Mi.btw_non, Mi.btw_str, Mi.is_non_int, Mi.is_bl_int, Mi.is_int_int, Mi.is_str_int, Mi.is_tup_int, Mi.is_lst_int, Mi.is_cst_int, Mi.is_own_int, Mi.is_non_bool, Mi.is_bl_bool, Mi.is_int_bool, Mi.is_str_bool, Mi.is_tup_bool, Mi.is_lst_bool, Mi.is_cst_bool, Mi.is_own_bool, Mi.is_non_tuple, Mi.is_bl_tuple, Mi.is_int_tuple, Mi.is_str_tuple, Mi.is_tup_tuple, Mi.is_lst_tuple, Mi.is_cst_tuple, Mi.is_own_tuple, Mi.is_non_list, Mi.is_bl_list, Mi.is_int_list, Mi.is_str_list, Mi.is_tup_list, Mi.is_lst_list, Mi.is_cst_list, Mi.is_own_list, Mi.is_non_str, Mi.is_bl_str, Mi.is_int_str, Mi.is_str_str, Mi.is_tup_str, Mi.is_lst_str, Mi.is_cst_str, Mi.is_own_str, Mi.cast_lit, Mi.mPart_ap, Mi.kPt_ok, Mi.mNoPart_ap, Mi.mSl_ap, Mi.kSl1_ok, Mi.kSl2_ok, Mi.kSl3_ok, Mi.dSl_tup, Mi.dSl_lst, Mi.dSl_cst, Mi.mZip_ap, Mi.kZ_tup, Mi.kZ_lst, Mi.mPick_ap, Mi.kPk_ok, Mi.kPk2_some, Mi.at_0, Mi.at_1, Mi.at_2, Mi.at_3, Mi.isT_non, Mi.isT_bl, Mi.isT_int, Mi.isT_str, Mi.isT_tup, Mi.isT_lst, Mi.isT_cst, Mi.isT_own, Mi.dInt_bl, Mi.dIs_f_non, Mi.dIs_t_non, Mi.dIs_f_bl, Mi.dIs_t_bl, Mi.dIs_f_int, Mi.dIs_t_int, Mi.dIs_f_str, Mi.dIs_t_str, Mi.dIs_f_tup, Mi.dIs_t_tup, Mi.dIs_f_lst, Mi.dIs_t_lst, Mi.dIs_f_own, Mi.dIs_t_own, Mi.dIs_f_cst, Mi.dIs_t_cst, Mi.mLR1_ap, Mi.kLR1_ok, Mi.mLR2_ap, Mi.kLR2_ok, Mi.kLR2b_ok, Mi.mCallB_ap, Mi.kcB_some, Mi.kcB1_ok, Mi.kcB2_some, Mi.kcB3_bl, Mi.kcB3_exc, Mi.mExtend_ap, Mi.kEx_some, Mi.kEx2_ok, Mi.kEx3_some, Mi.dNotIn2, Mi.dIn2, Mi.dIsB_tt, Mi.dIsB_ft, Mi.dNotB_tt, Mi.dNotB_ft, D.frz, frzs, D.plain, plains, Bool.and_self, Bool.and_true, Bool.true_and, Bool.and_false, Bool.false_and, List.length_cons, List.length_nil, List.length_set, Nat.reduceAdd, Nat.zero_add, Nat.reduceLT, Nat.reduceLeDiff, sizeLine_eq, if_true, if_false, Bool.not_true, Bool.not_false, Bool.false_eq_true, decide_true, decide_false, and_self, and_true, true_and, List.cons_append, List.nil_append, Option.map_some, Option.bind_some, Int.reduceToNat, Int.reducePow, Int.reduceNeg, Int.reduceEq, Int.reduceLT, Int.reduceLE, Int.reduceAdd, Int.reduceSub, Int.reduceMul, eq_self, Mi.dat, not_true_eq_false, not_false_eq_true, Bool.or_self, Bool.or_true, Bool.or_false, Bool.false_or, Bool.true_or, false_and, and_false, true_or, or_true, false_or, or_false, l, h, hp]
theorem first_none {n k a b s : Int} (G : Good n k a b) (h : F_bars_of [T4 n k a b] = .ok (.own (barsL n k a b s))) (e : barsL n k a b s = []) : F_first_bar [T4 n k a b] = .ok .non := by
  have l := look4 G
  rw [e] at h
  have en := eq_nilL (xs := []) (fun _ z => nomatch z)
  rw [show decide (([] : List D) = []) = true from rfl] at en
  unfold F_first_bar m_first_bar
  simp -implicitDefEqProofs only [Mi.kof_some, Mi.kof_none, Mi.mOp1_ap, Mi.k1_ok, Mi.k1_exc, Mi.mOp2_ap, Mi.k2a_ok, Mi.k2a_exc, Mi.k2b_ok, Mi.k2b_exc, Mi.mOpL_ap, Mi.kL_ok, Mi.kL_exc, Mi.mCons_ap, Mi.kca_ok, Mi.kca_exc, Mi.kcb_ok, Mi.kcb_exc, Mi.mNil_ap, Mi.mC_ap, Mi.mLst_ap, Mi.mTup_ap, Mi.kLst_ok, Mi.kTup_ok, Mi.mVar_ap, Mi.kV_some, Mi.mFrz_ap, Mi.kF_some, Mi.mMove_ap, Mi.kM_some, Mi.at0, Mi.atS, Mi.set0, Mi.setS, Mi.mT_ap, Mi.kT_ok, Mi.kT_exc, Mi.mNotT_ap, Mi.kN_ok, Mi.kN_exc, Mi.mAndT_ap, Mi.kA_ok, Mi.kA_exc, Mi.mOrT_ap, Mi.kO_ok, Mi.kO_exc, Mi.mAndV_ap, Mi.kAV_ok, Mi.mOrV_ap, Mi.kOV_ok, Mi.mIf_ap, Mi.kIf_ok, Mi.mChain_ap, Mi.kCh_ok, Mi.kCh1_ok, Mi.kCh2_ok, Mi.mSeq_ap, Mi.kS_nx, Mi.kS_rt, Mi.kS_exc, Mi.kS_bk, Mi.kS_ct, Mi.mNext_ap, Mi.mDrop_ap, Mi.kD_ok, Mi.kD_exc, Mi.mRet_ap, Mi.kR_ok, Mi.kR_exc, Mi.mRetN_ap, Mi.mIfS_ap, Mi.kI_ok, Mi.kI_exc, Mi.mAsg_ap, Mi.kG_ok, Mi.kG_exc, Mi.kG2_some, Mi.mgName_ap, Mi.mgTup_ap, Mi.mgCons_ap, Mi.kgs_some, Mi.mgNil_ap, Mi.mPar_ap, Mi.kP_ok, Mi.mPar3_ap, Mi.kP3_ok, Mi.ownAt_ap, Mi.kw_own, Mi.mSlotIx_ap, Mi.kX_some, Mi.kX2_ok, Mi.kX3_some, Mi.mCall_ap, Mi.kc_ok, Mi.kf_ok, Mi.kf_exc, Mi.mCallO_ap, Mi.kq_some, Mi.kq2_ok, Mi.kq3_some, Mi.kq4_ok, Mi.mSetIx_ap, Mi.ky_ok, Mi.ky2_some, Mi.ky3_ok, Mi.ky4_some, Mi.mItL_ap, Mi.kIL_ok, Mi.kRs_some, Mi.mItT_ap, Mi.kIT_ok, Mi.mRng1_ap, Mi.kr1_ok, Mi.mRng2_ap, Mi.kr2_ok, Mi.mFor_ap, Mi.kFo_ok, Mi.mLoop_nil, Mi.kl1_some, Mi.kl2_nx, Mi.kl2_ct, Mi.kl2_bk, Mi.kl2_rt, Mi.kl2_exc, Mi.mLc_ap, Mi.kLc_ok, Mi.lc_nil, Mi.kz1_some, Mi.kz2_ok, Mi.kz3_ok, Mi.mYes_ap, Mi.mAug_ap, Mi.kU_some, Mi.kU2_int, Mi.mTry_ap, Mi.kTr_nx, Mi.kTr_rt, Mi.mMeth_ap, Mi.kMe_lst, Mi.kMe_own, Mi.mAppend_ap, Mi.kAp_some, Mi.kAp2_ok, Mi.kAp3_some, Mi.dAdd_int, Mi.dAdd_str, Mi.dAdd_tup, Mi.dAdd_ll, Mi.dAdd_lo, Mi.dAdd_ol, Mi.dAdd_oo, Mi.dSub_int, Mi.dMul_int, Mi.dMod_int, Mi.dFdiv_int, Mi.dPow_int, Mi.dNeg_int, Mi.dDivmod_int, Mi.dGt_int, Mi.dGe_int, Mi.dLe_int, Mi.dLtI_int, Mi.dLt_int, Mi.dEq_int, Mi.dNe_int, Mi.dMax2_int, Mi.dMin2_int, Mi.fn1_ap, Mi.fn2_ap, Mi.dLen_tup, Mi.dLen_lst, Mi.dLen_cst, Mi.dLen_own, Mi.fnM_ap, Mi.kfn_nx, Mi.kfn_rt, Mi.kfn_exc, Mi.fnO_ap, Mi.kfo_nx, Mi.kfo_rt, Mi.env0, Mi.envN, Mi.envS, Mi.wipeN, Mi.wipeS, Mi.lit_own, Mi.lit_lst, Mi.lit_cst, Mi.ix_own, Mi.ix_lst, Mi.ix_cst, Mi.ix_tup, Mi.dix_own, Mi.dix_lst, Mi.dix_cst, Mi.dix_tup, Mi.rng0, Mi.toL, Mi.end_lawL, Mi.btw_int, Mi.btw_bl, Mi.btw_non, Mi.btw_str, Mi.is_non_int, Mi.is_bl_int, Mi.is_int_int, Mi.is_str_int, Mi.is_tup_int, Mi.is_lst_int, Mi.is_cst_int, Mi.is_own_int, Mi.is_non_bool, Mi.is_bl_bool, Mi.is_int_bool, Mi.is_str_bool, Mi.is_tup_bool, Mi.is_lst_bool, Mi.is_cst_bool, Mi.is_own_bool, Mi.is_non_tuple, Mi.is_bl_tuple, Mi.is_int_tuple, Mi.is_str_tuple, Mi.is_tup_tuple, Mi.is_lst_tuple, Mi.is_cst_tuple, Mi.is_own_tuple, Mi.is_non_list, Mi.is_bl_list, Mi.is_int_list, Mi.is_str_list, Mi.is_tup_list, Mi.is_lst_list, Mi.is_cst_list, Mi.is_own_list, Mi.is_non_str, Mi.is_bl_str, Mi.is_int_str, Mi.is_str_str, Mi.is_tup_str, Mi.is_lst_str, Mi.is_cst_str, Mi.is_own_str, Mi.cast_lit, Mi.mPart_ap, Mi.kPt_ok, Mi.mNoPart_ap, Mi.mSl_ap, Mi.kSl1_ok, Mi.kSl2_ok, Mi.kSl3_ok, Mi.dSl_tup, Mi.dSl_lst, Mi.dSl_cst, Mi.mZip_ap, Mi.kZ_tup, Mi.kZ_lst, Mi.mPick_ap, Mi.kPk_ok, Mi.kPk2_some, Mi.at_0, Mi.at_1, Mi.at_2, Mi.at_3, Mi.isT_non, Mi.isT_bl, Mi.isT_int, Mi.isT_str, Mi.isT_tup, Mi.isT_lst, Mi.isT_cst, Mi.isT_own, Mi.dInt_bl, Mi.dIs_f_non, Mi.dIs_t_non, Mi.dIs_f_bl, Mi.dIs_t_bl, Mi.dIs_f_int, Mi.dIs_t_int, Mi.dIs_f_str, Mi.dIs_t_str, Mi.dIs_f_tup, Mi.dIs_t_tup, Mi.dIs_f_lst, Mi.dIs_t_lst, Mi.dIs_f_own, Mi.dIs_t_own, Mi.dIs_f_cst, Mi.dIs_t_cst, Mi.mLR1_ap, Mi.kLR1_ok, Mi.mLR2_ap, Mi.kLR2_ok, Mi.kLR2b_ok, Mi.mCallB_ap, Mi.kcB_some, Mi.kcB1_ok, Mi.kcB2_some, Mi.kcB3_bl, Mi.kcB3_exc, Mi.mExtend_ap, Mi.kEx_some, Mi.kEx2_ok, Mi.kEx3_some, Mi.dNotIn2, Mi.dIn2, Mi.dIsB_tt, Mi.dIsB_ft, Mi.dNotB_tt, Mi.dNotB_ft, D.frz, frzs, D.plain, plains, Bool.and_self, Bool.and_true, Bool.true_and, Bool.and_false, Bool.false_and, List.length_cons, List.length_nil, List.length_set, Nat.reduceAdd, Nat.zero_add, Nat.reduceLT, Nat.reduceLeDiff, sizeLine_eq, if_true, if_false, Bool.not_true, Bool.not_false, Bool.false_eq_true, decide_true, decide_false, and_self, and_true, true_and, List.cons_append, List.nil_append, Option.map_some, Option.bind_some, Int.reduceToNat, Int.reducePow, Int.reduceNeg, Int.reduceEq, Int.reduceLT, Int.reduceLE, Int.reduceAdd, Int.reduceSub, Int.reduceMul, eq_self, Mi.dat, not_true_eq_false, not_false_eq_true, Bool.or_self, Bool.or_true, Bool.or_false, Bool.false_or, Bool.true_or, false_and, and_false, true_or, or_true, false_or, or_false, l, h, en]
theorem first_some {n k a b s : Int} {x : D} {xs : List D} (G : Good n k a b) (h : F_bars_of [T4 n k a b] = .ok (.own (barsL n k a b s))) (e : barsL n k a b s = x :: xs) : F_first_bar [T4 n k a b] = .ok x := by
  have l := look4 G
  have hb := bar_bars (s := s) G
  have hL := lay_bars (s := s) G
  rw [e] at h hb hL
  have hb2 : ∀ z ∈ x :: xs, dat z = true := fun z hz => by
    rcases hb z hz with ⟨w, _, _, rfl, _⟩ | ⟨w, rfl, _⟩ <;> rfl
  have hx : dat x = true := hb2 x List.mem_cons_self
  have hz : frzs (x :: xs) = x :: xs := frzs_plain _ (by
    have : ∀ ys : List D, (∀ z ∈ ys, dat z = true) → plains ys = true := fun ys => by
      induction ys with
      | nil => intro _; rfl
      | cons y ys ih =>
        intro h
        show (y.plain && plains ys) = true
        rw [dat_plain (h y List.mem_cons_self), ih fun z hz => h z (List.mem_cons_of_mem _ hz)]
        rfl
    exact this _ hb2)
  have hpl : plains (x :: xs) = true := by
    have : ∀ ys : List D, (∀ z ∈ ys, dat z = true) → plains ys = true := fun ys => by
      induction ys with
      | nil => intro _; rfl
      | cons y ys ih =>
        intro h
        show (y.plain && plains ys) = true
        rw [dat_plain (h y List.mem_cons_self), ih fun z hz => h z (List.mem_cons_of_mem _ hz)]
        rfl
    exact this _ hb2
  have en := eq_nilL hL
  rw [show decide (x :: xs = []) = false from by simp] at en
  generalize hq : x :: xs = ys at *
  have a0 : atI ys 0 = some x := by rw [← hq]; exact at_0
  have xp := dat_plain hx
  unfold F_first_bar m_first_bar
  simp -implicitDefEqProofs only [Mi.kof_some, Mi.kof_none, Mi.mOp1_ap, Mi.k1_ok, Mi.k1_exc, Mi.mOp2_ap, Mi.k2a_ok, Mi.k2a_exc, Mi.k2b_ok, Mi.k2b_exc, Mi.mOpL_ap, Mi.kL_ok, Mi.kL_exc, Mi.mCons_ap, Mi.kca_ok, Mi.kca_exc, Mi.kcb_ok, Mi.kcb_exc, Mi.mNil_ap, Mi.mC_ap, Mi.mLst_ap, Mi.mTup_ap, Mi.kLst_ok, Mi.kTup_ok, Mi.mVar_ap, Mi.kV_some, Mi.mFrz_ap, Mi.kF_some, Mi.mMove_ap, Mi.kM_some, Mi.at0, Mi.atS, Mi.set0, Mi.setS, Mi.mT_ap, Mi.kT_ok, Mi.kT_exc, Mi.mNotT_ap, Mi.kN_ok, Mi.kN_exc, Mi.mAndT_ap, Mi.kA_ok, Mi.kA_exc, Mi.mOrT_ap, Mi.kO_ok, Mi.kO_exc, Mi.mAndV_ap, Mi.kAV_ok, Mi.mOrV_ap, Mi.kOV_ok, Mi.mIf_ap, Mi.kIf_ok, Mi.mChain_ap, Mi.kCh_ok, Mi.kCh1_ok, Mi.kCh2_ok, Mi.mSeq_ap, Mi.kS_nx, Mi.kS_rt, Mi.kS_exc, Mi.kS_bk, Mi.kS_ct, Mi.mNext_ap, Mi.mDrop_ap, Mi.kD_ok, Mi.kD_exc, Mi.mRet_ap, Mi.kR_ok, Mi.kR_exc, Mi.mRetN_ap, Mi.mIfS_ap, Mi.kI_ok, Mi.kI_exc, Mi.mAsg_ap, Mi.kG_ok, Mi.kG_exc, Mi.kG2_some, Mi.mgName_ap, Mi.mgTup_ap, Mi.mgCons_ap, Mi.kgs_some, Mi.mgNil_ap, Mi.mPar_ap, Mi.kP_ok, Mi.mPar3_ap, Mi.kP3_ok, Mi.ownAt_ap, Mi.kw_own, Mi.mSlotIx_ap, Mi.kX_some, Mi.kX2_ok, Mi.kX3_some, Mi.mCall_ap, Mi.kc_ok, Mi.kf_ok, Mi.kf_exc, Mi.mCallO_ap, Mi.kq_some, Mi.kq2_ok, Mi.kq3_some, Mi.kq4_ok, Mi.mSetIx_ap, Mi.ky_ok, Mi.ky2_some, Mi.ky3_ok, Mi.ky4_some, Mi.mItL_ap, Mi.kIL_ok, Mi.kRs_some, Mi.mItT_ap, Mi.kIT_ok, Mi.mRng1_ap, Mi.kr1_ok, Mi.mRng2_ap, Mi.kr2_ok, Mi.mFor_ap, Mi.kFo_ok, Mi.mLoop_nil, Mi.kl1_some, Mi.kl2_nx, Mi.kl2_ct, Mi.kl2_bk, Mi.kl2_rt, Mi.kl2_exc, Mi.mLc_ap, Mi.kLc_ok, Mi.lc_nil, Mi.kz1_some, Mi.kz2_ok, Mi.kz3_ok, Mi.mYes_ap, Mi.mAug_ap, Mi.kU_some, Mi.kU2_int, Mi.mTry_ap, Mi.kTr_nx, Mi.kTr_rt, Mi.mMeth_ap, Mi.kMe_lst, Mi.kMe_own, Mi.mAppend_ap, Mi.kAp_some, Mi.kAp2_ok, Mi.kAp3_some, Mi.dAdd_int, Mi.dAdd_str, Mi.dAdd_tup, Mi.dAdd_ll, Mi.dAdd_lo, Mi.dAdd_ol, Mi.dAdd_oo, Mi.dSub_int, Mi.dMul_int, Mi.dMod_int, Mi.dFdiv_int, Mi.dPow_int, Mi.dNeg_int, Mi.dDivmod_int, Mi.dGt_int, Mi.dGe_int, Mi.dLe_int, Mi.dLtI_int, Mi.dLt_int, Mi.dEq_int, Mi.dNe_int, Mi.dMax2_int, Mi.dMin2_int, Mi.fn1_ap, Mi.fn2_ap, Mi.dLen_tup, Mi.dLen_lst, Mi.dLen_cst, Mi.dLen_own, Mi.fnM_ap, Mi.kfn_nx, Mi.kfn_rt, Mi.kfn_exc, Mi.fnO_ap, Mi.kfo_nx, Mi.kfo_rt, Mi.env0, Mi.envN, Mi.envS, Mi.wipeN, Mi.wipeS, Mi.lit_own, Mi.lit_lst, Mi.lit_cst, Mi.ix_own, Mi.ix_lst, Mi.ix_cst, Mi.ix_tup, Mi.dix_own, Mi.dix_lst, Mi.dix_cst, Mi.dix_tup, Mi.rng0, Mi.toL, Mi.end_lawL, Mi.btw_int, Mi.btw_bl, Mi.btw_non, Mi.btw_str, Mi.is_non_int, Mi.is_bl_int, Mi.is_int_int, Mi.is_str_int, Mi.is_tup_int, Mi.is_lst_int, Mi.is_cst_int, Mi.is_own_int, Mi.is_non_bool, Mi.is_bl_bool, Mi.is_int_bool, Mi.is_str_bool, Mi.is_tup_bool, Mi.is_lst_bool, Mi.is_cst_bool, Mi.is_own_bool, Mi.is_non_tuple, Mi.is_bl_tuple, Mi.is_int_tuple, Mi.is_str_tuple, Mi.is_tup_tuple, Mi.is_lst_tuple, Mi.is_cst_tuple, Mi.is_own_tuple, Mi.is_non_list, Mi.is_bl_list, Mi.is_int_list, Mi.is_str_list, Mi.is_tup_list, Mi.is_lst_list, Mi.is_cst_list, Mi.is_own_list, Mi.is_non_str, Mi.is_bl_str, Mi.is_int_str, Mi.is_str_str, Mi.is_tup_str, Mi.is_lst_str, Mi.is_cst_str, Mi.is_own_str, Mi.cast_lit, Mi.mPart_ap, Mi.kPt_ok, Mi.mNoPart_ap, Mi.mSl_ap, Mi.kSl1_ok, Mi.kSl2_ok, Mi.kSl3_ok, Mi.dSl_tup, Mi.dSl_lst, Mi.dSl_cst, Mi.mZip_ap, Mi.kZ_tup, Mi.kZ_lst, Mi.mPick_ap, Mi.kPk_ok, Mi.kPk2_some, Mi.at_0, Mi.at_1, Mi.at_2, Mi.at_3, Mi.isT_non, Mi.isT_bl, Mi.isT_int, Mi.isT_str, Mi.isT_tup, Mi.isT_lst, Mi.isT_cst, Mi.isT_own, Mi.dInt_bl, Mi.dIs_f_non, Mi.dIs_t_non, Mi.dIs_f_bl, Mi.dIs_t_bl, Mi.dIs_f_int, Mi.dIs_t_int, Mi.dIs_f_str, Mi.dIs_t_str, Mi.dIs_f_tup, Mi.dIs_t_tup, Mi.dIs_f_lst, Mi.dIs_t_lst, Mi.dIs_f_own, Mi.dIs_t_own, Mi.dIs_f_cst, Mi.dIs_t_cst, Mi.mLR1_ap, Mi.kLR1_ok, Mi.mLR2_ap, Mi.kLR2_ok, Mi.kLR2b_ok, Mi.mCallB_ap, Mi.kcB_some, Mi.kcB1_ok, Mi.kcB2_some, Mi.kcB3_bl, Mi.kcB3_exc, Mi.mExtend_ap, Mi.kEx_some, Mi.kEx2_ok, Mi.kEx3_some, Mi.dNotIn2, Mi.dIn2, Mi.dIsB_tt, Mi.dIsB_ft, Mi.dNotB_tt, Mi.dNotB_ft, D.frz, frzs, D.plain, plains, Bool.and_self, Bool.and_true, Bool.true_and, Bool.and_false, Bool.false_and, List.length_cons, List.length_nil, List.length_set, Nat.reduceAdd, Nat.zero_add, Nat.reduceLT, Nat.reduceLeDiff, sizeLine_eq, if_true, if_false, Bool.not_true, Bool.not_false, Bool.false_eq_true, decide_true, decide_false, and_self, and_true, true_and, List.cons_append, List.nil_append, Option.map_some, Option.bind_some, Int.reduceToNat, Int.reducePow, Int.reduceNeg, Int.reduceEq, Int.reduceLT, Int.reduceLE, Int.reduceAdd, Int.reduceSub, Int.reduceMul, eq_self, Mi.dat, not_true_eq_false, not_false_eq_true, Bool.or_self, Bool.or_true, Bool.or_false, Bool.false_or, Bool.true_or, false_and, and_false, true_or, or_true, false_or, or_false, l, h, en, hz, hpl, a0, xp]
theorem is_bar_yes {n k a b s : Int} {x : D} (G : Good n k a b) (h : F_bars_of [T4 n k a b] = .ok (.own (barsL n k a b s))) (hx : x ∈ barsL n k a b s) : F_is_bar [T4 n k a b, x] = .ok (.bl true) := by
  have l := look4 G
  have hb := bar_bars (s := s) G x hx
  have pl := bar_plain hb
  have i := in_self (lay_bars (s := s) G) hx
  have xd : dat x = true := by rcases hb with ⟨w, _, _, rfl, _⟩ | ⟨w, rfl, _⟩ <;> rfl
  have xp := dat_plain xd
  have xz := dat_frz xd
  unfold F_is_bar m_is_bar
  simp -implicitDefEqProofs only [Mi.kof_some, Mi.kof_none, Mi.mOp1_ap, Mi.k1_ok, Mi.k1_exc, Mi.mOp2_ap, Mi.k2a_ok, Mi.k2a_exc, Mi.k2b_ok, Mi.k2b_exc, Mi.mOpL_ap, Mi.kL_ok, Mi.kL_exc, Mi.mCons_ap, Mi.kca_ok, Mi.kca_exc, Mi.kcb_ok, Mi.kcb_exc, Mi.mNil_ap, Mi.mC_ap, Mi.mLst_ap, Mi.mTup_ap, Mi.kLst_ok, Mi.kTup_ok, Mi.mVar_ap, Mi.kV_some, Mi.mFrz_ap, Mi.kF_some, Mi.mMove_ap, Mi.kM_some, Mi.at0, Mi.atS, Mi.set0, Mi.setS, Mi.mT_ap, Mi.kT_ok, Mi.kT_exc, Mi.mNotT_ap, Mi.kN_ok, Mi.kN_exc, Mi.mAndT_ap, Mi.kA_ok, Mi.kA_exc, Mi.mOrT_ap, Mi.kO_ok, Mi.kO_exc, Mi.mAndV_ap, Mi.kAV_ok, Mi.mOrV_ap, Mi.kOV_ok, Mi.mIf_ap, Mi.kIf_ok, Mi.mChain_ap, Mi.kCh_ok, Mi.kCh1_ok, Mi.kCh2_ok, Mi.mSeq_ap, Mi.kS_nx, Mi.kS_rt, Mi.kS_exc, Mi.kS_bk, Mi.kS_ct, Mi.mNext_ap, Mi.mDrop_ap, Mi.kD_ok, Mi.kD_exc, Mi.mRet_ap, Mi.kR_ok, Mi.kR_exc, Mi.mRetN_ap, Mi.mIfS_ap, Mi.kI_ok, Mi.kI_exc, Mi.mAsg_ap, Mi.kG_ok, Mi.kG_exc, Mi.kG2_some, Mi.mgName_ap, Mi.mgTup_ap, Mi.mgCons_ap, Mi.kgs_some, Mi.mgNil_ap, Mi.mPar_ap, Mi.kP_ok, Mi.mPar3_ap, Mi.kP3_ok, Mi.ownAt_ap, Mi.kw_own, Mi.mSlotIx_ap, Mi.kX_some, Mi.kX2_ok, Mi.kX3_some, Mi.mCall_ap, Mi.kc_ok, Mi.kf_ok, Mi.kf_exc, Mi.mCallO_ap, Mi.kq_some, Mi.kq2_ok, Mi.kq3_some, Mi.kq4_ok, Mi.mSetIx_ap, Mi.ky_ok, Mi.ky2_some, Mi.ky3_ok, Mi.ky4_some, Mi.mItL_ap, Mi.kIL_ok, Mi.kRs_some, Mi.mItT_ap, Mi.kIT_ok, Mi.mRng1_ap, Mi.kr1_ok, Mi.mRng2_ap, Mi.kr2_ok, Mi.mFor_ap, Mi.kFo_ok, Mi.mLoop_nil, Mi.kl1_some, Mi.kl2_nx, Mi.kl2_ct, Mi.kl2_bk, Mi.kl2_rt, Mi.kl2_exc, Mi.mLc_ap, Mi.kLc_ok, Mi.lc_nil, Mi.kz1_some, Mi.kz2_ok, Mi.kz3_ok, Mi.mYes_ap, Mi.mAug_ap, Mi.kU_some, Mi.kU2_int, Mi.mTry_ap, Mi.kTr_nx, Mi.kTr_rt, Mi.mMeth_ap, Mi.kMe_lst, Mi.kMe_own, Mi.mAppend_ap, Mi.kAp_some, Mi.kAp2_ok, Mi.kAp3_some, Mi.dAdd_int, Mi.dAdd_str, Mi.dAdd_tup, Mi.dAdd_ll, Mi.dAdd_lo, Mi.dAdd_ol, Mi.dAdd_oo, Mi.dSub_int, Mi.dMul_int, Mi.dMod_int, Mi.dFdiv_int, Mi.dPow_int, Mi.dNeg_int, Mi.dDivmod_int, Mi.dGt_int, Mi.dGe_int, Mi.dLe_int, Mi.dLtI_int, Mi.dLt_int, Mi.dEq_int, Mi.dNe_int, Mi.dMax2_int, Mi.dMin2_int, Mi.fn1_ap, Mi.fn2_ap, Mi.dLen_tup, Mi.dLen_lst, Mi.dLen_cst, Mi.dLen_own, Mi.fnM_ap, Mi.kfn_nx, Mi.kfn_rt, Mi.kfn_exc, Mi.fnO_ap, Mi.kfo_nx, Mi.kfo_rt, Mi.env0, Mi.envN, Mi.envS, Mi.wipeN, Mi.wipeS, Mi.lit_own, Mi.lit_lst, Mi.lit_cst, Mi.ix_own, Mi.ix_lst, Mi.ix_cst, Mi.ix_tup, Mi.dix_own, Mi.dix_lst, Mi.dix_cst, Mi.dix_tup, Mi.rng0, Mi.toL, Mi.end_lawL, Mi.btw_int, Mi.btw_bl, Mi.btw_non, Mi.btw_str, Mi.is_non_int, Mi.is_bl_int, Mi.is_int_int, Mi.is_str_int, Mi.is_tup_int, Mi.is_lst_int, Mi.is_cst_int, Mi.is_own_int, Mi.is_non_bool, Mi.is_bl_bool, Mi.is_int_bool, Mi.is_str_bool, Mi.is_tup_bool, Mi.is_lst_bool, Mi.is_cst_bool, Mi.is_own_bool, Mi.is_non_tuple, Mi.is_bl_tuple, Mi.is_int_tuple, Mi.is_str_tuple, Mi.is_tup_tuple, Mi.is_lst_tuple, Mi.is_cst_tuple, Mi.is_own_tuple, Mi.is_non_list, Mi.is_bl_list, Mi.is_int_list, Mi.is_str_list, Mi.is_tup_list, Mi.is_lst_list, Mi.is_cst_list, Mi.is_own_list, Mi.is_non_str, Mi.is_bl_str, Mi.is_int_str, Mi.is_str_str, Mi.is_tup_str, Mi.is_lst_str, Mi.is_cst_str, Mi.is_own_str, Mi.cast_lit, Mi.mPart_ap, Mi.kPt_ok, Mi.mNoPart_ap, Mi.mSl_ap, Mi.kSl1_ok, Mi.kSl2_ok, Mi.kSl3_ok, Mi.dSl_tup, Mi.dSl_lst, Mi.dSl_cst, Mi.mZip_ap, Mi.kZ_tup, Mi.kZ_lst, Mi.mPick_ap, Mi.kPk_ok, Mi.kPk2_some, Mi.at_0, Mi.at_1, Mi.at_2, Mi.at_3, Mi.isT_non, Mi.isT_bl, Mi.isT_int, Mi.isT_str, Mi.isT_tup, Mi.isT_lst, Mi.isT_cst, Mi.isT_own, Mi.dInt_bl, Mi.dIs_f_non, Mi.dIs_t_non, Mi.dIs_f_bl, Mi.dIs_t_bl, Mi.dIs_f_int, Mi.dIs_t_int, Mi.dIs_f_str, Mi.dIs_t_str, Mi.dIs_f_tup, Mi.dIs_t_tup, Mi.dIs_f_lst, Mi.dIs_t_lst, Mi.dIs_f_own, Mi.dIs_t_own, Mi.dIs_f_cst, Mi.dIs_t_cst, Mi.mLR1_ap, Mi.kLR1_ok, Mi.mLR2_ap, Mi.kLR2_ok, Mi.kLR2b_ok, Mi.mCallB_ap, Mi.kcB_some, Mi.kcB1_ok, Mi.kcB2_some, Mi.kcB3_bl, Mi.kcB3_exc, Mi.mExtend_ap, Mi.kEx_some, Mi.kEx2_ok, Mi.kEx3_some, Mi.dNotIn2, Mi.dIn2, Mi.dIsB_tt, Mi.dIsB_ft, Mi.dNotB_tt, Mi.dNotB_ft, D.frz, frzs, D.plain, plains, Bool.and_self, Bool.and_true, Bool.true_and, Bool.and_false, Bool.false_and, List.length_cons, List.length_nil, List.length_set, Nat.reduceAdd, Nat.zero_add, Nat.reduceLT, Nat.reduceLeDiff, sizeLine_eq, if_true, if_false, Bool.not_true, Bool.not_false, Bool.false_eq_true, decide_true, decide_false, and_self, and_true, true_and, List.cons_append, List.nil_append, Option.map_some, Option.bind_some, Int.reduceToNat, Int.reducePow, Int.reduceNeg, Int.reduceEq, Int.reduceLT, Int.reduceLE, Int.reduceAdd, Int.reduceSub, Int.reduceMul, eq_self, Mi.dat, not_true_eq_false, not_false_eq_true, Bool.or_self, Bool.or_true, Bool.or_false, Bool.false_or, Bool.true_or, false_and, and_false, true_or, or_true, false_or, or_false, l, h, pl, xp, xz, i]
theorem pair_eq {x y u v : Int} : dEq (.tup [.int x, .int y]) (.tup [.int u, .int v]) = some (.bl (decide (x = u ∧ y = v))) := by
  show ((if (SeqAt.shaped (.tuple [.int x, .int y]) && SeqAt.shaped (.tuple [.int u, .int v])) = true then some (PyData.eqv (.tuple [.int x, .int y]) (.tuple [.int u, .int v])) else none).map D.bl) = _
  rw [shaped_i2, shaped_i2]
  simp only [Bool.and_self, if_true, Option.map_some, PyData.eqv, PyData.eqvAll]
  by_cases h1 : x = u <;> by_cases h2 : y = v <;> simp [h1, h2]
theorem pair_ne {x y : Int} : dNe (.tup [.int x, .int y]) (.tup [.int x, .int y]) = some (.bl false) := by
  have h := pair_eq (x := x) (y := y) (u := x) (v := y)
  unfold dEq at h
  unfold dNe
  rcases hq : pyEq (.tup [.int x, .int y]) (.tup [.int x, .int y]) with _ | c
  · rw [hq] at h; cases h
  · rw [hq] at h
    simp only [Option.map_some, and_self, decide_true, Option.some.injEq, D.bl.injEq] at h
    rw [h]; rfl
theorem rest_right {n k a b s : Int} (G : Good n k a b) (R : Root (qOf k a b) s) (hr : F_roots_in [T4 n k a b] = .ok (rootsD k a b s)) (F : Free n k a b s) : F_w_rest_right [T4 n k a b] = .ok (.bl true) := by
  have vr := v_rest G
  have o1 := v_oftenR G R hr
  have r1 := v_rootsR G hr
  have u1 := v_underR G
  rcases often_cases G s with z | ⟨f, g, z, f0, f1, g0, g1⟩
  · exact absurd z F.oft
  obtain ⟨ro, fg, _, _, rs⟩ := rest_often G R z
  by_cases h : n - 2 * k + b - 2 < 0
  · unfold F_w_rest_right m_w_rest_right
    simp -implicitDefEqProofs only [Mi.kof_some, Mi.kof_none, Mi.mOp1_ap, Mi.k1_ok, Mi.k1_exc, Mi.mOp2_ap, Mi.k2a_ok, Mi.k2a_exc, Mi.k2b_ok, Mi.k2b_exc, Mi.mOpL_ap, Mi.kL_ok, Mi.kL_exc, Mi.mCons_ap, Mi.kca_ok, Mi.kca_exc, Mi.kcb_ok, Mi.kcb_exc, Mi.mNil_ap, Mi.mC_ap, Mi.mLst_ap, Mi.mTup_ap, Mi.kLst_ok, Mi.kTup_ok, Mi.mVar_ap, Mi.kV_some, Mi.mFrz_ap, Mi.kF_some, Mi.mMove_ap, Mi.kM_some, Mi.at0, Mi.atS, Mi.set0, Mi.setS, Mi.mT_ap, Mi.kT_ok, Mi.kT_exc, Mi.mNotT_ap, Mi.kN_ok, Mi.kN_exc, Mi.mAndT_ap, Mi.kA_ok, Mi.kA_exc, Mi.mOrT_ap, Mi.kO_ok, Mi.kO_exc, Mi.mAndV_ap, Mi.kAV_ok, Mi.mOrV_ap, Mi.kOV_ok, Mi.mIf_ap, Mi.kIf_ok, Mi.mChain_ap, Mi.kCh_ok, Mi.kCh1_ok, Mi.kCh2_ok, Mi.mSeq_ap, Mi.kS_nx, Mi.kS_rt, Mi.kS_exc, Mi.kS_bk, Mi.kS_ct, Mi.mNext_ap, Mi.mDrop_ap, Mi.kD_ok, Mi.kD_exc, Mi.mRet_ap, Mi.kR_ok, Mi.kR_exc, Mi.mRetN_ap, Mi.mIfS_ap, Mi.kI_ok, Mi.kI_exc, Mi.mAsg_ap, Mi.kG_ok, Mi.kG_exc, Mi.kG2_some, Mi.mgName_ap, Mi.mgTup_ap, Mi.mgCons_ap, Mi.kgs_some, Mi.mgNil_ap, Mi.mPar_ap, Mi.kP_ok, Mi.mPar3_ap, Mi.kP3_ok, Mi.ownAt_ap, Mi.kw_own, Mi.mSlotIx_ap, Mi.kX_some, Mi.kX2_ok, Mi.kX3_some, Mi.mCall_ap, Mi.kc_ok, Mi.kf_ok, Mi.kf_exc, Mi.mCallO_ap, Mi.kq_some, Mi.kq2_ok, Mi.kq3_some, Mi.kq4_ok, Mi.mSetIx_ap, Mi.ky_ok, Mi.ky2_some, Mi.ky3_ok, Mi.ky4_some, Mi.mItL_ap, Mi.kIL_ok, Mi.kRs_some, Mi.mItT_ap, Mi.kIT_ok, Mi.mRng1_ap, Mi.kr1_ok, Mi.mRng2_ap, Mi.kr2_ok, Mi.mFor_ap, Mi.kFo_ok, Mi.mLoop_nil, Mi.kl1_some, Mi.kl2_nx, Mi.kl2_ct, Mi.kl2_bk, Mi.kl2_rt, Mi.kl2_exc, Mi.mLc_ap, Mi.kLc_ok, Mi.lc_nil, Mi.kz1_some, Mi.kz2_ok, Mi.kz3_ok, Mi.mYes_ap, Mi.mAug_ap, Mi.kU_some, Mi.kU2_int, Mi.mTry_ap, Mi.kTr_nx, Mi.kTr_rt, Mi.mMeth_ap, Mi.kMe_lst, Mi.kMe_own, Mi.mAppend_ap, Mi.kAp_some, Mi.kAp2_ok, Mi.kAp3_some, Mi.dAdd_int, Mi.dAdd_str, Mi.dAdd_tup, Mi.dAdd_ll, Mi.dAdd_lo, Mi.dAdd_ol, Mi.dAdd_oo, Mi.dSub_int, Mi.dMul_int, Mi.dMod_int, Mi.dFdiv_int, Mi.dPow_int, Mi.dNeg_int, Mi.dDivmod_int, Mi.dGt_int, Mi.dGe_int, Mi.dLe_int, Mi.dLtI_int, Mi.dLt_int, Mi.dEq_int, Mi.dNe_int, Mi.dMax2_int, Mi.dMin2_int, Mi.fn1_ap, Mi.fn2_ap, Mi.dLen_tup, Mi.dLen_lst, Mi.dLen_cst, Mi.dLen_own, Mi.fnM_ap, Mi.kfn_nx, Mi.kfn_rt, Mi.kfn_exc, Mi.fnO_ap, Mi.kfo_nx, Mi.kfo_rt, Mi.env0, Mi.envN, Mi.envS, Mi.wipeN, Mi.wipeS, Mi.lit_own, Mi.lit_lst, Mi.lit_cst, Mi.ix_own, Mi.ix_lst, Mi.ix_cst, Mi.ix_tup, Mi.dix_own, Mi.dix_lst, Mi.dix_cst, Mi.dix_tup, Mi.rng0, Mi.toL, Mi.end_lawL, Mi.btw_int, Mi.btw_bl, Mi.btw_non, Mi.btw_str, Mi.is_non_int, Mi.is_bl_int, Mi.is_int_int, Mi.is_str_int, Mi.is_tup_int, Mi.is_lst_int, Mi.is_cst_int, Mi.is_own_int, Mi.is_non_bool, Mi.is_bl_bool, Mi.is_int_bool, Mi.is_str_bool, Mi.is_tup_bool, Mi.is_lst_bool, Mi.is_cst_bool, Mi.is_own_bool, Mi.is_non_tuple, Mi.is_bl_tuple, Mi.is_int_tuple, Mi.is_str_tuple, Mi.is_tup_tuple, Mi.is_lst_tuple, Mi.is_cst_tuple, Mi.is_own_tuple, Mi.is_non_list, Mi.is_bl_list, Mi.is_int_list, Mi.is_str_list, Mi.is_tup_list, Mi.is_lst_list, Mi.is_cst_list, Mi.is_own_list, Mi.is_non_str, Mi.is_bl_str, Mi.is_int_str, Mi.is_str_str, Mi.is_tup_str, Mi.is_lst_str, Mi.is_cst_str, Mi.is_own_str, Mi.cast_lit, Mi.mPart_ap, Mi.kPt_ok, Mi.mNoPart_ap, Mi.mSl_ap, Mi.kSl1_ok, Mi.kSl2_ok, Mi.kSl3_ok, Mi.dSl_tup, Mi.dSl_lst, Mi.dSl_cst, Mi.mZip_ap, Mi.kZ_tup, Mi.kZ_lst, Mi.mPick_ap, Mi.kPk_ok, Mi.kPk2_some, Mi.at_0, Mi.at_1, Mi.at_2, Mi.at_3, Mi.isT_non, Mi.isT_bl, Mi.isT_int, Mi.isT_str, Mi.isT_tup, Mi.isT_lst, Mi.isT_cst, Mi.isT_own, Mi.dInt_bl, Mi.dIs_f_non, Mi.dIs_t_non, Mi.dIs_f_bl, Mi.dIs_t_bl, Mi.dIs_f_int, Mi.dIs_t_int, Mi.dIs_f_str, Mi.dIs_t_str, Mi.dIs_f_tup, Mi.dIs_t_tup, Mi.dIs_f_lst, Mi.dIs_t_lst, Mi.dIs_f_own, Mi.dIs_t_own, Mi.dIs_f_cst, Mi.dIs_t_cst, Mi.mLR1_ap, Mi.kLR1_ok, Mi.mLR2_ap, Mi.kLR2_ok, Mi.kLR2b_ok, Mi.mCallB_ap, Mi.kcB_some, Mi.kcB1_ok, Mi.kcB2_some, Mi.kcB3_bl, Mi.kcB3_exc, Mi.mExtend_ap, Mi.kEx_some, Mi.kEx2_ok, Mi.kEx3_some, Mi.dNotIn2, Mi.dIn2, Mi.dIsB_tt, Mi.dIsB_ft, Mi.dNotB_tt, Mi.dNotB_ft, D.frz, frzs, D.plain, plains, Bool.and_self, Bool.and_true, Bool.true_and, Bool.and_false, Bool.false_and, List.length_cons, List.length_nil, List.length_set, Nat.reduceAdd, Nat.zero_add, Nat.reduceLT, Nat.reduceLeDiff, sizeLine_eq, if_true, if_false, Bool.not_true, Bool.not_false, Bool.false_eq_true, decide_true, decide_false, and_self, and_true, true_and, List.cons_append, List.nil_append, Option.map_some, Option.bind_some, Int.reduceToNat, Int.reducePow, Int.reduceNeg, Int.reduceEq, Int.reduceLT, Int.reduceLE, Int.reduceAdd, Int.reduceSub, Int.reduceMul, eq_self, Mi.dat, not_true_eq_false, not_false_eq_true, Bool.or_self, Bool.or_true, Bool.or_false, Bool.false_or, Bool.true_or, false_and, and_false, true_or, or_true, false_or, or_false, vr, h]
  · have hc := F.cnt
    have G' := rest_good G hc (by omega)
    obtain ⟨s', R', hr', hb'⟩ := barsP G'
    rw [rest_q] at R'
    obtain rfl := R.uniq R'
    have F' := rest_free G R F (by omega)
    have e' := (free_of G').mpr F'
    have fn := first_none G' hb' e'
    have u2 := v_underR G'
    rw [rest_q] at u2
    have R2 : Root (qOf (n - k - 1) (n - 2 * k + b - 2) (n - 2 * k + a)) s := by rw [rest_q]; exact R
    have o2 := v_oftenR G' R2 hr'
    have r2 := v_rootsR G' hr'
    rw [ro] at o2
    rw [z] at o1
    unfold rootsD at r1 r2
    rw [rest_q] at r2
    by_cases e : s * s = qOf k a b
    · have rt := rts G R e
      have rs := rs e
      rw [if_pos e] at r1 r2
      obtain ⟨x1, x2⟩ := rest_rts G R e
      rw [x1, x2] at r2
      generalize (a - b + s) / 2 = r at *
      generalize (a - b - s) / 2 = t at *
      obtain ⟨s1, s2, df, smm, pr, r0, r1', t0, t1⟩ := rt
      obtain ⟨g1', g2, g3, g4, g5, g6, g7, g8⟩ := G
      have c1 : CMulX f r := cmulx64 (by omega) (by omega)
      have c2 : CMulX g t := cmulx64 (by omega) (by omega)
      have pe := pair_eq (x := -1 - t) (y := -1 - r) (u := -1 - t) (v := -1 - r)
      have m1 : (0 : Int) - 1 = -1 := by decide
      unfold F_w_rest_right m_w_rest_right
      simp -implicitDefEqProofs only [Mi.kof_some, Mi.kof_none, Mi.mOp1_ap, Mi.k1_ok, Mi.k1_exc, Mi.mOp2_ap, Mi.k2a_ok, Mi.k2a_exc, Mi.k2b_ok, Mi.k2b_exc, Mi.mOpL_ap, Mi.kL_ok, Mi.kL_exc, Mi.mCons_ap, Mi.kca_ok, Mi.kca_exc, Mi.kcb_ok, Mi.kcb_exc, Mi.mNil_ap, Mi.mC_ap, Mi.mLst_ap, Mi.mTup_ap, Mi.kLst_ok, Mi.kTup_ok, Mi.mVar_ap, Mi.kV_some, Mi.mFrz_ap, Mi.kF_some, Mi.mMove_ap, Mi.kM_some, Mi.at0, Mi.atS, Mi.set0, Mi.setS, Mi.mT_ap, Mi.kT_ok, Mi.kT_exc, Mi.mNotT_ap, Mi.kN_ok, Mi.kN_exc, Mi.mAndT_ap, Mi.kA_ok, Mi.kA_exc, Mi.mOrT_ap, Mi.kO_ok, Mi.kO_exc, Mi.mAndV_ap, Mi.kAV_ok, Mi.mOrV_ap, Mi.kOV_ok, Mi.mIf_ap, Mi.kIf_ok, Mi.mChain_ap, Mi.kCh_ok, Mi.kCh1_ok, Mi.kCh2_ok, Mi.mSeq_ap, Mi.kS_nx, Mi.kS_rt, Mi.kS_exc, Mi.kS_bk, Mi.kS_ct, Mi.mNext_ap, Mi.mDrop_ap, Mi.kD_ok, Mi.kD_exc, Mi.mRet_ap, Mi.kR_ok, Mi.kR_exc, Mi.mRetN_ap, Mi.mIfS_ap, Mi.kI_ok, Mi.kI_exc, Mi.mAsg_ap, Mi.kG_ok, Mi.kG_exc, Mi.kG2_some, Mi.mgName_ap, Mi.mgTup_ap, Mi.mgCons_ap, Mi.kgs_some, Mi.mgNil_ap, Mi.mPar_ap, Mi.kP_ok, Mi.mPar3_ap, Mi.kP3_ok, Mi.ownAt_ap, Mi.kw_own, Mi.mSlotIx_ap, Mi.kX_some, Mi.kX2_ok, Mi.kX3_some, Mi.mCall_ap, Mi.kc_ok, Mi.kf_ok, Mi.kf_exc, Mi.mCallO_ap, Mi.kq_some, Mi.kq2_ok, Mi.kq3_some, Mi.kq4_ok, Mi.mSetIx_ap, Mi.ky_ok, Mi.ky2_some, Mi.ky3_ok, Mi.ky4_some, Mi.mItL_ap, Mi.kIL_ok, Mi.kRs_some, Mi.mItT_ap, Mi.kIT_ok, Mi.mRng1_ap, Mi.kr1_ok, Mi.mRng2_ap, Mi.kr2_ok, Mi.mFor_ap, Mi.kFo_ok, Mi.mLoop_nil, Mi.kl1_some, Mi.kl2_nx, Mi.kl2_ct, Mi.kl2_bk, Mi.kl2_rt, Mi.kl2_exc, Mi.mLc_ap, Mi.kLc_ok, Mi.lc_nil, Mi.kz1_some, Mi.kz2_ok, Mi.kz3_ok, Mi.mYes_ap, Mi.mAug_ap, Mi.kU_some, Mi.kU2_int, Mi.mTry_ap, Mi.kTr_nx, Mi.kTr_rt, Mi.mMeth_ap, Mi.kMe_lst, Mi.kMe_own, Mi.mAppend_ap, Mi.kAp_some, Mi.kAp2_ok, Mi.kAp3_some, Mi.dAdd_int, Mi.dAdd_str, Mi.dAdd_tup, Mi.dAdd_ll, Mi.dAdd_lo, Mi.dAdd_ol, Mi.dAdd_oo, Mi.dSub_int, Mi.dMul_int, Mi.dMod_int, Mi.dFdiv_int, Mi.dPow_int, Mi.dNeg_int, Mi.dDivmod_int, Mi.dGt_int, Mi.dGe_int, Mi.dLe_int, Mi.dLtI_int, Mi.dLt_int, Mi.dEq_int, Mi.dNe_int, Mi.dMax2_int, Mi.dMin2_int, Mi.fn1_ap, Mi.fn2_ap, Mi.dLen_tup, Mi.dLen_lst, Mi.dLen_cst, Mi.dLen_own, Mi.fnM_ap, Mi.kfn_nx, Mi.kfn_rt, Mi.kfn_exc, Mi.fnO_ap, Mi.kfo_nx, Mi.kfo_rt, Mi.env0, Mi.envN, Mi.envS, Mi.wipeN, Mi.wipeS, Mi.lit_own, Mi.lit_lst, Mi.lit_cst, Mi.ix_own, Mi.ix_lst, Mi.ix_cst, Mi.ix_tup, Mi.dix_own, Mi.dix_lst, Mi.dix_cst, Mi.dix_tup, Mi.rng0, Mi.toL, Mi.end_lawL, Mi.btw_int, Mi.btw_bl, Mi.btw_non, Mi.btw_str, Mi.is_non_int, Mi.is_bl_int, Mi.is_int_int, Mi.is_str_int, Mi.is_tup_int, Mi.is_lst_int, Mi.is_cst_int, Mi.is_own_int, Mi.is_non_bool, Mi.is_bl_bool, Mi.is_int_bool, Mi.is_str_bool, Mi.is_tup_bool, Mi.is_lst_bool, Mi.is_cst_bool, Mi.is_own_bool, Mi.is_non_tuple, Mi.is_bl_tuple, Mi.is_int_tuple, Mi.is_str_tuple, Mi.is_tup_tuple, Mi.is_lst_tuple, Mi.is_cst_tuple, Mi.is_own_tuple, Mi.is_non_list, Mi.is_bl_list, Mi.is_int_list, Mi.is_str_list, Mi.is_tup_list, Mi.is_lst_list, Mi.is_cst_list, Mi.is_own_list, Mi.is_non_str, Mi.is_bl_str, Mi.is_int_str, Mi.is_str_str, Mi.is_tup_str, Mi.is_lst_str, Mi.is_cst_str, Mi.is_own_str, Mi.cast_lit, Mi.mPart_ap, Mi.kPt_ok, Mi.mNoPart_ap, Mi.mSl_ap, Mi.kSl1_ok, Mi.kSl2_ok, Mi.kSl3_ok, Mi.dSl_tup, Mi.dSl_lst, Mi.dSl_cst, Mi.mZip_ap, Mi.kZ_tup, Mi.kZ_lst, Mi.mPick_ap, Mi.kPk_ok, Mi.kPk2_some, Mi.at_0, Mi.at_1, Mi.at_2, Mi.at_3, Mi.isT_non, Mi.isT_bl, Mi.isT_int, Mi.isT_str, Mi.isT_tup, Mi.isT_lst, Mi.isT_cst, Mi.isT_own, Mi.dInt_bl, Mi.dIs_f_non, Mi.dIs_t_non, Mi.dIs_f_bl, Mi.dIs_t_bl, Mi.dIs_f_int, Mi.dIs_t_int, Mi.dIs_f_str, Mi.dIs_t_str, Mi.dIs_f_tup, Mi.dIs_t_tup, Mi.dIs_f_lst, Mi.dIs_t_lst, Mi.dIs_f_own, Mi.dIs_t_own, Mi.dIs_f_cst, Mi.dIs_t_cst, Mi.mLR1_ap, Mi.kLR1_ok, Mi.mLR2_ap, Mi.kLR2_ok, Mi.kLR2b_ok, Mi.mCallB_ap, Mi.kcB_some, Mi.kcB1_ok, Mi.kcB2_some, Mi.kcB3_bl, Mi.kcB3_exc, Mi.mExtend_ap, Mi.kEx_some, Mi.kEx2_ok, Mi.kEx3_some, Mi.dNotIn2, Mi.dIn2, Mi.dIsB_tt, Mi.dIsB_ft, Mi.dNotB_tt, Mi.dNotB_ft, D.frz, frzs, D.plain, plains, Bool.and_self, Bool.and_true, Bool.true_and, Bool.and_false, Bool.false_and, List.length_cons, List.length_nil, List.length_set, Nat.reduceAdd, Nat.zero_add, Nat.reduceLT, Nat.reduceLeDiff, sizeLine_eq, if_true, if_false, Bool.not_true, Bool.not_false, Bool.false_eq_true, decide_true, decide_false, and_self, and_true, true_and, List.cons_append, List.nil_append, Option.map_some, Option.bind_some, Int.reduceToNat, Int.reducePow, Int.reduceNeg, Int.reduceEq, Int.reduceLT, Int.reduceLE, Int.reduceAdd, Int.reduceSub, Int.reduceMul, eq_self, Mi.dat, not_true_eq_false, not_false_eq_true, Bool.or_self, Bool.or_true, Bool.or_false, Bool.false_or, Bool.true_or, false_and, and_false, true_or, or_true, false_or, or_false, vr, h, fn, u1, u2, dNe_int, o1, o2, pair_ne, r1, r2, pe, m1, c1, c2, rs]
    · rw [if_neg e] at r1 r2
      unfold F_w_rest_right m_w_rest_right
      simp -implicitDefEqProofs only [Mi.kof_some, Mi.kof_none, Mi.mOp1_ap, Mi.k1_ok, Mi.k1_exc, Mi.mOp2_ap, Mi.k2a_ok, Mi.k2a_exc, Mi.k2b_ok, Mi.k2b_exc, Mi.mOpL_ap, Mi.kL_ok, Mi.kL_exc, Mi.mCons_ap, Mi.kca_ok, Mi.kca_exc, Mi.kcb_ok, Mi.kcb_exc, Mi.mNil_ap, Mi.mC_ap, Mi.mLst_ap, Mi.mTup_ap, Mi.kLst_ok, Mi.kTup_ok, Mi.mVar_ap, Mi.kV_some, Mi.mFrz_ap, Mi.kF_some, Mi.mMove_ap, Mi.kM_some, Mi.at0, Mi.atS, Mi.set0, Mi.setS, Mi.mT_ap, Mi.kT_ok, Mi.kT_exc, Mi.mNotT_ap, Mi.kN_ok, Mi.kN_exc, Mi.mAndT_ap, Mi.kA_ok, Mi.kA_exc, Mi.mOrT_ap, Mi.kO_ok, Mi.kO_exc, Mi.mAndV_ap, Mi.kAV_ok, Mi.mOrV_ap, Mi.kOV_ok, Mi.mIf_ap, Mi.kIf_ok, Mi.mChain_ap, Mi.kCh_ok, Mi.kCh1_ok, Mi.kCh2_ok, Mi.mSeq_ap, Mi.kS_nx, Mi.kS_rt, Mi.kS_exc, Mi.kS_bk, Mi.kS_ct, Mi.mNext_ap, Mi.mDrop_ap, Mi.kD_ok, Mi.kD_exc, Mi.mRet_ap, Mi.kR_ok, Mi.kR_exc, Mi.mRetN_ap, Mi.mIfS_ap, Mi.kI_ok, Mi.kI_exc, Mi.mAsg_ap, Mi.kG_ok, Mi.kG_exc, Mi.kG2_some, Mi.mgName_ap, Mi.mgTup_ap, Mi.mgCons_ap, Mi.kgs_some, Mi.mgNil_ap, Mi.mPar_ap, Mi.kP_ok, Mi.mPar3_ap, Mi.kP3_ok, Mi.ownAt_ap, Mi.kw_own, Mi.mSlotIx_ap, Mi.kX_some, Mi.kX2_ok, Mi.kX3_some, Mi.mCall_ap, Mi.kc_ok, Mi.kf_ok, Mi.kf_exc, Mi.mCallO_ap, Mi.kq_some, Mi.kq2_ok, Mi.kq3_some, Mi.kq4_ok, Mi.mSetIx_ap, Mi.ky_ok, Mi.ky2_some, Mi.ky3_ok, Mi.ky4_some, Mi.mItL_ap, Mi.kIL_ok, Mi.kRs_some, Mi.mItT_ap, Mi.kIT_ok, Mi.mRng1_ap, Mi.kr1_ok, Mi.mRng2_ap, Mi.kr2_ok, Mi.mFor_ap, Mi.kFo_ok, Mi.mLoop_nil, Mi.kl1_some, Mi.kl2_nx, Mi.kl2_ct, Mi.kl2_bk, Mi.kl2_rt, Mi.kl2_exc, Mi.mLc_ap, Mi.kLc_ok, Mi.lc_nil, Mi.kz1_some, Mi.kz2_ok, Mi.kz3_ok, Mi.mYes_ap, Mi.mAug_ap, Mi.kU_some, Mi.kU2_int, Mi.mTry_ap, Mi.kTr_nx, Mi.kTr_rt, Mi.mMeth_ap, Mi.kMe_lst, Mi.kMe_own, Mi.mAppend_ap, Mi.kAp_some, Mi.kAp2_ok, Mi.kAp3_some, Mi.dAdd_int, Mi.dAdd_str, Mi.dAdd_tup, Mi.dAdd_ll, Mi.dAdd_lo, Mi.dAdd_ol, Mi.dAdd_oo, Mi.dSub_int, Mi.dMul_int, Mi.dMod_int, Mi.dFdiv_int, Mi.dPow_int, Mi.dNeg_int, Mi.dDivmod_int, Mi.dGt_int, Mi.dGe_int, Mi.dLe_int, Mi.dLtI_int, Mi.dLt_int, Mi.dEq_int, Mi.dNe_int, Mi.dMax2_int, Mi.dMin2_int, Mi.fn1_ap, Mi.fn2_ap, Mi.dLen_tup, Mi.dLen_lst, Mi.dLen_cst, Mi.dLen_own, Mi.fnM_ap, Mi.kfn_nx, Mi.kfn_rt, Mi.kfn_exc, Mi.fnO_ap, Mi.kfo_nx, Mi.kfo_rt, Mi.env0, Mi.envN, Mi.envS, Mi.wipeN, Mi.wipeS, Mi.lit_own, Mi.lit_lst, Mi.lit_cst, Mi.ix_own, Mi.ix_lst, Mi.ix_cst, Mi.ix_tup, Mi.dix_own, Mi.dix_lst, Mi.dix_cst, Mi.dix_tup, Mi.rng0, Mi.toL, Mi.end_lawL, Mi.btw_int, Mi.btw_bl, Mi.btw_non, Mi.btw_str, Mi.is_non_int, Mi.is_bl_int, Mi.is_int_int, Mi.is_str_int, Mi.is_tup_int, Mi.is_lst_int, Mi.is_cst_int, Mi.is_own_int, Mi.is_non_bool, Mi.is_bl_bool, Mi.is_int_bool, Mi.is_str_bool, Mi.is_tup_bool, Mi.is_lst_bool, Mi.is_cst_bool, Mi.is_own_bool, Mi.is_non_tuple, Mi.is_bl_tuple, Mi.is_int_tuple, Mi.is_str_tuple, Mi.is_tup_tuple, Mi.is_lst_tuple, Mi.is_cst_tuple, Mi.is_own_tuple, Mi.is_non_list, Mi.is_bl_list, Mi.is_int_list, Mi.is_str_list, Mi.is_tup_list, Mi.is_lst_list, Mi.is_cst_list, Mi.is_own_list, Mi.is_non_str, Mi.is_bl_str, Mi.is_int_str, Mi.is_str_str, Mi.is_tup_str, Mi.is_lst_str, Mi.is_cst_str, Mi.is_own_str, Mi.cast_lit, Mi.mPart_ap, Mi.kPt_ok, Mi.mNoPart_ap, Mi.mSl_ap, Mi.kSl1_ok, Mi.kSl2_ok, Mi.kSl3_ok, Mi.dSl_tup, Mi.dSl_lst, Mi.dSl_cst, Mi.mZip_ap, Mi.kZ_tup, Mi.kZ_lst, Mi.mPick_ap, Mi.kPk_ok, Mi.kPk2_some, Mi.at_0, Mi.at_1, Mi.at_2, Mi.at_3, Mi.isT_non, Mi.isT_bl, Mi.isT_int, Mi.isT_str, Mi.isT_tup, Mi.isT_lst, Mi.isT_cst, Mi.isT_own, Mi.dInt_bl, Mi.dIs_f_non, Mi.dIs_t_non, Mi.dIs_f_bl, Mi.dIs_t_bl, Mi.dIs_f_int, Mi.dIs_t_int, Mi.dIs_f_str, Mi.dIs_t_str, Mi.dIs_f_tup, Mi.dIs_t_tup, Mi.dIs_f_lst, Mi.dIs_t_lst, Mi.dIs_f_own, Mi.dIs_t_own, Mi.dIs_f_cst, Mi.dIs_t_cst, Mi.mLR1_ap, Mi.kLR1_ok, Mi.mLR2_ap, Mi.kLR2_ok, Mi.kLR2b_ok, Mi.mCallB_ap, Mi.kcB_some, Mi.kcB1_ok, Mi.kcB2_some, Mi.kcB3_bl, Mi.kcB3_exc, Mi.mExtend_ap, Mi.kEx_some, Mi.kEx2_ok, Mi.kEx3_some, Mi.dNotIn2, Mi.dIn2, Mi.dIsB_tt, Mi.dIsB_ft, Mi.dNotB_tt, Mi.dNotB_ft, D.frz, frzs, D.plain, plains, Bool.and_self, Bool.and_true, Bool.true_and, Bool.and_false, Bool.false_and, List.length_cons, List.length_nil, List.length_set, Nat.reduceAdd, Nat.zero_add, Nat.reduceLT, Nat.reduceLeDiff, sizeLine_eq, if_true, if_false, Bool.not_true, Bool.not_false, Bool.false_eq_true, decide_true, decide_false, and_self, and_true, true_and, List.cons_append, List.nil_append, Option.map_some, Option.bind_some, Int.reduceToNat, Int.reducePow, Int.reduceNeg, Int.reduceEq, Int.reduceLT, Int.reduceLE, Int.reduceAdd, Int.reduceSub, Int.reduceMul, eq_self, Mi.dat, not_true_eq_false, not_false_eq_true, Bool.or_self, Bool.or_true, Bool.or_false, Bool.false_or, Bool.true_or, false_and, and_false, true_or, or_true, false_or, or_false, vr, h, fn, u1, u2, dNe_int, o1, o2, pair_ne, r1, r2]
theorem sum2 {r t : Int} : dSumA (.tup [.int r, .int t]) = some (.int (r + t)) := by
  show some (D.int (r + (t + 0))) = _
  rw [Int.add_zero]
theorem bne_tt : dNe (.bl true) (.bl true) = some (.bl false) := rfl
theorem bne_ff : dNe (.bl false) (.bl false) = some (.bl false) := rfl
theorem turn (ns : List Int) (hb : ∀ z ∈ ns, Builtin.Int.intBits z ≤ 1048576) (k : Int) (h0 : 0 ≤ k) (hk : k < 1000) (o2 o3 o4 : Option D) :
    ∃ p2 p3 p4, b_turn [some (.cst (ns.map D.int)), some (.int k), o2, o3, o4] = .nx [some (.cst (ns.map D.int)), some (.int k), p2, p3, p4] := by
  have hp := plains_ints ns
  have hz := frzs_ints ns
  obtain ⟨z, bx⟩ := v_box ns k h0 hk hb
  obtain ⟨n, c, a, b, z1, G, tn⟩ := v_numbers z
  obtain ⟨s, R, hr, hB⟩ := barsP G
  have o1 := v_oftenR G R hr
  have n3 := G.n0
  have ia := fun h60 => in_all G h60 hB
  have pa := fun h60 => p_all G.n0 h60
  by_cases e : barsL n c a b s = []
  · have F := (free_of G).mp e
    have fn := first_none G hB e
    have rr := rest_right G R hr F
    rcases often_cases G s with z' | ⟨f, g, z', f0, f1, g0, g1⟩
    · exact absurd z' F.oft
    obtain ⟨_, fg, _⟩ := rest_often G R z'
    rw [z'] at o1
    by_cases q : n < 25
    · have pa := pa (by omega)
      have ia := ia (by omega)
      rw [e, show decide (([] : List D) = []) = true from rfl] at ia
      exact ⟨_, _, _, by
        unfold b_turn
        simp -implicitDefEqProofs only [Mi.kof_some, Mi.kof_none, Mi.mOp1_ap, Mi.k1_ok, Mi.k1_exc, Mi.mOp2_ap, Mi.k2a_ok, Mi.k2a_exc, Mi.k2b_ok, Mi.k2b_exc, Mi.mOpL_ap, Mi.kL_ok, Mi.kL_exc, Mi.mCons_ap, Mi.kca_ok, Mi.kca_exc, Mi.kcb_ok, Mi.kcb_exc, Mi.mNil_ap, Mi.mC_ap, Mi.mLst_ap, Mi.mTup_ap, Mi.kLst_ok, Mi.kTup_ok, Mi.mVar_ap, Mi.kV_some, Mi.mFrz_ap, Mi.kF_some, Mi.mMove_ap, Mi.kM_some, Mi.at0, Mi.atS, Mi.set0, Mi.setS, Mi.mT_ap, Mi.kT_ok, Mi.kT_exc, Mi.mNotT_ap, Mi.kN_ok, Mi.kN_exc, Mi.mAndT_ap, Mi.kA_ok, Mi.kA_exc, Mi.mOrT_ap, Mi.kO_ok, Mi.kO_exc, Mi.mAndV_ap, Mi.kAV_ok, Mi.mOrV_ap, Mi.kOV_ok, Mi.mIf_ap, Mi.kIf_ok, Mi.mChain_ap, Mi.kCh_ok, Mi.kCh1_ok, Mi.kCh2_ok, Mi.mSeq_ap, Mi.kS_nx, Mi.kS_rt, Mi.kS_exc, Mi.kS_bk, Mi.kS_ct, Mi.mNext_ap, Mi.mDrop_ap, Mi.kD_ok, Mi.kD_exc, Mi.mRet_ap, Mi.kR_ok, Mi.kR_exc, Mi.mRetN_ap, Mi.mIfS_ap, Mi.kI_ok, Mi.kI_exc, Mi.mAsg_ap, Mi.kG_ok, Mi.kG_exc, Mi.kG2_some, Mi.mgName_ap, Mi.mgTup_ap, Mi.mgCons_ap, Mi.kgs_some, Mi.mgNil_ap, Mi.mPar_ap, Mi.kP_ok, Mi.mPar3_ap, Mi.kP3_ok, Mi.ownAt_ap, Mi.kw_own, Mi.mSlotIx_ap, Mi.kX_some, Mi.kX2_ok, Mi.kX3_some, Mi.mCall_ap, Mi.kc_ok, Mi.kf_ok, Mi.kf_exc, Mi.mCallO_ap, Mi.kq_some, Mi.kq2_ok, Mi.kq3_some, Mi.kq4_ok, Mi.mSetIx_ap, Mi.ky_ok, Mi.ky2_some, Mi.ky3_ok, Mi.ky4_some, Mi.mItL_ap, Mi.kIL_ok, Mi.kRs_some, Mi.mItT_ap, Mi.kIT_ok, Mi.mRng1_ap, Mi.kr1_ok, Mi.mRng2_ap, Mi.kr2_ok, Mi.mFor_ap, Mi.kFo_ok, Mi.mLoop_nil, Mi.kl1_some, Mi.kl2_nx, Mi.kl2_ct, Mi.kl2_bk, Mi.kl2_rt, Mi.kl2_exc, Mi.mLc_ap, Mi.kLc_ok, Mi.lc_nil, Mi.kz1_some, Mi.kz2_ok, Mi.kz3_ok, Mi.mYes_ap, Mi.mAug_ap, Mi.kU_some, Mi.kU2_int, Mi.mTry_ap, Mi.kTr_nx, Mi.kTr_rt, Mi.mMeth_ap, Mi.kMe_lst, Mi.kMe_own, Mi.mAppend_ap, Mi.kAp_some, Mi.kAp2_ok, Mi.kAp3_some, Mi.dAdd_int, Mi.dAdd_str, Mi.dAdd_tup, Mi.dAdd_ll, Mi.dAdd_lo, Mi.dAdd_ol, Mi.dAdd_oo, Mi.dSub_int, Mi.dMul_int, Mi.dMod_int, Mi.dFdiv_int, Mi.dPow_int, Mi.dNeg_int, Mi.dDivmod_int, Mi.dGt_int, Mi.dGe_int, Mi.dLe_int, Mi.dLtI_int, Mi.dLt_int, Mi.dEq_int, Mi.dNe_int, Mi.dMax2_int, Mi.dMin2_int, Mi.fn1_ap, Mi.fn2_ap, Mi.dLen_tup, Mi.dLen_lst, Mi.dLen_cst, Mi.dLen_own, Mi.fnM_ap, Mi.kfn_nx, Mi.kfn_rt, Mi.kfn_exc, Mi.fnO_ap, Mi.kfo_nx, Mi.kfo_rt, Mi.env0, Mi.envN, Mi.envS, Mi.wipeN, Mi.wipeS, Mi.lit_own, Mi.lit_lst, Mi.lit_cst, Mi.ix_own, Mi.ix_lst, Mi.ix_cst, Mi.ix_tup, Mi.dix_own, Mi.dix_lst, Mi.dix_cst, Mi.dix_tup, Mi.rng0, Mi.toL, Mi.end_lawL, Mi.btw_int, Mi.btw_bl, Mi.btw_non, Mi.btw_str, Mi.is_non_int, Mi.is_bl_int, Mi.is_int_int, Mi.is_str_int, Mi.is_tup_int, Mi.is_lst_int, Mi.is_cst_int, Mi.is_own_int, Mi.is_non_bool, Mi.is_bl_bool, Mi.is_int_bool, Mi.is_str_bool, Mi.is_tup_bool, Mi.is_lst_bool, Mi.is_cst_bool, Mi.is_own_bool, Mi.is_non_tuple, Mi.is_bl_tuple, Mi.is_int_tuple, Mi.is_str_tuple, Mi.is_tup_tuple, Mi.is_lst_tuple, Mi.is_cst_tuple, Mi.is_own_tuple, Mi.is_non_list, Mi.is_bl_list, Mi.is_int_list, Mi.is_str_list, Mi.is_tup_list, Mi.is_lst_list, Mi.is_cst_list, Mi.is_own_list, Mi.is_non_str, Mi.is_bl_str, Mi.is_int_str, Mi.is_str_str, Mi.is_tup_str, Mi.is_lst_str, Mi.is_cst_str, Mi.is_own_str, Mi.cast_lit, Mi.mPart_ap, Mi.kPt_ok, Mi.mNoPart_ap, Mi.mSl_ap, Mi.kSl1_ok, Mi.kSl2_ok, Mi.kSl3_ok, Mi.dSl_tup, Mi.dSl_lst, Mi.dSl_cst, Mi.mZip_ap, Mi.kZ_tup, Mi.kZ_lst, Mi.mPick_ap, Mi.kPk_ok, Mi.kPk2_some, Mi.at_0, Mi.at_1, Mi.at_2, Mi.at_3, Mi.isT_non, Mi.isT_bl, Mi.isT_int, Mi.isT_str, Mi.isT_tup, Mi.isT_lst, Mi.isT_cst, Mi.isT_own, Mi.dInt_bl, Mi.dIs_f_non, Mi.dIs_t_non, Mi.dIs_f_bl, Mi.dIs_t_bl, Mi.dIs_f_int, Mi.dIs_t_int, Mi.dIs_f_str, Mi.dIs_t_str, Mi.dIs_f_tup, Mi.dIs_t_tup, Mi.dIs_f_lst, Mi.dIs_t_lst, Mi.dIs_f_own, Mi.dIs_t_own, Mi.dIs_f_cst, Mi.dIs_t_cst, Mi.mLR1_ap, Mi.kLR1_ok, Mi.mLR2_ap, Mi.kLR2_ok, Mi.kLR2b_ok, Mi.mCallB_ap, Mi.kcB_some, Mi.kcB1_ok, Mi.kcB2_some, Mi.kcB3_bl, Mi.kcB3_exc, Mi.mExtend_ap, Mi.kEx_some, Mi.kEx2_ok, Mi.kEx3_some, Mi.dNotIn2, Mi.dIn2, Mi.dIsB_tt, Mi.dIsB_ft, Mi.dNotB_tt, Mi.dNotB_ft, D.frz, frzs, D.plain, plains, Bool.and_self, Bool.and_true, Bool.true_and, Bool.and_false, Bool.false_and, List.length_cons, List.length_nil, List.length_set, Nat.reduceAdd, Nat.zero_add, Nat.reduceLT, Nat.reduceLeDiff, sizeLine_eq, if_true, if_false, Bool.not_true, Bool.not_false, Bool.false_eq_true, decide_true, decide_false, and_self, and_true, true_and, List.cons_append, List.nil_append, Option.map_some, Option.bind_some, Int.reduceToNat, Int.reducePow, Int.reduceNeg, Int.reduceEq, Int.reduceLT, Int.reduceLE, Int.reduceAdd, Int.reduceSub, Int.reduceMul, eq_self, Mi.dat, not_true_eq_false, not_false_eq_true, Bool.or_self, Bool.or_true, Bool.or_false, Bool.false_or, Bool.true_or, false_and, and_false, true_or, or_true, false_or, or_false, hp, hz, bx, tn, fn, rr, o1, sum2, fg, q, pa, ia, bne_tt]
        rfl⟩
    · exact ⟨_, _, _, by
        unfold b_turn
        simp -implicitDefEqProofs only [Mi.kof_some, Mi.kof_none, Mi.mOp1_ap, Mi.k1_ok, Mi.k1_exc, Mi.mOp2_ap, Mi.k2a_ok, Mi.k2a_exc, Mi.k2b_ok, Mi.k2b_exc, Mi.mOpL_ap, Mi.kL_ok, Mi.kL_exc, Mi.mCons_ap, Mi.kca_ok, Mi.kca_exc, Mi.kcb_ok, Mi.kcb_exc, Mi.mNil_ap, Mi.mC_ap, Mi.mLst_ap, Mi.mTup_ap, Mi.kLst_ok, Mi.kTup_ok, Mi.mVar_ap, Mi.kV_some, Mi.mFrz_ap, Mi.kF_some, Mi.mMove_ap, Mi.kM_some, Mi.at0, Mi.atS, Mi.set0, Mi.setS, Mi.mT_ap, Mi.kT_ok, Mi.kT_exc, Mi.mNotT_ap, Mi.kN_ok, Mi.kN_exc, Mi.mAndT_ap, Mi.kA_ok, Mi.kA_exc, Mi.mOrT_ap, Mi.kO_ok, Mi.kO_exc, Mi.mAndV_ap, Mi.kAV_ok, Mi.mOrV_ap, Mi.kOV_ok, Mi.mIf_ap, Mi.kIf_ok, Mi.mChain_ap, Mi.kCh_ok, Mi.kCh1_ok, Mi.kCh2_ok, Mi.mSeq_ap, Mi.kS_nx, Mi.kS_rt, Mi.kS_exc, Mi.kS_bk, Mi.kS_ct, Mi.mNext_ap, Mi.mDrop_ap, Mi.kD_ok, Mi.kD_exc, Mi.mRet_ap, Mi.kR_ok, Mi.kR_exc, Mi.mRetN_ap, Mi.mIfS_ap, Mi.kI_ok, Mi.kI_exc, Mi.mAsg_ap, Mi.kG_ok, Mi.kG_exc, Mi.kG2_some, Mi.mgName_ap, Mi.mgTup_ap, Mi.mgCons_ap, Mi.kgs_some, Mi.mgNil_ap, Mi.mPar_ap, Mi.kP_ok, Mi.mPar3_ap, Mi.kP3_ok, Mi.ownAt_ap, Mi.kw_own, Mi.mSlotIx_ap, Mi.kX_some, Mi.kX2_ok, Mi.kX3_some, Mi.mCall_ap, Mi.kc_ok, Mi.kf_ok, Mi.kf_exc, Mi.mCallO_ap, Mi.kq_some, Mi.kq2_ok, Mi.kq3_some, Mi.kq4_ok, Mi.mSetIx_ap, Mi.ky_ok, Mi.ky2_some, Mi.ky3_ok, Mi.ky4_some, Mi.mItL_ap, Mi.kIL_ok, Mi.kRs_some, Mi.mItT_ap, Mi.kIT_ok, Mi.mRng1_ap, Mi.kr1_ok, Mi.mRng2_ap, Mi.kr2_ok, Mi.mFor_ap, Mi.kFo_ok, Mi.mLoop_nil, Mi.kl1_some, Mi.kl2_nx, Mi.kl2_ct, Mi.kl2_bk, Mi.kl2_rt, Mi.kl2_exc, Mi.mLc_ap, Mi.kLc_ok, Mi.lc_nil, Mi.kz1_some, Mi.kz2_ok, Mi.kz3_ok, Mi.mYes_ap, Mi.mAug_ap, Mi.kU_some, Mi.kU2_int, Mi.mTry_ap, Mi.kTr_nx, Mi.kTr_rt, Mi.mMeth_ap, Mi.kMe_lst, Mi.kMe_own, Mi.mAppend_ap, Mi.kAp_some, Mi.kAp2_ok, Mi.kAp3_some, Mi.dAdd_int, Mi.dAdd_str, Mi.dAdd_tup, Mi.dAdd_ll, Mi.dAdd_lo, Mi.dAdd_ol, Mi.dAdd_oo, Mi.dSub_int, Mi.dMul_int, Mi.dMod_int, Mi.dFdiv_int, Mi.dPow_int, Mi.dNeg_int, Mi.dDivmod_int, Mi.dGt_int, Mi.dGe_int, Mi.dLe_int, Mi.dLtI_int, Mi.dLt_int, Mi.dEq_int, Mi.dNe_int, Mi.dMax2_int, Mi.dMin2_int, Mi.fn1_ap, Mi.fn2_ap, Mi.dLen_tup, Mi.dLen_lst, Mi.dLen_cst, Mi.dLen_own, Mi.fnM_ap, Mi.kfn_nx, Mi.kfn_rt, Mi.kfn_exc, Mi.fnO_ap, Mi.kfo_nx, Mi.kfo_rt, Mi.env0, Mi.envN, Mi.envS, Mi.wipeN, Mi.wipeS, Mi.lit_own, Mi.lit_lst, Mi.lit_cst, Mi.ix_own, Mi.ix_lst, Mi.ix_cst, Mi.ix_tup, Mi.dix_own, Mi.dix_lst, Mi.dix_cst, Mi.dix_tup, Mi.rng0, Mi.toL, Mi.end_lawL, Mi.btw_int, Mi.btw_bl, Mi.btw_non, Mi.btw_str, Mi.is_non_int, Mi.is_bl_int, Mi.is_int_int, Mi.is_str_int, Mi.is_tup_int, Mi.is_lst_int, Mi.is_cst_int, Mi.is_own_int, Mi.is_non_bool, Mi.is_bl_bool, Mi.is_int_bool, Mi.is_str_bool, Mi.is_tup_bool, Mi.is_lst_bool, Mi.is_cst_bool, Mi.is_own_bool, Mi.is_non_tuple, Mi.is_bl_tuple, Mi.is_int_tuple, Mi.is_str_tuple, Mi.is_tup_tuple, Mi.is_lst_tuple, Mi.is_cst_tuple, Mi.is_own_tuple, Mi.is_non_list, Mi.is_bl_list, Mi.is_int_list, Mi.is_str_list, Mi.is_tup_list, Mi.is_lst_list, Mi.is_cst_list, Mi.is_own_list, Mi.is_non_str, Mi.is_bl_str, Mi.is_int_str, Mi.is_str_str, Mi.is_tup_str, Mi.is_lst_str, Mi.is_cst_str, Mi.is_own_str, Mi.cast_lit, Mi.mPart_ap, Mi.kPt_ok, Mi.mNoPart_ap, Mi.mSl_ap, Mi.kSl1_ok, Mi.kSl2_ok, Mi.kSl3_ok, Mi.dSl_tup, Mi.dSl_lst, Mi.dSl_cst, Mi.mZip_ap, Mi.kZ_tup, Mi.kZ_lst, Mi.mPick_ap, Mi.kPk_ok, Mi.kPk2_some, Mi.at_0, Mi.at_1, Mi.at_2, Mi.at_3, Mi.isT_non, Mi.isT_bl, Mi.isT_int, Mi.isT_str, Mi.isT_tup, Mi.isT_lst, Mi.isT_cst, Mi.isT_own, Mi.dInt_bl, Mi.dIs_f_non, Mi.dIs_t_non, Mi.dIs_f_bl, Mi.dIs_t_bl, Mi.dIs_f_int, Mi.dIs_t_int, Mi.dIs_f_str, Mi.dIs_t_str, Mi.dIs_f_tup, Mi.dIs_t_tup, Mi.dIs_f_lst, Mi.dIs_t_lst, Mi.dIs_f_own, Mi.dIs_t_own, Mi.dIs_f_cst, Mi.dIs_t_cst, Mi.mLR1_ap, Mi.kLR1_ok, Mi.mLR2_ap, Mi.kLR2_ok, Mi.kLR2b_ok, Mi.mCallB_ap, Mi.kcB_some, Mi.kcB1_ok, Mi.kcB2_some, Mi.kcB3_bl, Mi.kcB3_exc, Mi.mExtend_ap, Mi.kEx_some, Mi.kEx2_ok, Mi.kEx3_some, Mi.dNotIn2, Mi.dIn2, Mi.dIsB_tt, Mi.dIsB_ft, Mi.dNotB_tt, Mi.dNotB_ft, D.frz, frzs, D.plain, plains, Bool.and_self, Bool.and_true, Bool.true_and, Bool.and_false, Bool.false_and, List.length_cons, List.length_nil, List.length_set, Nat.reduceAdd, Nat.zero_add, Nat.reduceLT, Nat.reduceLeDiff, sizeLine_eq, if_true, if_false, Bool.not_true, Bool.not_false, Bool.false_eq_true, decide_true, decide_false, and_self, and_true, true_and, List.cons_append, List.nil_append, Option.map_some, Option.bind_some, Int.reduceToNat, Int.reducePow, Int.reduceNeg, Int.reduceEq, Int.reduceLT, Int.reduceLE, Int.reduceAdd, Int.reduceSub, Int.reduceMul, eq_self, Mi.dat, not_true_eq_false, not_false_eq_true, Bool.or_self, Bool.or_true, Bool.or_false, Bool.false_or, Bool.true_or, false_and, and_false, true_or, or_true, false_or, or_false, hp, hz, bx, tn, fn, rr, o1, sum2, fg, q]
        rfl⟩
  · obtain ⟨x, xs, ex⟩ : ∃ x xs, barsL n c a b s = x :: xs := by
      cases hq : barsL n c a b s with
      | nil => exact absurd hq e
      | cons x xs => exact ⟨x, xs, rfl⟩
    have fs := first_some G hB ex
    have hx : x ∈ barsL n c a b s := by rw [ex]; exact List.mem_cons_self
    have ib := is_bar_yes G hB hx
    have bt := bar_bars (s := s) G x hx
    have xd : dat x = true := by rcases bt with ⟨w, _, _, rfl, _⟩ | ⟨w, rfl, _⟩ <;> rfl
    have n1 : dIs false x = some (.bl false) := by rcases bt with ⟨w, _, _, rfl, _⟩ | ⟨w, rfl, _⟩ <;> rfl
    have n2 : dIs true x = some (.bl true) := by rcases bt with ⟨w, _, _, rfl, _⟩ | ⟨w, rfl, _⟩ <;> rfl
    have xp := dat_plain xd
    have xz := dat_frz xd
    by_cases q : n < 25
    · have pa := pa (by omega)
      have ia := ia (by omega)
      rw [ex, show decide (x :: xs = []) = false from by simp] at ia
      exact ⟨_, _, _, by
        unfold b_turn
        simp -implicitDefEqProofs only [Mi.kof_some, Mi.kof_none, Mi.mOp1_ap, Mi.k1_ok, Mi.k1_exc, Mi.mOp2_ap, Mi.k2a_ok, Mi.k2a_exc, Mi.k2b_ok, Mi.k2b_exc, Mi.mOpL_ap, Mi.kL_ok, Mi.kL_exc, Mi.mCons_ap, Mi.kca_ok, Mi.kca_exc, Mi.kcb_ok, Mi.kcb_exc, Mi.mNil_ap, Mi.mC_ap, Mi.mLst_ap, Mi.mTup_ap, Mi.kLst_ok, Mi.kTup_ok, Mi.mVar_ap, Mi.kV_some, Mi.mFrz_ap, Mi.kF_some, Mi.mMove_ap, Mi.kM_some, Mi.at0, Mi.atS, Mi.set0, Mi.setS, Mi.mT_ap, Mi.kT_ok, Mi.kT_exc, Mi.mNotT_ap, Mi.kN_ok, Mi.kN_exc, Mi.mAndT_ap, Mi.kA_ok, Mi.kA_exc, Mi.mOrT_ap, Mi.kO_ok, Mi.kO_exc, Mi.mAndV_ap, Mi.kAV_ok, Mi.mOrV_ap, Mi.kOV_ok, Mi.mIf_ap, Mi.kIf_ok, Mi.mChain_ap, Mi.kCh_ok, Mi.kCh1_ok, Mi.kCh2_ok, Mi.mSeq_ap, Mi.kS_nx, Mi.kS_rt, Mi.kS_exc, Mi.kS_bk, Mi.kS_ct, Mi.mNext_ap, Mi.mDrop_ap, Mi.kD_ok, Mi.kD_exc, Mi.mRet_ap, Mi.kR_ok, Mi.kR_exc, Mi.mRetN_ap, Mi.mIfS_ap, Mi.kI_ok, Mi.kI_exc, Mi.mAsg_ap, Mi.kG_ok, Mi.kG_exc, Mi.kG2_some, Mi.mgName_ap, Mi.mgTup_ap, Mi.mgCons_ap, Mi.kgs_some, Mi.mgNil_ap, Mi.mPar_ap, Mi.kP_ok, Mi.mPar3_ap, Mi.kP3_ok, Mi.ownAt_ap, Mi.kw_own, Mi.mSlotIx_ap, Mi.kX_some, Mi.kX2_ok, Mi.kX3_some, Mi.mCall_ap, Mi.kc_ok, Mi.kf_ok, Mi.kf_exc, Mi.mCallO_ap, Mi.kq_some, Mi.kq2_ok, Mi.kq3_some, Mi.kq4_ok, Mi.mSetIx_ap, Mi.ky_ok, Mi.ky2_some, Mi.ky3_ok, Mi.ky4_some, Mi.mItL_ap, Mi.kIL_ok, Mi.kRs_some, Mi.mItT_ap, Mi.kIT_ok, Mi.mRng1_ap, Mi.kr1_ok, Mi.mRng2_ap, Mi.kr2_ok, Mi.mFor_ap, Mi.kFo_ok, Mi.mLoop_nil, Mi.kl1_some, Mi.kl2_nx, Mi.kl2_ct, Mi.kl2_bk, Mi.kl2_rt, Mi.kl2_exc, Mi.mLc_ap, Mi.kLc_ok, Mi.lc_nil, Mi.kz1_some, Mi.kz2_ok, Mi.kz3_ok, Mi.mYes_ap, Mi.mAug_ap, Mi.kU_some, Mi.kU2_int, Mi.mTry_ap, Mi.kTr_nx, Mi.kTr_rt, Mi.mMeth_ap, Mi.kMe_lst, Mi.kMe_own, Mi.mAppend_ap, Mi.kAp_some, Mi.kAp2_ok, Mi.kAp3_some, Mi.dAdd_int, Mi.dAdd_str, Mi.dAdd_tup, Mi.dAdd_ll, Mi.dAdd_lo, Mi.dAdd_ol, Mi.dAdd_oo, Mi.dSub_int, Mi.dMul_int, Mi.dMod_int, Mi.dFdiv_int, Mi.dPow_int, Mi.dNeg_int, Mi.dDivmod_int, Mi.dGt_int, Mi.dGe_int, Mi.dLe_int, Mi.dLtI_int, Mi.dLt_int, Mi.dEq_int, Mi.dNe_int, Mi.dMax2_int, Mi.dMin2_int, Mi.fn1_ap, Mi.fn2_ap, Mi.dLen_tup, Mi.dLen_lst, Mi.dLen_cst, Mi.dLen_own, Mi.fnM_ap, Mi.kfn_nx, Mi.kfn_rt, Mi.kfn_exc, Mi.fnO_ap, Mi.kfo_nx, Mi.kfo_rt, Mi.env0, Mi.envN, Mi.envS, Mi.wipeN, Mi.wipeS, Mi.lit_own, Mi.lit_lst, Mi.lit_cst, Mi.ix_own, Mi.ix_lst, Mi.ix_cst, Mi.ix_tup, Mi.dix_own, Mi.dix_lst, Mi.dix_cst, Mi.dix_tup, Mi.rng0, Mi.toL, Mi.end_lawL, Mi.btw_int, Mi.btw_bl, Mi.btw_non, Mi.btw_str, Mi.is_non_int, Mi.is_bl_int, Mi.is_int_int, Mi.is_str_int, Mi.is_tup_int, Mi.is_lst_int, Mi.is_cst_int, Mi.is_own_int, Mi.is_non_bool, Mi.is_bl_bool, Mi.is_int_bool, Mi.is_str_bool, Mi.is_tup_bool, Mi.is_lst_bool, Mi.is_cst_bool, Mi.is_own_bool, Mi.is_non_tuple, Mi.is_bl_tuple, Mi.is_int_tuple, Mi.is_str_tuple, Mi.is_tup_tuple, Mi.is_lst_tuple, Mi.is_cst_tuple, Mi.is_own_tuple, Mi.is_non_list, Mi.is_bl_list, Mi.is_int_list, Mi.is_str_list, Mi.is_tup_list, Mi.is_lst_list, Mi.is_cst_list, Mi.is_own_list, Mi.is_non_str, Mi.is_bl_str, Mi.is_int_str, Mi.is_str_str, Mi.is_tup_str, Mi.is_lst_str, Mi.is_cst_str, Mi.is_own_str, Mi.cast_lit, Mi.mPart_ap, Mi.kPt_ok, Mi.mNoPart_ap, Mi.mSl_ap, Mi.kSl1_ok, Mi.kSl2_ok, Mi.kSl3_ok, Mi.dSl_tup, Mi.dSl_lst, Mi.dSl_cst, Mi.mZip_ap, Mi.kZ_tup, Mi.kZ_lst, Mi.mPick_ap, Mi.kPk_ok, Mi.kPk2_some, Mi.at_0, Mi.at_1, Mi.at_2, Mi.at_3, Mi.isT_non, Mi.isT_bl, Mi.isT_int, Mi.isT_str, Mi.isT_tup, Mi.isT_lst, Mi.isT_cst, Mi.isT_own, Mi.dInt_bl, Mi.dIs_f_non, Mi.dIs_t_non, Mi.dIs_f_bl, Mi.dIs_t_bl, Mi.dIs_f_int, Mi.dIs_t_int, Mi.dIs_f_str, Mi.dIs_t_str, Mi.dIs_f_tup, Mi.dIs_t_tup, Mi.dIs_f_lst, Mi.dIs_t_lst, Mi.dIs_f_own, Mi.dIs_t_own, Mi.dIs_f_cst, Mi.dIs_t_cst, Mi.mLR1_ap, Mi.kLR1_ok, Mi.mLR2_ap, Mi.kLR2_ok, Mi.kLR2b_ok, Mi.mCallB_ap, Mi.kcB_some, Mi.kcB1_ok, Mi.kcB2_some, Mi.kcB3_bl, Mi.kcB3_exc, Mi.mExtend_ap, Mi.kEx_some, Mi.kEx2_ok, Mi.kEx3_some, Mi.dNotIn2, Mi.dIn2, Mi.dIsB_tt, Mi.dIsB_ft, Mi.dNotB_tt, Mi.dNotB_ft, D.frz, frzs, D.plain, plains, Bool.and_self, Bool.and_true, Bool.true_and, Bool.and_false, Bool.false_and, List.length_cons, List.length_nil, List.length_set, Nat.reduceAdd, Nat.zero_add, Nat.reduceLT, Nat.reduceLeDiff, sizeLine_eq, if_true, if_false, Bool.not_true, Bool.not_false, Bool.false_eq_true, decide_true, decide_false, and_self, and_true, true_and, List.cons_append, List.nil_append, Option.map_some, Option.bind_some, Int.reduceToNat, Int.reducePow, Int.reduceNeg, Int.reduceEq, Int.reduceLT, Int.reduceLE, Int.reduceAdd, Int.reduceSub, Int.reduceMul, eq_self, Mi.dat, not_true_eq_false, not_false_eq_true, Bool.or_self, Bool.or_true, Bool.or_false, Bool.false_or, Bool.true_or, false_and, and_false, true_or, or_true, false_or, or_false, hp, hz, bx, tn, fs, ib, xp, xz, n1, n2, q, pa, ia, bne_ff]
        rfl⟩
    · exact ⟨_, _, _, by
        unfold b_turn
        simp -implicitDefEqProofs only [Mi.kof_some, Mi.kof_none, Mi.mOp1_ap, Mi.k1_ok, Mi.k1_exc, Mi.mOp2_ap, Mi.k2a_ok, Mi.k2a_exc, Mi.k2b_ok, Mi.k2b_exc, Mi.mOpL_ap, Mi.kL_ok, Mi.kL_exc, Mi.mCons_ap, Mi.kca_ok, Mi.kca_exc, Mi.kcb_ok, Mi.kcb_exc, Mi.mNil_ap, Mi.mC_ap, Mi.mLst_ap, Mi.mTup_ap, Mi.kLst_ok, Mi.kTup_ok, Mi.mVar_ap, Mi.kV_some, Mi.mFrz_ap, Mi.kF_some, Mi.mMove_ap, Mi.kM_some, Mi.at0, Mi.atS, Mi.set0, Mi.setS, Mi.mT_ap, Mi.kT_ok, Mi.kT_exc, Mi.mNotT_ap, Mi.kN_ok, Mi.kN_exc, Mi.mAndT_ap, Mi.kA_ok, Mi.kA_exc, Mi.mOrT_ap, Mi.kO_ok, Mi.kO_exc, Mi.mAndV_ap, Mi.kAV_ok, Mi.mOrV_ap, Mi.kOV_ok, Mi.mIf_ap, Mi.kIf_ok, Mi.mChain_ap, Mi.kCh_ok, Mi.kCh1_ok, Mi.kCh2_ok, Mi.mSeq_ap, Mi.kS_nx, Mi.kS_rt, Mi.kS_exc, Mi.kS_bk, Mi.kS_ct, Mi.mNext_ap, Mi.mDrop_ap, Mi.kD_ok, Mi.kD_exc, Mi.mRet_ap, Mi.kR_ok, Mi.kR_exc, Mi.mRetN_ap, Mi.mIfS_ap, Mi.kI_ok, Mi.kI_exc, Mi.mAsg_ap, Mi.kG_ok, Mi.kG_exc, Mi.kG2_some, Mi.mgName_ap, Mi.mgTup_ap, Mi.mgCons_ap, Mi.kgs_some, Mi.mgNil_ap, Mi.mPar_ap, Mi.kP_ok, Mi.mPar3_ap, Mi.kP3_ok, Mi.ownAt_ap, Mi.kw_own, Mi.mSlotIx_ap, Mi.kX_some, Mi.kX2_ok, Mi.kX3_some, Mi.mCall_ap, Mi.kc_ok, Mi.kf_ok, Mi.kf_exc, Mi.mCallO_ap, Mi.kq_some, Mi.kq2_ok, Mi.kq3_some, Mi.kq4_ok, Mi.mSetIx_ap, Mi.ky_ok, Mi.ky2_some, Mi.ky3_ok, Mi.ky4_some, Mi.mItL_ap, Mi.kIL_ok, Mi.kRs_some, Mi.mItT_ap, Mi.kIT_ok, Mi.mRng1_ap, Mi.kr1_ok, Mi.mRng2_ap, Mi.kr2_ok, Mi.mFor_ap, Mi.kFo_ok, Mi.mLoop_nil, Mi.kl1_some, Mi.kl2_nx, Mi.kl2_ct, Mi.kl2_bk, Mi.kl2_rt, Mi.kl2_exc, Mi.mLc_ap, Mi.kLc_ok, Mi.lc_nil, Mi.kz1_some, Mi.kz2_ok, Mi.kz3_ok, Mi.mYes_ap, Mi.mAug_ap, Mi.kU_some, Mi.kU2_int, Mi.mTry_ap, Mi.kTr_nx, Mi.kTr_rt, Mi.mMeth_ap, Mi.kMe_lst, Mi.kMe_own, Mi.mAppend_ap, Mi.kAp_some, Mi.kAp2_ok, Mi.kAp3_some, Mi.dAdd_int, Mi.dAdd_str, Mi.dAdd_tup, Mi.dAdd_ll, Mi.dAdd_lo, Mi.dAdd_ol, Mi.dAdd_oo, Mi.dSub_int, Mi.dMul_int, Mi.dMod_int, Mi.dFdiv_int, Mi.dPow_int, Mi.dNeg_int, Mi.dDivmod_int, Mi.dGt_int, Mi.dGe_int, Mi.dLe_int, Mi.dLtI_int, Mi.dLt_int, Mi.dEq_int, Mi.dNe_int, Mi.dMax2_int, Mi.dMin2_int, Mi.fn1_ap, Mi.fn2_ap, Mi.dLen_tup, Mi.dLen_lst, Mi.dLen_cst, Mi.dLen_own, Mi.fnM_ap, Mi.kfn_nx, Mi.kfn_rt, Mi.kfn_exc, Mi.fnO_ap, Mi.kfo_nx, Mi.kfo_rt, Mi.env0, Mi.envN, Mi.envS, Mi.wipeN, Mi.wipeS, Mi.lit_own, Mi.lit_lst, Mi.lit_cst, Mi.ix_own, Mi.ix_lst, Mi.ix_cst, Mi.ix_tup, Mi.dix_own, Mi.dix_lst, Mi.dix_cst, Mi.dix_tup, Mi.rng0, Mi.toL, Mi.end_lawL, Mi.btw_int, Mi.btw_bl, Mi.btw_non, Mi.btw_str, Mi.is_non_int, Mi.is_bl_int, Mi.is_int_int, Mi.is_str_int, Mi.is_tup_int, Mi.is_lst_int, Mi.is_cst_int, Mi.is_own_int, Mi.is_non_bool, Mi.is_bl_bool, Mi.is_int_bool, Mi.is_str_bool, Mi.is_tup_bool, Mi.is_lst_bool, Mi.is_cst_bool, Mi.is_own_bool, Mi.is_non_tuple, Mi.is_bl_tuple, Mi.is_int_tuple, Mi.is_str_tuple, Mi.is_tup_tuple, Mi.is_lst_tuple, Mi.is_cst_tuple, Mi.is_own_tuple, Mi.is_non_list, Mi.is_bl_list, Mi.is_int_list, Mi.is_str_list, Mi.is_tup_list, Mi.is_lst_list, Mi.is_cst_list, Mi.is_own_list, Mi.is_non_str, Mi.is_bl_str, Mi.is_int_str, Mi.is_str_str, Mi.is_tup_str, Mi.is_lst_str, Mi.is_cst_str, Mi.is_own_str, Mi.cast_lit, Mi.mPart_ap, Mi.kPt_ok, Mi.mNoPart_ap, Mi.mSl_ap, Mi.kSl1_ok, Mi.kSl2_ok, Mi.kSl3_ok, Mi.dSl_tup, Mi.dSl_lst, Mi.dSl_cst, Mi.mZip_ap, Mi.kZ_tup, Mi.kZ_lst, Mi.mPick_ap, Mi.kPk_ok, Mi.kPk2_some, Mi.at_0, Mi.at_1, Mi.at_2, Mi.at_3, Mi.isT_non, Mi.isT_bl, Mi.isT_int, Mi.isT_str, Mi.isT_tup, Mi.isT_lst, Mi.isT_cst, Mi.isT_own, Mi.dInt_bl, Mi.dIs_f_non, Mi.dIs_t_non, Mi.dIs_f_bl, Mi.dIs_t_bl, Mi.dIs_f_int, Mi.dIs_t_int, Mi.dIs_f_str, Mi.dIs_t_str, Mi.dIs_f_tup, Mi.dIs_t_tup, Mi.dIs_f_lst, Mi.dIs_t_lst, Mi.dIs_f_own, Mi.dIs_t_own, Mi.dIs_f_cst, Mi.dIs_t_cst, Mi.mLR1_ap, Mi.kLR1_ok, Mi.mLR2_ap, Mi.kLR2_ok, Mi.kLR2b_ok, Mi.mCallB_ap, Mi.kcB_some, Mi.kcB1_ok, Mi.kcB2_some, Mi.kcB3_bl, Mi.kcB3_exc, Mi.mExtend_ap, Mi.kEx_some, Mi.kEx2_ok, Mi.kEx3_some, Mi.dNotIn2, Mi.dIn2, Mi.dIsB_tt, Mi.dIsB_ft, Mi.dNotB_tt, Mi.dNotB_ft, D.frz, frzs, D.plain, plains, Bool.and_self, Bool.and_true, Bool.true_and, Bool.and_false, Bool.false_and, List.length_cons, List.length_nil, List.length_set, Nat.reduceAdd, Nat.zero_add, Nat.reduceLT, Nat.reduceLeDiff, sizeLine_eq, if_true, if_false, Bool.not_true, Bool.not_false, Bool.false_eq_true, decide_true, decide_false, and_self, and_true, true_and, List.cons_append, List.nil_append, Option.map_some, Option.bind_some, Int.reduceToNat, Int.reducePow, Int.reduceNeg, Int.reduceEq, Int.reduceLT, Int.reduceLE, Int.reduceAdd, Int.reduceSub, Int.reduceMul, eq_self, Mi.dat, not_true_eq_false, not_false_eq_true, Bool.or_self, Bool.or_true, Bool.or_false, Bool.false_or, Bool.true_or, false_and, and_false, true_or, or_true, false_or, or_false, hp, hz, bx, tn, fs, ib, xp, xz, n1, n2, q]
        rfl⟩
end Lw
namespace Lw
open PySem PySem.Spec PyProof.Rows L2 Mi
theorem law_loop (ns : List Int) (hb : ∀ z ∈ ns, Builtin.Int.intBits z ≤ 1048576) (m : Nat) (hm : m ≤ 8) :
    ∃ e', mLoop (mgName 1) b_turn (rangeD 0 m) [some (.cst (ns.map D.int)), none, none, none, none] = .nx e' := by
  obtain ⟨e', h, _⟩ := loop_inv (g := mgName 1) (body := b_turn) (fun e => ∃ o1 o2 o3 o4, e = [some (.cst (ns.map D.int)), o1, o2, o3, o4]) (rangeD 0 m) (fun d hd e he => by
    obtain ⟨o1, o2, o3, o4, rfl⟩ := he
    obtain ⟨i, hi, rfl⟩ := mem_range hd
    obtain ⟨p2, p3, p4, ht⟩ := turn ns hb (0 + i) (by omega) (by omega) o2 o3 o4
    exact ⟨_, _, rfl, ht, some (.int (0 + i)), p2, p3, p4, rfl⟩) _ ⟨none, none, none, none, rfl⟩
  exact ⟨e', h⟩
theorem law_true (ns : List Int) (hl : ns.length ≤ 63) (hb : ∀ z ∈ ns, Builtin.Int.intBits z ≤ 1048576) : F_law [.cst (ns.map D.int)] = .ok (.bl true) := by
  have hp := plains_ints ns
  have hz := frzs_ints ns
  obtain ⟨q, eq⟩ : ∃ q : Int, (if (8 : Int) < (ns.length : Int) then (8 : Int) else (ns.length : Int)) = q := ⟨_, rfl⟩
  have gq : 0 ≤ q ∧ q ≤ 8 := by
    rw [← eq]
    by_cases c : (8 : Int) < (ns.length : Int)
    · rw [if_pos c]; omega
    · rw [if_neg c]; omega
  obtain ⟨j, ej⟩ : ∃ j : Int, (if q > 1 then q else 1) = j := ⟨_, rfl⟩
  have gj : 0 ≤ j ∧ j ≤ 8 := by
    rw [← ej]
    by_cases c : q > 1
    · rw [if_pos c]; omega
    · rw [if_neg c]; omega
  have sj : small62 j := ⟨by omega, by omega⟩
  obtain ⟨e', h⟩ := law_loop ns hb j.toNat (by omega)
  unfold b_turn at h
  unfold F_law m_law
  simp -implicitDefEqProofs only [Mi.kof_some, Mi.kof_none, Mi.mOp1_ap, Mi.k1_ok, Mi.k1_exc, Mi.mOp2_ap, Mi.k2a_ok, Mi.k2a_exc, Mi.k2b_ok, Mi.k2b_exc, Mi.mOpL_ap, Mi.kL_ok, Mi.kL_exc, Mi.mCons_ap, Mi.kca_ok, Mi.kca_exc, Mi.kcb_ok, Mi.kcb_exc, Mi.mNil_ap, Mi.mC_ap, Mi.mLst_ap, Mi.mTup_ap, Mi.kLst_ok, Mi.kTup_ok, Mi.mVar_ap, Mi.kV_some, Mi.mFrz_ap, Mi.kF_some, Mi.mMove_ap, Mi.kM_some, Mi.at0, Mi.atS, Mi.set0, Mi.setS, Mi.mT_ap, Mi.kT_ok, Mi.kT_exc, Mi.mNotT_ap, Mi.kN_ok, Mi.kN_exc, Mi.mAndT_ap, Mi.kA_ok, Mi.kA_exc, Mi.mOrT_ap, Mi.kO_ok, Mi.kO_exc, Mi.mAndV_ap, Mi.kAV_ok, Mi.mOrV_ap, Mi.kOV_ok, Mi.mIf_ap, Mi.kIf_ok, Mi.mChain_ap, Mi.kCh_ok, Mi.kCh1_ok, Mi.kCh2_ok, Mi.mSeq_ap, Mi.kS_nx, Mi.kS_rt, Mi.kS_exc, Mi.kS_bk, Mi.kS_ct, Mi.mNext_ap, Mi.mDrop_ap, Mi.kD_ok, Mi.kD_exc, Mi.mRet_ap, Mi.kR_ok, Mi.kR_exc, Mi.mRetN_ap, Mi.mIfS_ap, Mi.kI_ok, Mi.kI_exc, Mi.mAsg_ap, Mi.kG_ok, Mi.kG_exc, Mi.kG2_some, Mi.mgName_ap, Mi.mgTup_ap, Mi.mgCons_ap, Mi.kgs_some, Mi.mgNil_ap, Mi.mPar_ap, Mi.kP_ok, Mi.mPar3_ap, Mi.kP3_ok, Mi.ownAt_ap, Mi.kw_own, Mi.mSlotIx_ap, Mi.kX_some, Mi.kX2_ok, Mi.kX3_some, Mi.mCall_ap, Mi.kc_ok, Mi.kf_ok, Mi.kf_exc, Mi.mCallO_ap, Mi.kq_some, Mi.kq2_ok, Mi.kq3_some, Mi.kq4_ok, Mi.mSetIx_ap, Mi.ky_ok, Mi.ky2_some, Mi.ky3_ok, Mi.ky4_some, Mi.mItL_ap, Mi.kIL_ok, Mi.kRs_some, Mi.mItT_ap, Mi.kIT_ok, Mi.mRng1_ap, Mi.kr1_ok, Mi.mRng2_ap, Mi.kr2_ok, Mi.mFor_ap, Mi.kFo_ok, Mi.mLoop_nil, Mi.kl1_some, Mi.kl2_nx, Mi.kl2_ct, Mi.kl2_bk, Mi.kl2_rt, Mi.kl2_exc, Mi.mLc_ap, Mi.kLc_ok, Mi.lc_nil, Mi.kz1_some, Mi.kz2_ok, Mi.kz3_ok, Mi.mYes_ap, Mi.mAug_ap, Mi.kU_some, Mi.kU2_int, Mi.mTry_ap, Mi.kTr_nx, Mi.kTr_rt, Mi.mMeth_ap, Mi.kMe_lst, Mi.kMe_own, Mi.mAppend_ap, Mi.kAp_some, Mi.kAp2_ok, Mi.kAp3_some, Mi.dAdd_int, Mi.dAdd_str, Mi.dAdd_tup, Mi.dAdd_ll, Mi.dAdd_lo, Mi.dAdd_ol, Mi.dAdd_oo, Mi.dSub_int, Mi.dMul_int, Mi.dMod_int, Mi.dFdiv_int, Mi.dPow_int, Mi.dNeg_int, Mi.dDivmod_int, Mi.dGt_int, Mi.dGe_int, Mi.dLe_int, Mi.dLtI_int, Mi.dLt_int, Mi.dEq_int, Mi.dNe_int, Mi.dMax2_int, Mi.dMin2_int, Mi.fn1_ap, Mi.fn2_ap, Mi.dLen_tup, Mi.dLen_lst, Mi.dLen_cst, Mi.dLen_own, Mi.fnM_ap, Mi.kfn_nx, Mi.kfn_rt, Mi.kfn_exc, Mi.fnO_ap, Mi.kfo_nx, Mi.kfo_rt, Mi.env0, Mi.envN, Mi.envS, Mi.wipeN, Mi.wipeS, Mi.lit_own, Mi.lit_lst, Mi.lit_cst, Mi.ix_own, Mi.ix_lst, Mi.ix_cst, Mi.ix_tup, Mi.dix_own, Mi.dix_lst, Mi.dix_cst, Mi.dix_tup, Mi.rng0, Mi.toL, Mi.end_lawL, Mi.btw_int, Mi.btw_bl, Mi.btw_non, Mi.btw_str, Mi.is_non_int, Mi.is_bl_int, Mi.is_int_int, Mi.is_str_int, Mi.is_tup_int, Mi.is_lst_int, Mi.is_cst_int, Mi.is_own_int, Mi.is_non_bool, Mi.is_bl_bool, Mi.is_int_bool, Mi.is_str_bool, Mi.is_tup_bool, Mi.is_lst_bool, Mi.is_cst_bool, Mi.is_own_bool, Mi.is_non_tuple, Mi.is_bl_tuple, Mi.is_int_tuple, Mi.is_str_tuple, Mi.is_tup_tuple, Mi.is_lst_tuple, Mi.is_cst_tuple, Mi.is_own_tuple, Mi.is_non_list, Mi.is_bl_list, Mi.is_int_list, Mi.is_str_list, Mi.is_tup_list, Mi.is_lst_list, Mi.is_cst_list, Mi.is_own_list, Mi.is_non_str, Mi.is_bl_str, Mi.is_int_str, Mi.is_str_str, Mi.is_tup_str, Mi.is_lst_str, Mi.is_cst_str, Mi.is_own_str, Mi.cast_lit, Mi.mPart_ap, Mi.kPt_ok, Mi.mNoPart_ap, Mi.mSl_ap, Mi.kSl1_ok, Mi.kSl2_ok, Mi.kSl3_ok, Mi.dSl_tup, Mi.dSl_lst, Mi.dSl_cst, Mi.mZip_ap, Mi.kZ_tup, Mi.kZ_lst, Mi.mPick_ap, Mi.kPk_ok, Mi.kPk2_some, Mi.at_0, Mi.at_1, Mi.at_2, Mi.at_3, Mi.isT_non, Mi.isT_bl, Mi.isT_int, Mi.isT_str, Mi.isT_tup, Mi.isT_lst, Mi.isT_cst, Mi.isT_own, Mi.dInt_bl, Mi.dIs_f_non, Mi.dIs_t_non, Mi.dIs_f_bl, Mi.dIs_t_bl, Mi.dIs_f_int, Mi.dIs_t_int, Mi.dIs_f_str, Mi.dIs_t_str, Mi.dIs_f_tup, Mi.dIs_t_tup, Mi.dIs_f_lst, Mi.dIs_t_lst, Mi.dIs_f_own, Mi.dIs_t_own, Mi.dIs_f_cst, Mi.dIs_t_cst, Mi.mLR1_ap, Mi.kLR1_ok, Mi.mLR2_ap, Mi.kLR2_ok, Mi.kLR2b_ok, Mi.mCallB_ap, Mi.kcB_some, Mi.kcB1_ok, Mi.kcB2_some, Mi.kcB3_bl, Mi.kcB3_exc, Mi.mExtend_ap, Mi.kEx_some, Mi.kEx2_ok, Mi.kEx3_some, Mi.dNotIn2, Mi.dIn2, Mi.dIsB_tt, Mi.dIsB_ft, Mi.dNotB_tt, Mi.dNotB_ft, D.frz, frzs, D.plain, plains, Bool.and_self, Bool.and_true, Bool.true_and, Bool.and_false, Bool.false_and, List.length_cons, List.length_nil, List.length_set, Nat.reduceAdd, Nat.zero_add, Nat.reduceLT, Nat.reduceLeDiff, sizeLine_eq, if_true, if_false, Bool.not_true, Bool.not_false, Bool.false_eq_true, decide_true, decide_false, and_self, and_true, true_and, List.cons_append, List.nil_append, Option.map_some, Option.bind_some, Int.reduceToNat, Int.reducePow, Int.reduceNeg, Int.reduceEq, Int.reduceLT, Int.reduceLE, Int.reduceAdd, Int.reduceSub, Int.reduceMul, eq_self, Mi.dat, not_true_eq_false, not_false_eq_true, Bool.or_self, Bool.or_true, Bool.or_false, Bool.false_or, Bool.true_or, false_and, and_false, true_or, or_true, false_or, or_false, hp, hz, List.length_map, eq, ej, sj, h]
end Lw
open PySem PySem.W PyProof.Rows
set_option maxHeartbeats 0 in
theorem PySem.Challenge.cw_likeshares_k36_whole_numbers_and_rests_holds : PySem.Challenge.rw_likeshares_k36_whole_numbers_and_rests.Holds := by
  w_on; o_law; k_head; (case hw => w_witness2)
  k_fill
  refine L2.walk_ofB (l := PySem.Challenge.rw_likeshares_k36_whole_numbers_and_rests) (n := 63) (k := 7) (x := "_law_script") (CX := fun w => L2N.CX PySem.Challenge.rw_likeshares_k36_whole_numbers_and_rests.prog w) (sp := fun w => Mi.spL _ Lw.F_law) rfl (by decide) rfl ⟨rfl, by decide, by decide⟩ (fun w h Y => PySem.W.kIn_of Y) ?F (fun w H a ns hl hb hO hS => Mi.end_lawL (Lw.law_true ns hl hb) hO hS) (fun _ _ _ _ _ h => by
    obtain ⟨_, _, _, _, _, _, _, _, _, _, _, _, q⟩ := h
    exact q)
  case F =>
    intro w mg fa h KX G hmg
    refine' Lw.all_mk KX G hmg ?p_is_whole ?q_is_whole ?r_is_whole ?t_is_whole ?p_is_between ?q_is_between ?r_is_between ?t_is_between ?p_are_numbers ?q_are_numbers ?r_are_numbers ?t_are_numbers ?p_look_at_numbers ?q_look_at_numbers ?r_look_at_numbers ?t_look_at_numbers ?p_rest_numbers ?q_rest_numbers ?r_rest_numbers ?t_rest_numbers ?p_side_of ?q_side_of ?r_side_of ?t_side_of ?p_under_in ?q_under_in ?r_under_in ?t_under_in ?p_under_root ?q_under_root ?r_under_root ?t_under_root ?p_roots_in ?q_roots_in ?r_roots_in ?t_roots_in ?p_roots_of ?q_roots_of ?r_roots_of ?t_roots_of ?p_often_in ?q_often_in ?r_often_in ?t_often_in ?p_often ?q_often ?r_often ?t_often ?p_sides_of ?q_sides_of ?r_sides_of ?t_sides_of ?p_bars_of ?q_bars_of ?r_bars_of ?t_bars_of ?p_is_plain ?q_is_plain ?r_is_plain ?t_is_plain ?p_is_bar ?q_is_bar ?r_is_bar ?t_is_bar ?p_first_bar ?q_first_bar ?r_first_bar ?t_first_bar ?p_all_numbers ?q_all_numbers ?r_all_numbers ?t_all_numbers ?p_w_cell ?q_w_cell ?r_w_cell ?t_w_cell ?p_w_box ?q_w_box ?r_w_box ?t_w_box ?p_w_take ?q_w_take ?r_w_take ?t_w_take ?p_w_numbers ?q_w_numbers ?r_w_numbers ?t_w_numbers ?p_w_rest_right ?q_w_rest_right ?r_w_rest_right ?t_w_rest_right ?p_law ?q_law ?r_law ?t_law ?c_MOST ?c_LEAST_HERE ?c_MOST_HERE ?l_NoNumbers ?l_NoNumber ?ex_NoNumbers ?ek_NoNumbers ?eb_NoNumbers ?et_NoNumbers ?ex_NoNumber ?ek_NoNumber ?eb_NoNumber ?et_NoNumber ?z_len ?z_isi ?z_all ?z_any ?z_sum ?z_min ?z_max ?z_sorted ?z_range ?z_enum ?z_zip ?z_tuple ?z_list ?z_dict ?z_set ?z_str ?z_int ?z_bool ?z_abs ?z_divmod ?z_repr ?z_verr
    (case p_is_whole => k_is)
    (case q_is_whole => k_is)
    (case r_is_whole => k_is)
    (case t_is_whole => k_is)
    (case p_is_between => k_is)
    (case q_is_between => k_is)
    (case r_is_between => k_is)
    (case t_is_between => k_is)
    (case p_are_numbers => k_is)
    (case q_are_numbers => k_is)
    (case r_are_numbers => k_is)
    (case t_are_numbers => k_is)
    (case p_look_at_numbers => k_is)
    (case q_look_at_numbers => k_is)
    (case r_look_at_numbers => k_is)
    (case t_look_at_numbers => k_is)
    (case p_rest_numbers => k_is)
    (case q_rest_numbers => k_is)
    (case r_rest_numbers => k_is)
    (case t_rest_numbers => k_is)
    (case p_side_of => k_is)
    (case q_side_of => k_is)
    (case r_side_of => k_is)
    (case t_side_of => k_is)
    (case p_under_in => k_is)
    (case q_under_in => k_is)
    (case r_under_in => k_is)
    (case t_under_in => k_is)
    (case p_under_root => k_is)
    (case q_under_root => k_is)
    (case r_under_root => k_is)
    (case t_under_root => k_is)
    (case p_roots_in => k_is)
    (case q_roots_in => k_is)
    (case r_roots_in => k_is)
    (case t_roots_in => k_is)
    (case p_roots_of => k_is)
    (case q_roots_of => k_is)
    (case r_roots_of => k_is)
    (case t_roots_of => k_is)
    (case p_often_in => k_is)
    (case q_often_in => k_is)
    (case r_often_in => k_is)
    (case t_often_in => k_is)
    (case p_often => k_is)
    (case q_often => k_is)
    (case r_often => k_is)
    (case t_often => k_is)
    (case p_sides_of => k_is)
    (case q_sides_of => k_is)
    (case r_sides_of => k_is)
    (case t_sides_of => k_is)
    (case p_bars_of => k_is)
    (case q_bars_of => k_is)
    (case r_bars_of => k_is)
    (case t_bars_of => k_is)
    (case p_is_plain => k_is)
    (case q_is_plain => k_is)
    (case r_is_plain => k_is)
    (case t_is_plain => k_is)
    (case p_is_bar => k_is)
    (case q_is_bar => k_is)
    (case r_is_bar => k_is)
    (case t_is_bar => k_is)
    (case p_first_bar => k_is)
    (case q_first_bar => k_is)
    (case r_first_bar => k_is)
    (case t_first_bar => k_is)
    (case p_all_numbers => k_is)
    (case q_all_numbers => k_is)
    (case r_all_numbers => k_is)
    (case t_all_numbers => k_is)
    (case p_w_cell => k_is)
    (case q_w_cell => k_is)
    (case r_w_cell => k_is)
    (case t_w_cell => k_is)
    (case p_w_box => k_is)
    (case q_w_box => k_is)
    (case r_w_box => k_is)
    (case t_w_box => k_is)
    (case p_w_take => k_is)
    (case q_w_take => k_is)
    (case r_w_take => k_is)
    (case t_w_take => k_is)
    (case p_w_numbers => k_is)
    (case q_w_numbers => k_is)
    (case r_w_numbers => k_is)
    (case t_w_numbers => k_is)
    (case p_w_rest_right => k_is)
    (case q_w_rest_right => k_is)
    (case r_w_rest_right => k_is)
    (case t_w_rest_right => k_is)
    (case p_law => k_is)
    (case q_law => k_is)
    (case r_law => k_is)
    (case t_law => k_is)
    (case c_MOST => k_is)
    (case c_LEAST_HERE => k_is)
    (case c_MOST_HERE => k_is)
    (case l_NoNumbers => k_is)
    (case l_NoNumber => k_is)
    (case ex_NoNumbers => k_exc)
    (case ek_NoNumbers => k_is)
    (case eb_NoNumbers => k_is)
    (case et_NoNumbers => k_is)
    (case ex_NoNumber => k_exc)
    (case ek_NoNumber => k_is)
    (case eb_NoNumber => k_is)
    (case et_NoNumber => k_is)
    (case z_len => k_is)
    (case z_isi => k_is)
    (case z_all => k_is)
    (case z_any => k_is)
    (case z_sum => k_is)
    (case z_min => k_is)
    (case z_max => k_is)
    (case z_sorted => k_is)
    (case z_range => k_is)
    (case z_enum => k_is)
    (case z_zip => k_is)
    (case z_tuple => k_is)
    (case z_list => k_is)
    (case z_dict => k_is)
    (case z_set => k_is)
    (case z_str => k_is)
    (case z_int => k_is)
    (case z_bool => k_is)
    (case z_abs => k_is)
    (case z_divmod => k_is)
    (case z_repr => k_is)
    (case z_verr => k_is)
