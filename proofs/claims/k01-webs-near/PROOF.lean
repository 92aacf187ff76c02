import PyProof.Rows.All
import Wide.All
import OpenK.AllK
import Wide.FinOn
import HandS.ForMost
import HandS.ForExc
import HandS.ExcCtx
import HandS.Hot
import HandS.HotCalls
import HandS.IsInst
import HandS.Wide
import HandS.Flow
import HandS.Deep
import HandS.Nested
import KE.KeyNested
import HandS.WideBits
import HandS.TupAny
import HandS.Style
import HandS.Zip
import HandS.ExcIs
import HandS.EndBits
import HandS.Star
import KE.KTupSum
import HandS.Conv
import HandS.Dict
import HandS.Iter
import HandS.SortInts
import HandS.TupMul
import KE.SortData
import KE.SortCalls
import HandS.TupSets
import HandS.SetFor
import KE.DataMinMax
import KE.KDictPairs
import KE.KDictKeyed
import HandS.Strs
import KE.GoesEnum
import HandS.EndTab
import HandS.NestedK
import KE.KNestM
import KE.KDictSum
import HandS.Text
import HandS.ExcInitHot
import HandS.ExcField
import HandS.ClsMeth
import KE.KExcIs
import HandS.TupLen
import HandS.TryOnly
import KE.KDictCopyH
import HandS.ReCall
import KE.DataFind
import HandS.RaiseMore
import PyProof.ReprRoads
import HandS.HeadHook3
import KE.GoesNew
import PyProof.WalksMore
import PySem.Challenge.RW_likeshares_k01_webs_and_what_is_near
set_option Elab.async false
set_option linter.all false
set_option maxRecDepth 100000
set_option maxHeartbeats 4000000
namespace Mi
open PySem PySem.Spec PyProof.Rows L2

class TabsC where
  T : List NdefX.NTab
  C : Addr
def tab [TabsC] (a : Addr) : Prop := ∃ p ∈ TabsC.T, p.1 = a
def TabsOk [TabsC] (H : Hp) : Prop := NdefX.TabsN TabsC.T H
theorem tab_at [TabsC] {H : Hp} (h : TabsOk H) {a : Addr} (t : tab a) : ∃ ps, H a = some (.tbl ps) := by
  obtain ⟨p, hp, e⟩ := t
  obtain ⟨ps, q, _⟩ := h p hp
  exact ⟨ps, e ▸ q⟩
theorem tab_no [TabsC] {H : Hp} (h : TabsOk H) {a : Addr} {o : HO} (e : H a = some o) (n : ∀ ps, o ≠ .tbl ps) : ¬ tab a := fun t => by
  obtain ⟨ps, q⟩ := tab_at h t
  rw [e] at q; cases q; exact n _ rfl
theorem tabs_same [TabsC] {H H' : Hp} (h : TabsOk H) (s : ∀ b o, H b = some o → H' b = some o) : TabsOk H' := NdefX.TabsN.ext h s
theorem tabs_upd [TabsC] {H : Hp} {a : Addr} {o u : HO} (h : TabsOk H) (e : H a = some o) (n1 : ∀ ps, o ≠ .tbl ps) (n2 : ∀ q, o ≠ LamX.CodeO a q) : TabsOk (upd H a u) := fun p hp => by
  obtain ⟨ps, q1, q2, q3⟩ := h p hp
  have k : ∀ b x, H b = some x → b ≠ a → upd H a u b = some x := fun b x e nb => by rw [upd_ne nb]; exact e
  refine ⟨ps, k _ _ q1 fun z => ?_, q2, fun pos cv hc => ?_⟩
  · rw [z, e] at q1; cases q1; exact n1 _ rfl
  · obtain ⟨c, e1, e2⟩ := q3 pos cv hc
    refine ⟨c, e1, k _ _ e2 fun z => ?_⟩
    rw [z, e] at e2
    exact n2 _ (by rw [← z]; exact Option.some.inj (z ▸ e2))
structure Kept [TabsC] (X : Addr → Prop) (io : List (Nat × Addr)) (H0 H : Hp) : Prop where
  run : ∀ b o, H0 b = some o → (b ∉ io.map (·.2) → ¬ tab b → H b = some o) ∧ ∃ o', H b = some o'
  tabs : TabsOk H
  tx : ∀ a, tab a → X a
instance [TabsC] {X : Addr → Prop} {io : List (Nat × Addr)} {H0 H : Hp} : CoeFun (Kept X io H0 H) fun _ => ∀ b o, H0 b = some o → (b ∉ io.map (·.2) → ¬ tab b → H b = some o) ∧ ∃ o', H b = some o' := ⟨Kept.run⟩
theorem Kept.same [TabsC] {X : Addr → Prop} {io : List (Nat × Addr)} {H0 H H' : Hp} (h : Kept X io H0 H) (s : ∀ b o, H b = some o → H' b = some o) : Kept X io H0 H' :=
  ⟨fun b o e1 => ⟨fun e2 e3 => s b o ((h.run b o e1).1 e2 e3), let ⟨o', q⟩ := (h.run b o e1).2; ⟨o', s b o' q⟩⟩, tabs_same h.tabs s, h.tx⟩
theorem Kept.refl [TabsC] {X : Addr → Prop} {io : List (Nat × Addr)} {H : Hp} (t : TabsOk H) (x : ∀ a, tab a → X a) : Kept X io H H := ⟨fun b o e => ⟨fun _ _ => e, o, e⟩, t, x⟩
def SameT [TabsC] (H H' : Hp) : Prop := (∀ b o, H b = some o → ¬ tab b → H' b = some o) ∧ (∀ b o, H b = some o → ∃ o', H' b = some o') ∧ TabsOk H'
theorem SameT.refl [TabsC] {H : Hp} (t : TabsOk H) : SameT H H := ⟨fun _ _ e _ => e, fun _ o e => ⟨o, e⟩, t⟩
theorem SameT.trans [TabsC] {H H' H'' : Hp} (a : SameT H H') (b : SameT H' H'') : SameT H H'' := ⟨fun x o e n => b.1 x o (a.1 x o e n) n, fun x o e => let ⟨o', q⟩ := a.2.1 x o e; b.2.1 x o' q, b.2.2⟩
theorem SameT.of [TabsC] {H H' : Hp} (t : TabsOk H) (s : ∀ b o, H b = some o → H' b = some o) : SameT H H' := ⟨fun b o e _ => s b o e, fun b o e => ⟨o, s b o e⟩, tabs_same t s⟩
theorem Kept.then [TabsC] {X : Addr → Prop} {io : List (Nat × Addr)} {H0 H H' : Hp} (h : Kept X io H0 H) (s : SameT H H') : Kept X io H0 H' :=
  ⟨fun b o e1 => ⟨fun e2 e3 => s.1 b o ((h.run b o e1).1 e2 e3) e3, let ⟨o', q⟩ := (h.run b o e1).2; s.2.1 b o' q⟩, s.2.2, h.tx⟩
theorem Kept.nt [TabsC] {X : Addr → Prop} {io : List (Nat × Addr)} {H0 H : Hp} (h : Kept X io H0 H) {a : Addr} {o : HO} (e : H0 a = some o) (nt : ∀ xs, o ≠ .tup xs) (ni : a ∉ io.map (·.2)) : ∃ o, H a = some o ∧ ∀ xs, o ≠ .tup xs := by
  by_cases t : tab a
  · obtain ⟨ps, q⟩ := tab_at h.tabs t
    exact ⟨_, q, fun _ z => nomatch z⟩
  · exact ⟨o, (h.run a o e).1 ni t, nt⟩

abbrev FzO (o : Obj) : HO := .frz o (.ext fun _ => True)
structure ClsAt (cl : List (Str × Addr)) (fr : List Str) (ws : List V) (H : Hp) : Prop where
  len : ws.length = fr.length
  all : ∀ y c, cl.lookup y = some c → ∃ o v, H c = some (FzO o) ∧ o.data = .cell v
  inj : ∀ x y c, cl.lookup x = some c → cl.lookup y = some c → x = y
  has : ∀ (i : Nat) (y : Str), fr[i]? = some y → ∃ c, cl.lookup y = some c ∧ ∀ v, ws[i]? = some v → ∃ o u, H c = some (FzO o) ∧ o.data = .cell (some u) ∧ L2.RelV v u
theorem ClsAt.mono {cl : List (Str × Addr)} {fr : List Str} {ws : List V} {H H' : Hp} (h : ClsAt cl fr ws H) (m : ∀ a o u, H a = some (.frz o u) → H' a = some (.frz o u)) : ClsAt cl fr ws H' :=
  ⟨h.len, fun y c e => let ⟨o, v, q, d⟩ := h.all y c e; ⟨o, v, m _ _ _ q, d⟩, h.inj, fun i y e => let ⟨c, e1, q⟩ := h.has i y e; ⟨c, e1, fun v ev => let ⟨o, u, q1, q2, q3⟩ := q v ev; ⟨o, u, m _ _ _ q1, q2, q3⟩⟩⟩
def LamAt (f : Addr) (F : NdefX.NF) (ex : Expr) (H : Hp) : Prop := ∃ pm ctv, H f = some (FzO (PySem.W.kla_obj F.name F.qual F.params ex F.scope F.cl pm F.c ctv))

inductive DM where
  | kn (ks : List (List Int)) | im (kvs : List (Int × Int)) | tk (ks : List Int) | tp (ks : List Int) | no | ex (a dd : Addr) (fs : List (Str × Int))
inductive D where
  | non | bl (b : Bool) | int (i : Int) | str (x : Str) | raw (v : V)
  | tup (ds : List D) | lst (ds : List D) | cst (ds : List D) | own (ds : List D) | dic | dct (m : DM) | odc (ks : List Int) | odt (kvs : List (Int × List Int)) | odu (kvs : List (List Int × List Int)) | odn (kvs : List ((Int × List Int) × List Int)) | odp (ks : List (List Int)) | dsk (w : D) (ps : List D) | clo (f : Addr) (F : NdefX.NF) (ex : Expr) (fr : List Str) (ws : List V) (caps : List D)
  | ownA (b : Addr) (ds : List D) | cob (f : Addr) (F : NdefX.NF) (ex : Expr) (fr : List Str) (ws : List V) (b : Addr) (caps ds : List D)

mutual
def D.plain : D → Bool
  | .non => true | .bl _ => true | .int _ => true | .str _ => true | .raw _ => true
  | .tup ds => plains ds | .lst ds => plains ds | .cst ds => plains ds | .own _ => false | .dic => true | .dct _ => true | .odc _ => false | .odt _ => false | .odu _ => false | .odn _ => false | .odp _ => false | .dsk _ _ => false | .clo _ _ _ _ _ cs => plains cs | .ownA _ _ => false | .cob _ _ _ _ _ _ _ _ => false
def plains : List D → Bool
  | [] => true
  | d :: ds => d.plain && plains ds
end
mutual
/-- no list within -/
def D.flat : D → Bool
  | .non => true | .bl _ => true | .int _ => true | .str _ => true | .raw _ => true
  | .tup ds => flats ds | .lst _ => false | .cst _ => false | .own _ => false | .dic => false | .dct _ => false | .odc _ => false | .odt _ => false | .odu _ => false | .odn _ => false | .odp _ => false | .dsk _ _ => false | .clo _ _ _ _ _ _ => false | .ownA _ _ => false | .cob _ _ _ _ _ _ _ _ => false
def flats : List D → Bool
  | [] => true
  | d :: ds => d.flat && flats ds
end
mutual
def D.frz : D → D
  | .non => .non | .bl b => .bl b | .int i => .int i | .str x => .str x | .raw v => .raw v
  | .tup ds => .tup (frzs ds) | .lst ds => .lst (frzs ds) | .cst ds => .cst (frzs ds) | .own ds => .lst (frzs ds) | .dic => .dic | .dct m => .dct m | .odc ks => .dct (.tk ks) | .odt _ => .dct .no | .odu _ => .dct .no | .odn _ => .dct .no | .odp _ => .dct .no | .dsk _ _ => .dct .no | .clo f F ex fr ws cs => .clo f F ex fr ws (frzs cs) | .ownA _ ds => .lst (frzs ds) | .cob f F ex fr ws _ cs ds => .clo f F ex fr ws (.lst (frzs ds) :: frzs cs)
def frzs : List D → List D
  | [] => []
  | d :: ds => d.frz :: frzs ds
end
def Trk (P : Addr → Prop) (H : Hp) (a : Addr) (u : HO) : Prop := (H a = some u ∧ ¬ P a) ∨ ∃ o, H a = some (.frz o u)
theorem Trk.rd {P : Addr → Prop} {H : Hp} {a : Addr} {u : HO} (h : Trk P H a u) : Rd H a u := h.elim (fun z => .inl z.1) .inr
def CqL (K : PySem.W.Frag) (H : Hp) (a : Addr) (xs : List V) : Prop :=
  (∃ o, H a = some (.frz o (.lst xs))) ∨
    ∃ (o : Obj) (its : Array Value) (n : Nat), K.lookup a = some o ∧ o.cls = .type "list" ∧ o.dict = none ∧ o.data = .seq its n ∧ its.size ≤ sizeLine ∧ Vals xs its.toList
theorem CqL.sq {K : PySem.W.Frag} {H : Hp} {a : Addr} {xs : List V} (h : CqL K H a xs) : SqL K H a xs := h.elim (fun z => .inl (.inr z)) .inr
def TqT (K : PySem.W.Frag) (P : Addr → Prop) (H : Hp) (a : Addr) (xs : List V) : Prop :=
  Trk P H a (.tup xs) ∨
    ∃ (o : Obj) (its : Array Value) (n : Nat), K.lookup a = some o ∧ o.cls = .type "tuple" ∧ o.data = .seq its n ∧ its.size ≤ sizeLine ∧ Vals xs its.toList
theorem TqT.sq {K : PySem.W.Frag} {P : Addr → Prop} {H : Hp} {a : Addr} {xs : List V} (h : TqT K P H a xs) : SqT K H a xs := h.elim (fun z => .inl z.rd) .inr

def KnO (a : Addr) (kas : List (List Int × Addr)) : HO := .ext fun h => (a == sysModules) = false ∧ ∃ (o : Obj) (es : Array DictEntry) (ep : Nat) (vs : List Value), h.get? a = some o ∧ o.ExactDict ∧ o.data = .dict es ep ∧ vs.length = kas.length ∧
  (∀ (P : Program) (w : World), es.toList = (kas.zip vs).map fun x => entryOfKey (tupleKind (mixKind P w)) (x.1.1.map Sum.inl, x.1.2, x.2)) ∧ (kas.map (·.1)).Nodup
def tkD (ks : List Int) : HO := .dK (ks.map fun k => ((Sum.inl k : Key), V.bl true))
def tpD (ks : List (List Int)) : HO := .dT (ks.map fun k => (k.map Sum.inl, V.bl true))
def DctAt (K : PySem.W.Frag) (P : Addr → Prop) (H : Hp) : DM → Addr → Prop
  | .im kvs, a => H a = some (.dK (kvs.map fun p => ((Sum.inl p.1 : Key), V.int p.2))) ∧ ¬ P a
  | .tk ks, a => H a = some (tkD ks) ∧ ¬ P a
  | .tp ks, a => ∃ o, H a = some (.frz o (.tup (ks.map V.int))) ∧ o.cls = .type "tuple" ∧ o.dict = none
  | .no, _ => True
  | .ex a0 dd fs, a => a = a0 ∧ H dd = some (.xd (fs.map fun p => (p.1, V.int p.2))) ∧ ¬ P dd
  | .kn ks, a => ∃ kas : List (List Int × Addr), kas.map (·.1) = ks ∧ H a = some (KnO a kas) ∧ ¬ P a ∧ ∀ q ∈ kas, TqT K P H q.2 (q.1.map V.int)
def OtAt (K : PySem.W.Frag) (P : Addr → Prop) (H : Hp) (kvs : List (Int × List Int)) (a : Addr) : Prop :=
  ∃ qs : List (Int × List Int × Addr), qs.map (fun q => (q.1, q.2.1)) = kvs ∧ H a = some (.dK (qs.map fun q => ((Sum.inl q.1 : Key), V.ref q.2.2))) ∧ ∀ q ∈ qs, TqT K P H q.2.2 (q.2.1.map V.int)
def OuO (a : Addr) (qs : List (List Int × List Int × Addr × Addr)) : HO := .ext fun h => (a == sysModules) = false ∧ qs.length ≤ sizeLine ∧ ∃ (o : Obj) (es : Array DictEntry) (ep : Nat), h.get? a = some o ∧ o.ExactDict ∧ o.data = .dict es ep ∧
  (∀ (P : Program) (w : World), es.toList = qs.map fun q => entryOfKey (tupleKind (mixKind P w)) (q.1.map Sum.inl, q.2.2.1, Value.ref q.2.2.2)) ∧ (qs.map (·.1)).Nodup
def OuAt (K : PySem.W.Frag) (P : Addr → Prop) (H : Hp) (kvs : List (List Int × List Int)) (a : Addr) : Prop :=
  ∃ qs : List (List Int × List Int × Addr × Addr), qs.map (fun q => (q.1, q.2.1)) = kvs ∧ H a = some (OuO a qs) ∧ ∀ q ∈ qs, TqT K P H q.2.2.1 (q.1.map V.int) ∧ TqT K P H q.2.2.2 (q.2.1.map V.int)
def nkey (k : Int × List Int) : NestedKey := .tup [.num k.1, .tup (k.2.map NestedKey.num)]
def NkT (K : PySem.W.Frag) (P : Addr → Prop) (H : Hp) (a : Addr) (k : Int × List Int) : Prop := ∃ b, TqT K P H a [V.int k.1, V.ref b] ∧ TqT K P H b (k.2.map V.int)
def OnO (a : Addr) (qs : List ((Int × List Int) × List Int × Addr × Addr)) : HO := .ext fun h => (a == sysModules) = false ∧ qs.length ≤ sizeLine ∧ ∃ (o : Obj) (es : Array DictEntry) (ep : Nat), h.get? a = some o ∧ o.ExactDict ∧ o.data = .dict es ep ∧
  (∀ (P : Program) (w : World), es.toList = qs.map fun q => entryOfKey (nestedKind P w) (nkey q.1, q.2.2.1, Value.ref q.2.2.2)) ∧ (qs.map (·.1)).Nodup
def OnAt (K : PySem.W.Frag) (P : Addr → Prop) (H : Hp) (kvs : List ((Int × List Int) × List Int)) (a : Addr) : Prop :=
  ∃ qs : List ((Int × List Int) × List Int × Addr × Addr), qs.map (fun q => (q.1, q.2.1)) = kvs ∧ H a = some (OnO a qs) ∧ ∀ q ∈ qs, NkT K P H q.2.2.1 q.1 ∧ TqT K P H q.2.2.2 (q.2.1.map V.int)
def Mono (P : Addr → Prop) (H : Hp) (P' : Addr → Prop) (H' : Hp) : Prop := (∀ a o, H a = some o → ¬ P a → H' a = some o ∧ ¬ P' a) ∧ ∀ a o u, H a = some (.frz o u) → H' a = some (.frz o u)

mutual
def Rep (K : PySem.W.Frag) (P : Addr → Prop) (H : Hp) : D → V → Prop
  | .non, v => v = .non
  | .bl b, v => v = .bl b
  | .int i, v => v = .int i
  | .str x, v => v = .str x
  | .raw u, v => v = u
  | .tup ds, v => ∃ a vs, v = .ref a ∧ TqT K P H a vs ∧ Reps K P H ds vs
  | .lst ds, v => ∃ a vs, v = .ref a ∧ (H a = some (.lst vs) ∧ ¬ P a) ∧ Reps K P H ds vs
  | .cst ds, v => ∃ a vs, v = .ref a ∧ CqL K H a vs ∧ Reps K P H ds vs
  | .own _, _ => False
  | .dic, v => ∃ a, v = .ref a ∧ H a = some (.dK []) ∧ ¬ P a
  | .dct m, v => ∃ a, v = .ref a ∧ DctAt K P H m a
  | .odc _, _ => False
  | .odt _, _ => False
  | .odu _, _ => False
  | .odn _, _ => False
  | .odp _, _ => False
  | .dsk _ _, _ => False
  | .clo f F ex fr ws cs, v => v = .ref f ∧ LamAt f F ex H ∧ (H F.c = some (LamX.CodeO F.c F.qual) ∧ ¬ P F.c) ∧ ClsAt F.cl fr ws H ∧ Reps K P H cs ws
  | .ownA _ _, _ => False
  | .cob _ _ _ _ _ _ _ _, _ => False
def Reps (K : PySem.W.Frag) (P : Addr → Prop) (H : Hp) : List D → List V → Prop
  | [], vs => vs = []
  | d :: ds, vs => ∃ v r, vs = v :: r ∧ Rep K P H d v ∧ Reps K P H ds r
end
section
variable {K : PySem.W.Frag} {P P' : Addr → Prop} {H H' : Hp}
theorem Mono.trk {a : Addr} {u : HO} (m : Mono P H P' H') (h : Trk P H a u) : Trk P' H' a u := by
  rcases h with ⟨h, n⟩ | ⟨o, h⟩
  · exact .inl (m.1 a u h n)
  · exact .inr ⟨o, m.2 a o u h⟩
theorem Mono.cql {a : Addr} {xs : List V} (m : Mono P H P' H') (h : CqL K H a xs) : CqL K H' a xs := h.imp (fun ⟨o, z⟩ => ⟨o, m.2 a o _ z⟩) id
theorem Mono.tqt {a : Addr} {xs : List V} (m : Mono P H P' H') (h : TqT K P H a xs) : TqT K P' H' a xs := h.elim (fun z => .inl (m.trk z)) .inr
theorem DctAt.mono (m : Mono P H P' H') : ∀ {d : DM} {a : Addr}, DctAt K P H d a → DctAt K P' H' d a
  | .im _, _, h => m.1 _ _ h.1 h.2
  | .tk _, _, h => m.1 _ _ h.1 h.2
  | .tp _, _, ⟨o, e, c, d⟩ => ⟨o, m.2 _ _ _ e, c, d⟩
  | .no, _, h => h
  | .ex _ _ _, _, h => ⟨h.1, m.1 _ _ h.2.1 h.2.2⟩
  | .kn _, _, ⟨kas, e, q, n, t⟩ => ⟨kas, e, (m.1 _ _ q n).1, (m.1 _ _ q n).2, fun x hx => m.tqt (t x hx)⟩
mutual
theorem Rep.mono (m : Mono P H P' H') : ∀ (d : D) {v : V}, Rep K P H d v → Rep K P' H' d v
  | .non, _, h => by unfold Rep at h ⊢; exact h
  | .bl _, _, h => by unfold Rep at h ⊢; exact h
  | .int _, _, h => by unfold Rep at h ⊢; exact h
  | .str _, _, h => by unfold Rep at h ⊢; exact h
  | .raw _, _, h => by unfold Rep at h ⊢; exact h
  | .tup ds, _, h => by
    unfold Rep at h ⊢
    obtain ⟨a, vs, e, q, r⟩ := h
    exact ⟨a, vs, e, m.tqt q, Reps.mono m ds r⟩
  | .lst ds, _, h => by
    unfold Rep at h ⊢
    obtain ⟨a, vs, e, q, r⟩ := h
    exact ⟨a, vs, e, m.1 _ _ q.1 q.2, Reps.mono m ds r⟩
  | .cst ds, _, h => by
    unfold Rep at h ⊢
    obtain ⟨a, vs, e, q, r⟩ := h
    exact ⟨a, vs, e, m.cql q, Reps.mono m ds r⟩
  | .own _, _, h => by unfold Rep at h; exact h.elim
  | .dic, _, h => by
    unfold Rep at h ⊢
    obtain ⟨a, e, q, n⟩ := h
    exact ⟨a, e, m.1 _ _ q n⟩
  | .dct _, _, h => by
    unfold Rep at h ⊢
    obtain ⟨a, e, q⟩ := h
    exact ⟨a, e, DctAt.mono m q⟩
  | .odc _, _, h => by unfold Rep at h; exact h.elim
  | .odt _, _, h => by unfold Rep at h; exact h.elim
  | .odu _, _, h => by unfold Rep at h; exact h.elim
  | .odn _, _, h => by unfold Rep at h; exact h.elim
  | .odp _, _, h => by unfold Rep at h; exact h.elim
  | .dsk _ _, _, h => by unfold Rep at h; exact h.elim
  | .clo f F ex fr ws cs, _, h => by
    unfold Rep at h ⊢
    obtain ⟨e, ⟨pm, ctv, q⟩, c, l, r⟩ := h
    exact ⟨e, ⟨pm, ctv, m.2 _ _ _ q⟩, m.1 _ _ c.1 c.2, l.mono m.2, Reps.mono m cs r⟩
  | .ownA _ _, _, h => by unfold Rep at h; exact h.elim
  | .cob _ _ _ _ _ _ _ _, _, h => by unfold Rep at h; exact h.elim
theorem Reps.mono (m : Mono P H P' H') : ∀ (ds : List D) {vs : List V}, Reps K P H ds vs → Reps K P' H' ds vs
  | [], _, h => by unfold Reps at h ⊢; exact h
  | d :: ds, _, h => by
    unfold Reps at h ⊢
    obtain ⟨v, r, e, h1, h2⟩ := h
    exact ⟨v, r, e, Rep.mono m d h1, Reps.mono m ds h2⟩
end
end

variable [TabsC]
mutual
/-- .. with what is owned: the addresses of the owned lists, in order -/
def Own (K : PySem.W.Frag) (P : Addr → Prop) (H : Hp) : D → V → List Addr → Prop
  | .own ds, v, as => ∃ a vs bs, v = .ref a ∧ H a = some (.lst vs) ∧ Owns K P H ds vs bs ∧ as = a :: bs
  | .odc ks, v, as => ∃ a, v = .ref a ∧ H a = some (tkD ks) ∧ as = [a]
  | .odt kvs, v, as => ∃ a, v = .ref a ∧ OtAt K P H kvs a ∧ as = [a]
  | .odu kvs, v, as => ∃ a, v = .ref a ∧ OuAt K P H kvs a ∧ as = [a]
  | .odn kvs, v, as => ∃ a, v = .ref a ∧ OnAt K P H kvs a ∧ as = [a]
  | .odp ks, v, as => ∃ a, v = .ref a ∧ H a = some (tpD ks) ∧ as = [a]
  | .dsk w ps, v, as => ∃ a dx p vw vs, v = .ref a ∧ H a = some (.ins TabsC.C dx [("web", vw), ("past", V.ref p)]) ∧ H dx = some (.own a) ∧ H p = some (.lst vs) ∧ Rep K P H w vw ∧ Reps K P H ps vs ∧ as = [a, dx, p]
  | .ownA b ds, v, as => ∃ vs, v = .ref b ∧ H b = some (.lst vs) ∧ Reps K P H ds vs ∧ as = [b]
  | .cob f F ex fr ws b cs ds, v, as => ∃ ws2 vs, v = .ref f ∧ LamAt f F ex H ∧ (H F.c = some (LamX.CodeO F.c F.qual) ∧ ¬ P F.c) ∧ ClsAt F.cl fr ws H ∧ ws = .ref b :: ws2 ∧ H b = some (.lst vs) ∧ Reps K P H ds vs ∧ Reps K P H cs ws2 ∧ as = [b]
  | d, v, as => Rep K P H d v ∧ as = []
def Owns (K : PySem.W.Frag) (P : Addr → Prop) (H : Hp) : List D → List V → List Addr → Prop
  | [], vs, as => vs = [] ∧ as = []
  | d :: ds, vs, as => ∃ v r bs cs, vs = v :: r ∧ Own K P H d v bs ∧ Owns K P H ds r cs ∧ as = bs ++ cs
end
def MonoO (as : List Addr) (P : Addr → Prop) (H : Hp) (P' : Addr → Prop) (H' : Hp) : Prop := Mono P H P' H' ∧ ∀ a ∈ as, H' a = H a
section
variable {K : PySem.W.Frag} {P P' : Addr → Prop} {H H' : Hp}
theorem Own.rep {d : D} {v : V} {as : List Addr} (h : Own K P H d v as) (p : ∀ ds, d ≠ .own ds) (p2 : ∀ ks, d ≠ .odc ks := by exact fun _ z => nomatch z) (p3 : ∀ b ds, d ≠ .ownA b ds := by exact fun _ _ z => nomatch z) (p4 : ∀ f F ex fr ws b cs ds, d ≠ .cob f F ex fr ws b cs ds := by exact fun _ _ _ _ _ _ _ _ z => nomatch z) (p5 : ∀ kvs, d ≠ .odt kvs := by exact fun _ z => nomatch z) (p7 : ∀ kvs, d ≠ .odu kvs := by exact fun _ z => nomatch z) (p8 : ∀ kvs, d ≠ .odn kvs := by exact fun _ z => nomatch z) (p6 : ∀ ks, d ≠ .odp ks := by exact fun _ z => nomatch z) (p9 : ∀ w ps, d ≠ .dsk w ps := by exact fun _ _ z => nomatch z) : Rep K P H d v ∧ as = [] := by
  cases d <;> first | (unfold Own at h; exact h) | exact absurd rfl (p _) | exact absurd rfl (p2 _) | exact absurd rfl (p3 _ _) | exact absurd rfl (p4 _ _ _ _ _ _ _ _) | exact absurd rfl (p5 _) | exact absurd rfl (p7 _) | exact absurd rfl (p8 _) | exact absurd rfl (p6 _) | exact absurd rfl (p9 _ _)
theorem Own.of {d : D} {v : V} (h : Rep K P H d v) : Own K P H d v [] := by
  cases d <;> first | (unfold Own; exact ⟨h, rfl⟩) | (unfold Rep at h; exact h.elim)
mutual
theorem Own.mono : ∀ (d : D) {v : V} {as : List Addr}, MonoO as P H P' H' → Own K P H d v as → Own K P' H' d v as
  | .own ds, v, as, m, h => by
    unfold Own at h ⊢
    obtain ⟨a, vs, bs, e, q, r, ea⟩ := h
    subst ea
    exact ⟨a, vs, bs, e, by rw [m.2 a (List.mem_cons_self ..)]; exact q, Owns.mono ds ⟨m.1, fun b hb => m.2 b (List.mem_cons_of_mem _ hb)⟩ r, rfl⟩
  | .non, v, as, m, h => by unfold Own at h ⊢; exact ⟨Rep.mono m.1 _ h.1, h.2⟩
  | .bl _, v, as, m, h => by unfold Own at h ⊢; exact ⟨Rep.mono m.1 _ h.1, h.2⟩
  | .int _, v, as, m, h => by unfold Own at h ⊢; exact ⟨Rep.mono m.1 _ h.1, h.2⟩
  | .str _, v, as, m, h => by unfold Own at h ⊢; exact ⟨Rep.mono m.1 _ h.1, h.2⟩
  | .raw _, v, as, m, h => by unfold Own at h ⊢; exact ⟨Rep.mono m.1 _ h.1, h.2⟩
  | .dic, v, as, m, h => by unfold Own at h ⊢; exact ⟨Rep.mono m.1 _ h.1, h.2⟩
  | .dct _, v, as, m, h => by unfold Own at h ⊢; exact ⟨Rep.mono m.1 _ h.1, h.2⟩
  | .odc _, v, as, m, h => by
    unfold Own at h ⊢
    obtain ⟨a, e, q, ea⟩ := h
    subst ea
    exact ⟨a, e, by rw [m.2 a (List.mem_cons_self ..)]; exact q, rfl⟩
  | .odp _, v, as, m, h => by
    unfold Own at h ⊢
    obtain ⟨a, e, q, ea⟩ := h
    subst ea
    exact ⟨a, e, by rw [m.2 a (List.mem_cons_self ..)]; exact q, rfl⟩
  | .dsk w ps, v, as, m, h => by
    unfold Own at h ⊢
    obtain ⟨a, dx, p, vw, vs, e, q1, q2, q3, r1, r2, ea⟩ := h
    subst ea
    exact ⟨a, dx, p, vw, vs, e, by rw [m.2 a (by simp)]; exact q1, by rw [m.2 dx (by simp)]; exact q2, by rw [m.2 p (by simp)]; exact q3, Rep.mono m.1 w r1, Reps.mono m.1 ps r2, rfl⟩
  | .odt _, v, as, m, h => by
    unfold Own at h ⊢
    obtain ⟨a, e, ⟨qs, e1, q, t⟩, ea⟩ := h
    subst ea
    exact ⟨a, e, ⟨qs, e1, by rw [m.2 a (List.mem_cons_self ..)]; exact q, fun x hx => m.1.tqt (t x hx)⟩, rfl⟩
  | .odu _, v, as, m, h => by
    unfold Own at h ⊢
    obtain ⟨a, e, ⟨qs, e1, q, t⟩, ea⟩ := h
    subst ea
    exact ⟨a, e, ⟨qs, e1, by rw [m.2 a (List.mem_cons_self ..)]; exact q, fun x hx => ⟨m.1.tqt (t x hx).1, m.1.tqt (t x hx).2⟩⟩, rfl⟩
  | .odn _, v, as, m, h => by
    unfold Own at h ⊢
    obtain ⟨a, e, ⟨qs, e1, q, t⟩, ea⟩ := h
    subst ea
    exact ⟨a, e, ⟨qs, e1, by rw [m.2 a (List.mem_cons_self ..)]; exact q, fun x hx => let ⟨⟨b, t1, t2⟩, t3⟩ := t x hx; ⟨⟨b, m.1.tqt t1, m.1.tqt t2⟩, m.1.tqt t3⟩⟩, rfl⟩
  | .tup _, v, as, m, h => by unfold Own at h ⊢; exact ⟨Rep.mono m.1 _ h.1, h.2⟩
  | .lst _, v, as, m, h => by unfold Own at h ⊢; exact ⟨Rep.mono m.1 _ h.1, h.2⟩
  | .cst _, v, as, m, h => by unfold Own at h ⊢; exact ⟨Rep.mono m.1 _ h.1, h.2⟩
  | .clo _ _ _ _ _ _, v, as, m, h => by unfold Own at h ⊢; exact ⟨Rep.mono m.1 _ h.1, h.2⟩
  | .ownA _ ds, v, as, m, h => by
    unfold Own at h ⊢
    obtain ⟨vs, e, q, r, ea⟩ := h
    subst ea
    exact ⟨vs, e, by rw [m.2 _ (List.mem_cons_self ..)]; exact q, Reps.mono m.1 ds r, rfl⟩
  | .cob _ _ _ _ _ _ cs ds, v, as, m, h => by
    unfold Own at h ⊢
    obtain ⟨ws2, vs, e, ⟨pm, ctv, q⟩, c, l, ew, qb, r, rc, ea⟩ := h
    subst ea
    exact ⟨ws2, vs, e, ⟨pm, ctv, m.1.2 _ _ _ q⟩, m.1.1 _ _ c.1 c.2, l.mono m.1.2, ew, by rw [m.2 _ (List.mem_cons_self ..)]; exact qb, Reps.mono m.1 ds r, Reps.mono m.1 cs rc, rfl⟩
theorem Owns.mono : ∀ (ds : List D) {vs : List V} {as : List Addr}, MonoO as P H P' H' → Owns K P H ds vs as → Owns K P' H' ds vs as
  | [], _, _, m, h => by unfold Owns at h ⊢; exact h
  | d :: ds, _, _, m, h => by
    unfold Owns at h ⊢
    obtain ⟨v, r, bs, cs, e, h1, h2, ea⟩ := h
    subst ea
    exact ⟨v, r, bs, cs, e, Own.mono d ⟨m.1, fun b hb => m.2 b (List.mem_append_left _ hb)⟩ h1, Owns.mono ds ⟨m.1, fun b hb => m.2 b (List.mem_append_right _ hb)⟩ h2, rfl⟩
end
mutual
/-- frozen: nothing of it is owned any more -/
theorem Own.frz : ∀ (d : D) {v : V} {as : List Addr}, Mono P H P' H → (∀ a ∈ as, ¬ P' a) → Own K P H d v as → Rep K P' H d.frz v
  | .own ds, v, as, m, n, h => by
    unfold Own at h; unfold D.frz Rep
    obtain ⟨a, vs, bs, e, q, r, ea⟩ := h
    subst ea
    exact ⟨a, vs, e, ⟨q, n a (List.mem_cons_self ..)⟩, Owns.frz ds m (fun b hb => n b (List.mem_cons_of_mem _ hb)) r⟩
  | .non, v, as, m, n, h => by unfold Own at h; unfold D.frz; exact Rep.mono m _ h.1
  | .bl _, v, as, m, n, h => by unfold Own at h; unfold D.frz; exact Rep.mono m _ h.1
  | .int _, v, as, m, n, h => by unfold Own at h; unfold D.frz; exact Rep.mono m _ h.1
  | .str _, v, as, m, n, h => by unfold Own at h; unfold D.frz; exact Rep.mono m _ h.1
  | .raw _, v, as, m, n, h => by unfold Own at h; unfold D.frz; exact Rep.mono m _ h.1
  | .dic, v, as, m, n, h => by unfold Own at h; unfold D.frz; exact Rep.mono m _ h.1
  | .dct _, v, as, m, n, h => by unfold Own at h; unfold D.frz; exact Rep.mono m _ h.1
  | .odc _, v, as, m, n, h => by
    unfold Own at h; unfold D.frz Rep
    obtain ⟨a, e, q, ea⟩ := h
    subst ea
    exact ⟨a, e, q, n a (List.mem_cons_self ..)⟩
  | .odp _, v, as, m, n, h => by
    unfold Own at h; unfold D.frz Rep
    obtain ⟨a, e, q, ea⟩ := h
    exact ⟨a, e, trivial⟩
  | .dsk _ _, v, as, m, n, h => by
    unfold Own at h; unfold D.frz Rep
    obtain ⟨a, _, _, _, _, e, _⟩ := h
    exact ⟨a, e, trivial⟩
  | .odt _, v, as, m, n, h => by
    unfold Own at h; unfold D.frz Rep
    obtain ⟨a, e, q, ea⟩ := h
    exact ⟨a, e, trivial⟩
  | .odu _, v, as, m, n, h => by
    unfold Own at h; unfold D.frz Rep
    obtain ⟨a, e, q, ea⟩ := h
    exact ⟨a, e, trivial⟩
  | .odn _, v, as, m, n, h => by
    unfold Own at h; unfold D.frz Rep
    obtain ⟨a, e, q, ea⟩ := h
    exact ⟨a, e, trivial⟩
  | .tup ds, v, as, m, n, h => by unfold Own at h; exact Rep.frz (.tup ds) (Rep.mono m _ h.1)
  | .lst ds, v, as, m, n, h => by unfold Own at h; exact Rep.frz (.lst ds) (Rep.mono m _ h.1)
  | .cst ds, v, as, m, n, h => by unfold Own at h; exact Rep.frz (.cst ds) (Rep.mono m _ h.1)
  | .clo f F ex fr ws cs, v, as, m, n, h => by unfold Own at h; exact Rep.frz (.clo f F ex fr ws cs) (Rep.mono m _ h.1)
  | .ownA b ds, v, as, m, n, h => by
    unfold Own at h; unfold D.frz Rep
    obtain ⟨vs, e, q, r, ea⟩ := h
    subst ea
    exact ⟨b, vs, e, ⟨q, n b (List.mem_cons_self ..)⟩, Reps.frz ds (Reps.mono m ds r)⟩
  | .cob f F ex fr ws b cs ds, v, as, m, n, h => by
    unfold Own at h; unfold D.frz Rep
    obtain ⟨ws2, vs, e, ⟨pm, ctv, q⟩, c, l, ew, qb, r, rc, ea⟩ := h
    subst ea ew
    refine ⟨e, ⟨pm, ctv, m.2 _ _ _ q⟩, m.1 _ _ c.1 c.2, l.mono m.2, ?_⟩
    unfold Reps
    refine ⟨_, _, rfl, ?_, Reps.frz cs (Reps.mono m cs rc)⟩
    unfold Rep
    exact ⟨b, vs, rfl, ⟨qb, n b (List.mem_cons_self ..)⟩, Reps.frz ds (Reps.mono m ds r)⟩
theorem Owns.frz : ∀ (ds : List D) {vs : List V} {as : List Addr}, Mono P H P' H → (∀ a ∈ as, ¬ P' a) → Owns K P H ds vs as → Reps K P' H (frzs ds) vs
  | [], _, _, m, n, h => by unfold Owns at h; unfold frzs Reps; exact h.1
  | d :: ds, _, _, m, n, h => by
    unfold Owns at h; unfold frzs Reps
    obtain ⟨v, r, bs, cs, e, h1, h2, ea⟩ := h
    subst ea
    exact ⟨v, r, e, Own.frz d m (fun b hb => n b (List.mem_append_left _ hb)) h1, Owns.frz ds m (fun b hb => n b (List.mem_append_right _ hb)) h2⟩
theorem Rep.frz : ∀ (d : D) {v : V}, Rep K P' H d v → Rep K P' H d.frz v
  | .own _, _, h => by unfold Rep at h; exact h.elim
  | .non, _, h => by unfold D.frz; exact h
  | .bl _, _, h => by unfold D.frz; exact h
  | .int _, _, h => by unfold D.frz; exact h
  | .str _, _, h => by unfold D.frz; exact h
  | .raw _, _, h => by unfold D.frz; exact h
  | .dic, _, h => by unfold D.frz; exact h
  | .dct _, _, h => by unfold D.frz; exact h
  | .odc _, _, h => by unfold Rep at h; exact h.elim
  | .odt _, _, h => by unfold Rep at h; exact h.elim
  | .odu _, _, h => by unfold Rep at h; exact h.elim
  | .odn _, _, h => by unfold Rep at h; exact h.elim
  | .odp _, _, h => by unfold Rep at h; exact h.elim
  | .dsk _ _, _, h => by unfold Rep at h; exact h.elim
  | .tup ds, _, h => by
    unfold Rep at h; unfold D.frz Rep
    obtain ⟨a, vs, e, q, r⟩ := h
    exact ⟨a, vs, e, q, Reps.frz ds r⟩
  | .lst ds, _, h => by
    unfold Rep at h; unfold D.frz Rep
    obtain ⟨a, vs, e, q, r⟩ := h
    exact ⟨a, vs, e, q, Reps.frz ds r⟩
  | .cst ds, _, h => by
    unfold Rep at h; unfold D.frz Rep
    obtain ⟨a, vs, e, q, r⟩ := h
    exact ⟨a, vs, e, q, Reps.frz ds r⟩
  | .clo f F ex fr ws cs, _, h => by
    unfold Rep at h; unfold D.frz Rep
    obtain ⟨e, q, c, l, r⟩ := h
    exact ⟨e, q, c, l, Reps.frz cs r⟩
  | .ownA _ _, _, h => by unfold Rep at h; exact h.elim
  | .cob _ _ _ _ _ _ _ _, _, h => by unfold Rep at h; exact h.elim
theorem Reps.frz : ∀ (ds : List D) {vs : List V}, Reps K P' H ds vs → Reps K P' H (frzs ds) vs
  | [], _, h => by unfold frzs; exact h
  | d :: ds, _, h => by
    unfold Reps at h; unfold frzs Reps
    obtain ⟨v, r, e, h1, h2⟩ := h
    exact ⟨v, r, e, Rep.frz d h1, Reps.frz ds h2⟩
end
end
end Mi

namespace Mi
open PySem PySem.Spec PyProof.Rows L2
variable [TabsC]

abbrev Env := List (Option D)
abbrev St := L2.St
abbrev inX (X : Addr → Prop) (l : List Addr) : Addr → Prop := fun a => a ∈ l ∨ X a
def Cells (K : PySem.W.Frag) (P : Addr → Prop) (H : Hp) : Env → St → List Addr → Prop
  | [], s, as => s = [] ∧ as = []
  | none :: e, s, as => ∃ x r, s = x :: r ∧ Cells K P H e r as
  | some d :: e, s, as => ∃ v r bs cs, s = some v :: r ∧ Own K P H d v bs ∧ Cells K P H e r cs ∧ as = bs ++ cs

section
variable {K : PySem.W.Frag} {P P' : Addr → Prop} {H H' : Hp}
mutual
theorem Own.there : ∀ (d : D) {v : V} {as : List Addr}, Own K P H d v as → ∀ a ∈ as, ∃ vs, H a = some vs ∧ ∀ xs, vs ≠ .tup xs
  | .own ds, v, as, h, a, ha => by
    unfold Own at h
    obtain ⟨b, vs, bs, e, q, r, ea⟩ := h
    subst ea
    rcases List.mem_cons.mp ha with z | z
    · subst z; exact ⟨.lst vs, q, fun _ z => nomatch z⟩
    · exact Owns.there ds r a z
  | .non, v, as, h, a, ha => by unfold Own at h; rw [h.2] at ha; cases ha
  | .bl _, v, as, h, a, ha => by unfold Own at h; rw [h.2] at ha; cases ha
  | .int _, v, as, h, a, ha => by unfold Own at h; rw [h.2] at ha; cases ha
  | .str _, v, as, h, a, ha => by unfold Own at h; rw [h.2] at ha; cases ha
  | .raw _, v, as, h, a, ha => by unfold Own at h; rw [h.2] at ha; cases ha
  | .dic, v, as, h, a, ha => by unfold Own at h; rw [h.2] at ha; cases ha
  | .dct _, v, as, h, a, ha => by unfold Own at h; rw [h.2] at ha; cases ha
  | .odc _, v, as, h, a, ha => by
    unfold Own at h
    obtain ⟨b, e, q, ea⟩ := h
    subst ea
    obtain rfl := List.mem_singleton.mp ha
    exact ⟨_, q, fun _ z => nomatch z⟩
  | .odp _, v, as, h, a, ha => by
    unfold Own at h
    obtain ⟨b, e, q, ea⟩ := h
    subst ea
    obtain rfl := List.mem_singleton.mp ha
    exact ⟨_, q, fun _ z => nomatch z⟩
  | .dsk _ _, v, as, h, a, ha => by
    unfold Own at h
    obtain ⟨b, dx, p, vw, vs, e, q1, q2, q3, _, _, ea⟩ := h
    subst ea
    simp only [List.mem_cons, List.not_mem_nil, or_false] at ha
    rcases ha with rfl | rfl | rfl
    · exact ⟨_, q1, fun _ z => nomatch z⟩
    · exact ⟨_, q2, fun _ z => nomatch z⟩
    · exact ⟨_, q3, fun _ z => nomatch z⟩
  | .odt _, v, as, h, a, ha => by
    unfold Own at h
    obtain ⟨b, e, ⟨qs, e1, q, t⟩, ea⟩ := h
    subst ea
    obtain rfl := List.mem_singleton.mp ha
    exact ⟨_, q, fun _ z => nomatch z⟩
  | .odu _, v, as, h, a, ha => by
    unfold Own at h
    obtain ⟨b, e, ⟨qs, e1, q, t⟩, ea⟩ := h
    subst ea
    obtain rfl := List.mem_singleton.mp ha
    exact ⟨_, q, fun _ z => nomatch z⟩
  | .odn _, v, as, h, a, ha => by
    unfold Own at h
    obtain ⟨b, e, ⟨qs, e1, q, t⟩, ea⟩ := h
    subst ea
    obtain rfl := List.mem_singleton.mp ha
    exact ⟨_, q, fun _ z => nomatch z⟩
  | .tup _, v, as, h, a, ha => by unfold Own at h; rw [h.2] at ha; cases ha
  | .lst _, v, as, h, a, ha => by unfold Own at h; rw [h.2] at ha; cases ha
  | .cst _, v, as, h, a, ha => by unfold Own at h; rw [h.2] at ha; cases ha
  | .clo _ _ _ _ _ _, v, as, h, a, ha => by unfold Own at h; rw [h.2] at ha; cases ha
  | .ownA _ _, v, as, h, a, ha => by
    unfold Own at h
    obtain ⟨vs, e, q, r, ea⟩ := h
    subst ea
    obtain rfl := List.mem_singleton.mp ha
    exact ⟨_, q, fun _ z => nomatch z⟩
  | .cob _ _ _ _ _ _ _ _, v, as, h, a, ha => by
    unfold Own at h
    obtain ⟨ws2, vs, e, _, _, _, _, q, _, _, ea⟩ := h
    subst ea
    obtain rfl := List.mem_singleton.mp ha
    exact ⟨_, q, fun _ z => nomatch z⟩
theorem Owns.there : ∀ (ds : List D) {vs : List V} {as : List Addr}, Owns K P H ds vs as → ∀ a ∈ as, ∃ vs, H a = some vs ∧ ∀ xs, vs ≠ .tup xs
  | [], _, _, h, a, ha => by unfold Owns at h; rw [h.2] at ha; cases ha
  | d :: ds, _, _, h, a, ha => by
    unfold Owns at h
    obtain ⟨v, r, bs, cs, e, h1, h2, ea⟩ := h
    subst ea
    rcases List.mem_append.mp ha with z | z
    · exact Own.there d h1 a z
    · exact Owns.there ds h2 a z
end
theorem Cells.there : ∀ (e : Env) {s : St} {as : List Addr}, Cells K P H e s as → ∀ a ∈ as, ∃ vs, H a = some vs ∧ ∀ xs, vs ≠ .tup xs
  | [], _, _, h, a, ha => by unfold Cells at h; rw [h.2] at ha; cases ha
  | none :: e, _, _, h, a, ha => by
    unfold Cells at h
    obtain ⟨x, r, e1, h⟩ := h
    exact Cells.there e h a ha
  | some d :: e, _, _, h, a, ha => by
    unfold Cells at h
    obtain ⟨v, r, bs, cs, e1, h1, h2, ea⟩ := h
    subst ea
    rcases List.mem_append.mp ha with z | z
    · exact Own.there d h1 a z
    · exact Cells.there e h2 a z
theorem Cells.mono : ∀ (e : Env) {s : St} {as : List Addr}, MonoO as P H P' H' → Cells K P H e s as → Cells K P' H' e s as
  | [], _, _, m, h => by unfold Cells at h ⊢; exact h
  | none :: e, _, _, m, h => by
    unfold Cells at h ⊢
    obtain ⟨x, r, e1, h⟩ := h
    exact ⟨x, r, e1, Cells.mono e m h⟩
  | some d :: e, _, _, m, h => by
    unfold Cells at h ⊢
    obtain ⟨v, r, bs, cs, e1, h1, h2, ea⟩ := h
    subst ea
    exact ⟨v, r, bs, cs, e1, Own.mono d ⟨m.1, fun b hb => m.2 b (List.mem_append_left _ hb)⟩ h1, Cells.mono e ⟨m.1, fun b hb => m.2 b (List.mem_append_right _ hb)⟩ h2, rfl⟩
theorem Cells.length : ∀ (e : Env) {s : St} {as : List Addr}, Cells K P H e s as → s.length = e.length
  | [], _, _, h => by unfold Cells at h; rw [h.1]; rfl
  | none :: e, _, _, h => by
    unfold Cells at h
    obtain ⟨x, r, e1, h⟩ := h
    rw [e1, List.length_cons, List.length_cons, Cells.length e h]
  | some d :: e, _, _, h => by
    unfold Cells at h
    obtain ⟨v, r, bs, cs, e1, h1, h2, ea⟩ := h
    rw [e1, List.length_cons, List.length_cons, Cells.length e h2]
theorem Cells.focus : ∀ (e : Env) (i : Nat) {d : D} {s : St} {as : List Addr}, Cells K P H e s as → e[i]? = some (some d) →
    ∃ v pre bs post, s[i]? = some (some v) ∧ Own K P H d v bs ∧ as = pre ++ bs ++ post ∧
      (∀ (P' : Addr → Prop) (H' : Hp), Mono P H P' H' → (∀ a ∈ pre ++ post, H' a = H a) →
        Cells K P' H' (e.set i none) s (pre ++ post) ∧ (∀ d' v' bs', Own K P' H' d' v' bs' → Cells K P' H' (e.set i (some d')) (s.set i (some v')) (pre ++ bs' ++ post)))
  | [], i, d, s, as, h, hi => by simp at hi
  | none :: e, 0, d, s, as, h, hi => by simp at hi
  | none :: e, i + 1, d, s, as, h, hi => by
    unfold Cells at h
    obtain ⟨x, r, e1, h⟩ := h
    subst e1
    obtain ⟨v, pre, bs, post, h1, h2, h3, h4⟩ := Cells.focus e i h (by simpa using hi)
    refine ⟨v, pre, bs, post, by simpa using h1, h2, h3, fun P' H' m k => ?_⟩
    obtain ⟨q1, q2⟩ := h4 P' H' m k
    refine ⟨?_, fun d' v' bs' o => ?_⟩
    · rw [List.set_cons_succ]; unfold Cells; exact ⟨x, r, rfl, q1⟩
    · rw [List.set_cons_succ, List.set_cons_succ]; unfold Cells; exact ⟨x, _, rfl, q2 d' v' bs' o⟩
  | some d0 :: e, 0, d, s, as, h, hi => by
    unfold Cells at h
    obtain ⟨v, r, bs, cs, e1, h1, h2, ea⟩ := h
    subst e1 ea
    have e2 : d0 = d := by simpa using hi
    subst e2
    refine ⟨v, [], bs, cs, by simp, h1, by simp, fun P' H' m k => ⟨?_, fun d' v' bs' o => ?_⟩⟩
    · rw [List.set_cons_zero]; unfold Cells; exact ⟨some v, r, rfl, Cells.mono e ⟨m, fun a ha => k a (by simpa using ha)⟩ h2⟩
    · rw [List.set_cons_zero, List.set_cons_zero]; unfold Cells; exact ⟨v', r, bs', cs, rfl, o, Cells.mono e ⟨m, fun a ha => k a (by simpa using ha)⟩ h2, by simp⟩
  | some d0 :: e, i + 1, d, s, as, h, hi => by
    unfold Cells at h
    obtain ⟨v0, r, b0, cs, e1, h0, h, ea⟩ := h
    subst e1 ea
    obtain ⟨v, pre, bs, post, h1, h2, h3, h4⟩ := Cells.focus e i h (by simpa using hi)
    subst h3
    refine ⟨v, b0 ++ pre, bs, post, by simpa using h1, h2, by simp [List.append_assoc], fun P' H' m k => ?_⟩
    have k0 : ∀ a ∈ b0, H' a = H a := fun a ha => k a (by simp [ha])
    obtain ⟨q1, q2⟩ := h4 P' H' m fun a ha => k a (by rw [List.append_assoc]; exact List.mem_append_right _ ha)
    have o0 := Own.mono d0 ⟨m, k0⟩ h0
    refine ⟨?_, fun d' v' bs' o => ?_⟩
    · rw [List.set_cons_succ]; unfold Cells; exact ⟨v0, r, b0, pre ++ post, rfl, o0, q1, by simp [List.append_assoc]⟩
    · rw [List.set_cons_succ, List.set_cons_succ]; unfold Cells; exact ⟨v0, _, b0, pre ++ bs' ++ post, rfl, o0, q2 d' v' bs' o, by simp [List.append_assoc]⟩
theorem Cells.put : ∀ (e : Env) (i : Nat) {s : St} {as : List Addr}, Cells K P H e s as → i < e.length →
    ∃ bs, (∀ a ∈ bs, a ∈ as) ∧ (as.Nodup → bs.Nodup) ∧ Cells K P H (e.set i none) s bs ∧ ∀ (P' : Addr → Prop) (H' : Hp), Mono P H P' H' → (∀ a ∈ bs, H' a = H a) →
      ∀ d' v' bs', Own K P' H' d' v' bs' → ∃ cs, (∀ a, a ∈ cs ↔ a ∈ bs ∨ a ∈ bs') ∧ ((bs ++ bs').Nodup → cs.Nodup) ∧ Cells K P' H' (e.set i (some d')) (s.set i (some v')) cs
  | [], i, s, as, h, hi => by simp at hi
  | none :: e, 0, s, as, h, hi => by
    unfold Cells at h
    obtain ⟨x, r, e1, h⟩ := h
    subst e1
    refine ⟨as, fun _ z => z, fun z => z, ?_, fun P' H' m k d' v' bs' o => ⟨bs' ++ as, fun a => by simp [or_comm], fun z => (List.perm_append_comm.nodup_iff).mp z, ?_⟩⟩
    · rw [List.set_cons_zero]; unfold Cells; exact ⟨x, r, rfl, h⟩
    · rw [List.set_cons_zero, List.set_cons_zero]; unfold Cells; exact ⟨v', r, bs', as, rfl, o, Cells.mono e ⟨m, k⟩ h, rfl⟩
  | some d0 :: e, 0, s, as, h, hi => by
    unfold Cells at h
    obtain ⟨v, r, b0, cs, e1, h1, h2, ea⟩ := h
    subst e1 ea
    refine ⟨cs, fun a z => List.mem_append_right _ z, fun z => (List.nodup_append.mp z).2.1, ?_, fun P' H' m k d' v' bs' o => ⟨bs' ++ cs, fun a => by simp [or_comm], fun z => (List.perm_append_comm.nodup_iff).mp z, ?_⟩⟩
    · rw [List.set_cons_zero]; unfold Cells; exact ⟨some v, r, rfl, h2⟩
    · rw [List.set_cons_zero, List.set_cons_zero]; unfold Cells; exact ⟨v', r, bs', cs, rfl, o, Cells.mono e ⟨m, k⟩ h2, rfl⟩
  | none :: e, i + 1, s, as, h, hi => by
    unfold Cells at h
    obtain ⟨x, r, e1, h⟩ := h
    subst e1
    obtain ⟨bs, s1, s2, q, g⟩ := Cells.put e i h (by simpa using hi)
    refine ⟨bs, s1, s2, ?_, fun P' H' m k d' v' bs' o => ?_⟩
    · rw [List.set_cons_succ]; unfold Cells; exact ⟨x, r, rfl, q⟩
    · obtain ⟨cs, c1, c2, c3⟩ := g P' H' m k d' v' bs' o
      refine ⟨cs, c1, c2, ?_⟩
      rw [List.set_cons_succ, List.set_cons_succ]; unfold Cells; exact ⟨x, _, rfl, c3⟩
  | some d0 :: e, i + 1, s, as, h, hi => by
    unfold Cells at h
    obtain ⟨v0, r, b0, cs0, e1, h0, h, ea⟩ := h
    subst e1 ea
    obtain ⟨bs, s1, s2, q, g⟩ := Cells.put e i h (by simpa using hi)
    refine ⟨b0 ++ bs, fun a z => ?_, fun z => ?_, ?_, fun P' H' m k d' v' bs' o => ?_⟩
    · rcases List.mem_append.mp z with z | z
      · exact List.mem_append_left _ z
      · exact List.mem_append_right _ (s1 a z)
    · obtain ⟨n1, n2, n3⟩ := List.nodup_append.mp z
      exact List.nodup_append.mpr ⟨n1, s2 n2, fun a ha b hb => n3 a ha b (s1 b hb)⟩
    · rw [List.set_cons_succ]; unfold Cells; exact ⟨v0, r, b0, bs, rfl, h0, q, rfl⟩
    · obtain ⟨cs, c1, c2, c3⟩ := g P' H' m (fun a ha => k a (List.mem_append_right _ ha)) d' v' bs' o
      refine ⟨b0 ++ cs, fun a => by simp [c1, or_assoc], fun z => ?_, ?_⟩
      · rw [List.append_assoc] at z
        obtain ⟨n1, n2, n3⟩ := List.nodup_append.mp z
        exact List.nodup_append.mpr ⟨n1, c2 n2, fun a ha b hb => n3 a ha b (by rw [c1] at hb; simpa using hb)⟩
      · rw [List.set_cons_succ, List.set_cons_succ]; unfold Cells
        exact ⟨v0, _, b0, cs, rfl, Own.mono d0 ⟨m, fun a ha => k a (List.mem_append_left _ ha)⟩ h0, c3, rfl⟩
end

def Rel (K : PySem.W.Frag) (X : Addr → Prop) (H0 : Hp) (io : List (Nat × Addr)) (T : List D) (t : List V) (e : Env) (s : St) (H : Hp) : Prop :=
  ∃ as bs, Owns K (inX X (as ++ bs)) H T t as ∧ Cells K (inX X (as ++ bs)) H e s bs ∧ (as ++ bs).Nodup ∧ (∀ a ∈ as ++ bs, H0 a = none ∨ a ∈ io.map (·.2)) ∧
    Kept X io H0 H ∧ (∀ p ∈ io, p.1 = 0 → s[p.1]? = some (some (V.ref p.2))) ∧ ∀ a, X a → (∃ o, H0 a = some o ∧ ∀ xs, o ≠ .tup xs) ∧ a ∉ io.map (·.2)

section
variable {K : PySem.W.Frag} {X : Addr → Prop} {H0 H H' : Hp} {io : List (Nat × Addr)} {T : List D} {t : List V} {e : Env} {s : St} {d : D} {v : V}
theorem mono_sub {as bs : List Addr} (h : ∀ a ∈ bs, a ∈ as) : Mono (inX X as) H (inX X bs) H := ⟨fun a o e n => ⟨e, fun z => n (z.imp (h a) id)⟩, fun a o u e => e⟩
theorem mono_iff {as bs : List Addr} (h : ∀ a, a ∈ bs ↔ a ∈ as) : Mono (inX X as) H (inX X bs) H := mono_sub fun a => (h a).mp
theorem mono_same {P : Addr → Prop} (h : Same H H') : Mono P H P H' := ⟨fun a o e n => ⟨h a o e, n⟩, fun a o u e => h a _ e⟩
theorem mono_new {as bs : List Addr} {p : Addr} {u : HO} (hp : H p = none) (h : ∀ a ∈ bs, a = p ∨ a ∈ as) : Mono (inX X as) H (inX X bs) (upd H p u) :=
  ⟨fun a o e n => ⟨by rw [upd_ne (ne_of_none e hp)]; exact e, fun z => z.elim (fun z => (h a z).elim (ne_of_none e hp) fun y => n (.inl y)) fun z => n (.inr z)⟩, fun a o u e => by rw [upd_ne (ne_of_none e hp)]; exact e⟩
theorem same_new {p : Addr} {u : HO} (hp : H p = none) : Same H (upd H p u) := fun b x e => by rw [upd_ne (ne_of_none e hp)]; exact e
theorem noX {X : Addr → Prop} {as : List Addr} (h4 : ∀ a ∈ as, H0 a = none ∨ a ∈ io.map (·.2)) (h6 : ∀ a, X a → (∃ o, H0 a = some o ∧ ∀ xs, o ≠ .tup xs) ∧ a ∉ io.map (·.2)) : ∀ a ∈ as, ¬ X a := fun a ha x => by
  obtain ⟨⟨o, e, _⟩, n⟩ := h6 a x
  rcases h4 a ha with z | z
  · rw [e] at z; cases z
  · exact n z
theorem Rel.len (r : Rel K X H0 io T t e s H) : s.length = e.length := by
  obtain ⟨as, bs, h1, h2, _⟩ := r
  exact Cells.length e h2
theorem Rel.same (r : Rel K X H0 io T t e s H) (h : Same H H') : Rel K X H0 io T t e s H' := by
  obtain ⟨as, bs, h1, h2, h3, h4, h5, h6⟩ := r
  refine ⟨as, bs, Owns.mono T ⟨mono_same h, fun a ha => ?_⟩ h1, Cells.mono e ⟨mono_same h, fun a ha => ?_⟩ h2, h3, h4, h5.same h, h6⟩
  · obtain ⟨vs, q, _⟩ := Owns.there T h1 a ha; rw [q, h a _ q]
  · obtain ⟨vs, q, _⟩ := Cells.there e h2 a ha; rw [q, h a _ q]
theorem Rel.tabs (r : Rel K X H0 io T t e s H) : TabsOk H := let ⟨_, _, _, _, _, _, h5, _⟩ := r; h5.tabs
theorem Rel.sameT (r : Rel K X H0 io T t e s H) (h : SameT H H') : Rel K X H0 io T t e s H' := by
  obtain ⟨as, bs, h1, h2, h3, h4, h5, h6⟩ := r
  have m : Mono (inX X (as ++ bs)) H (inX X (as ++ bs)) H' := ⟨fun a o e n => ⟨h.1 a o e fun t => n (.inr (h5.tx a t)), n⟩, fun a o u e => h.1 a _ e (tab_no h5.tabs e fun _ z => nomatch z)⟩
  refine ⟨as, bs, Owns.mono T ⟨m, fun a ha => ?_⟩ h1, Cells.mono e ⟨m, fun a ha => ?_⟩ h2, h3, h4, h5.then h, h6⟩
  · obtain ⟨vs, q, _⟩ := Owns.there T h1 a ha; rw [q, h.1 a _ q fun t => noX h4 h6.2 a (List.mem_append_left _ ha) (h5.tx a t)]
  · obtain ⟨vs, q, _⟩ := Cells.there e h2 a ha; rw [q, h.1 a _ q fun t => noX h4 h6.2 a (List.mem_append_right _ ha) (h5.tx a t)]
theorem Rel.new {p : Addr} {u : HO} (r : Rel K X H0 io T t e s H) (hp : H p = none) : Rel K X H0 io T t e s (upd H p u) := r.same (same_new hp)
theorem Rel.pop (r : Rel K X H0 io (d :: T) (v :: t) e s H) : Rel K X H0 io T t e s H := by
  obtain ⟨as, bs, h1, h2, h3, h4, h5, h6⟩ := r
  unfold Owns at h1
  obtain ⟨v', r', b1, c1, e1, o1, o2, ea⟩ := h1
  cases e1; subst ea
  have sub : ∀ a ∈ c1 ++ bs, a ∈ b1 ++ c1 ++ bs := fun a ha => by rw [List.append_assoc]; exact List.mem_append_right _ ha
  refine ⟨c1, bs, Owns.mono T ⟨mono_sub sub, fun _ _ => rfl⟩ o2, Cells.mono e ⟨mono_sub sub, fun _ _ => rfl⟩ h2, ?_, fun a ha => h4 a (sub a ha), h5, h6⟩
  rw [List.append_assoc] at h3
  exact (List.nodup_append.mp h3).2.1
theorem Rel.pushR (r : Rel K X H0 io T t e s H) (h : ∀ P, Rep K P H d v) : Rel K X H0 io (d :: T) (v :: t) e s H := by
  obtain ⟨as, bs, h1, h2, h3, h4, h5, h6⟩ := r
  refine ⟨as, bs, ?_, h2, h3, h4, h5, h6⟩
  unfold Owns
  exact ⟨v, t, [], as, rfl, Own.of (h _), h1, rfl⟩
theorem Rel.int (r : Rel K X H0 io T t e s H) {i : Int} : Rel K X H0 io (.int i :: T) (V.int i :: t) e s H := r.pushR fun P => by unfold Rep; rfl
theorem Rel.bl (r : Rel K X H0 io T t e s H) {i : Bool} : Rel K X H0 io (.bl i :: T) (V.bl i :: t) e s H := r.pushR fun P => by unfold Rep; rfl
theorem Rel.str (r : Rel K X H0 io T t e s H) {i : Str} : Rel K X H0 io (.str i :: T) (V.str i :: t) e s H := r.pushR fun P => by unfold Rep; rfl
theorem Rel.non (r : Rel K X H0 io T t e s H) : Rel K X H0 io (.non :: T) (V.non :: t) e s H := r.pushR fun P => by unfold Rep; rfl
theorem Rel.raw (r : Rel K X H0 io T t e s H) {u : V} : Rel K X H0 io (.raw u :: T) (u :: t) e s H := r.pushR fun P => by unfold Rep; rfl
theorem Rel.top (r : Rel K X H0 io (d :: T) (v :: t) e s H) : ∃ P as, Own K P H d v as := by
  obtain ⟨as, bs, h1, _⟩ := r
  unfold Owns at h1
  obtain ⟨v', r', b1, c1, e1, o1, o2, ea⟩ := h1
  cases e1
  exact ⟨_, _, o1⟩
theorem Rel.isInt {i : Int} (r : Rel K X H0 io (.int i :: T) (v :: t) e s H) : v = .int i := by
  obtain ⟨P, as, h⟩ := r.top; unfold Own Rep at h; exact h.1
theorem Rel.isBl {i : Bool} (r : Rel K X H0 io (.bl i :: T) (v :: t) e s H) : v = .bl i := by
  obtain ⟨P, as, h⟩ := r.top; unfold Own Rep at h; exact h.1
theorem Rel.isStr {i : Str} (r : Rel K X H0 io (.str i :: T) (v :: t) e s H) : v = .str i := by
  obtain ⟨P, as, h⟩ := r.top; unfold Own Rep at h; exact h.1
theorem Rel.isRaw {u : V} (r : Rel K X H0 io (.raw u :: T) (v :: t) e s H) : v = u := by
  obtain ⟨P, as, h⟩ := r.top; unfold Own Rep at h; exact h.1
theorem Rel.frz (r : Rel K X H0 io (d :: T) (v :: t) e s H) : Rel K X H0 io (d.frz :: T) (v :: t) e s H := by
  obtain ⟨as, bs, h1, h2, h3, h4, h5, h6⟩ := r
  unfold Owns at h1
  obtain ⟨v', r', b1, c1, e1, o1, o2, ea⟩ := h1
  cases e1; subst ea
  have sub : ∀ a ∈ c1 ++ bs, a ∈ b1 ++ c1 ++ bs := fun a ha => by rw [List.append_assoc]; exact List.mem_append_right _ ha
  rw [List.append_assoc] at h3
  obtain ⟨n1, n2, n3⟩ := List.nodup_append.mp h3
  refine ⟨c1, bs, ?_, Cells.mono e ⟨mono_sub sub, fun _ _ => rfl⟩ h2, n2, fun a ha => h4 a (sub a ha), h5, h6⟩
  unfold Owns
  exact ⟨v, t, [], c1, rfl, Own.of (Own.frz d (mono_sub sub) (fun a ha z => z.elim (fun z => n3 a ha a z rfl) (noX h4 h6.2 a (List.mem_append_left _ (List.mem_append_left _ ha)))) o1), Owns.mono T ⟨mono_sub sub, fun _ _ => rfl⟩ o2, rfl⟩
theorem Owns.split : ∀ (A : List D) {P : Addr → Prop} {va : List V} {as : List Addr} {B : List D}, Owns K P H (A ++ B) va as → ∃ v1 v2 a1 a2, va = v1 ++ v2 ∧ as = a1 ++ a2 ∧ v1.length = A.length ∧ Owns K P H A v1 a1 ∧ Owns K P H B v2 a2
  | [], P, va, as, B, h => ⟨[], va, [], as, rfl, rfl, rfl, by unfold Owns; exact ⟨rfl, rfl⟩, h⟩
  | d :: A, P, va, as, B, h => by
    rw [List.cons_append] at h
    unfold Owns at h
    obtain ⟨v, r, bs, cs, e1, o1, o2, ea⟩ := h
    subst e1 ea
    obtain ⟨v1, v2, a1, a2, e1, e2, e3, q1, q2⟩ := Owns.split A o2
    subst e1 e2
    refine ⟨v :: v1, v2, bs ++ a1, a2, rfl, by rw [List.append_assoc], by simp [e3], ?_, q2⟩
    unfold Owns
    exact ⟨v, v1, bs, a1, rfl, o1, q1, rfl⟩
theorem Owns.join : ∀ (A : List D) {P : Addr → Prop} {v1 v2 : List V} {a1 a2 : List Addr} {B : List D}, Owns K P H A v1 a1 → Owns K P H B v2 a2 → Owns K P H (A ++ B) (v1 ++ v2) (a1 ++ a2)
  | [], P, v1, v2, a1, a2, B, h, h2 => by unfold Owns at h; rw [h.1, h.2]; exact h2
  | d :: A, P, v1, v2, a1, a2, B, h, h2 => by
    unfold Owns at h
    obtain ⟨v, r, bs, cs, e1, o1, o2, ea⟩ := h
    subst e1 ea
    rw [List.cons_append, List.cons_append, List.append_assoc]
    unfold Owns
    exact ⟨v, r ++ v2, bs, cs ++ a2, rfl, o1, Owns.join A o2 h2, rfl⟩
theorem Owns.len : ∀ (A : List D) {P : Addr → Prop} {va : List V} {as : List Addr}, Owns K P H A va as → va.length = A.length
  | [], P, va, as, h => by unfold Owns at h; rw [h.1]; rfl
  | d :: A, P, va, as, h => by
    unfold Owns at h
    obtain ⟨v, r, bs, cs, e1, o1, o2, ea⟩ := h
    rw [e1, List.length_cons, List.length_cons, Owns.len A o2]
theorem Rel.mid {A : List D} {va : List V} (hl : va.length = A.length) (r : Rel K X H0 io (A ++ d :: T) (va ++ v :: t) e s H) : Rel K X H0 io (d :: (A ++ T)) (v :: (va ++ t)) e s H := by
  obtain ⟨as, bs, h1, h2, h3, h4, h5, h6⟩ := r
  obtain ⟨v1, v2, a1, a2, e1, e2, e3, q1, q2⟩ := Owns.split A h1
  obtain ⟨e4, e5⟩ := List.append_inj e1 (by rw [hl, e3])
  subst e4 e2
  rw [← e5] at q2
  unfold Owns at q2
  obtain ⟨v', r', b1, c1, e6, o1, o2, ea⟩ := q2
  cases e6; subst ea
  have pm : (b1 ++ (a1 ++ c1) ++ bs).Perm (a1 ++ (b1 ++ c1) ++ bs) := by
    refine List.Perm.append_right _ ?_
    rw [← List.append_assoc, ← List.append_assoc]
    exact List.Perm.append_right _ List.perm_append_comm
  have sub : ∀ a ∈ b1 ++ (a1 ++ c1) ++ bs, a ∈ a1 ++ (b1 ++ c1) ++ bs := fun a ha => pm.mem_iff.mp ha
  refine ⟨b1 ++ (a1 ++ c1), bs, ?_, Cells.mono e ⟨mono_sub sub, fun _ _ => rfl⟩ h2, pm.nodup_iff.mpr h3, fun a ha => h4 a (sub a ha), h5, h6⟩
  unfold Owns
  exact ⟨v, va ++ t, b1, a1 ++ c1, rfl, Own.mono d ⟨mono_sub sub, fun _ _ => rfl⟩ o1, Owns.join A (Owns.mono A ⟨mono_sub sub, fun _ _ => rfl⟩ q1) (Owns.mono T ⟨mono_sub sub, fun _ _ => rfl⟩ o2), rfl⟩
theorem Rel.swap {d2 : D} {v2 : V} (r : Rel K X H0 io (d2 :: d :: T) (v2 :: v :: t) e s H) : Rel K X H0 io (d :: d2 :: T) (v :: v2 :: t) e s H :=
  Rel.mid (A := [d2]) (va := [v2]) rfl r
theorem Rel.list {A : List D} {va : List V} {p : Addr} (hl : va.length = A.length) (r : Rel K X H0 io (A ++ T) (va ++ t) e s H) (hp : H p = none) :
    Rel K X H0 io (.own A :: T) (V.ref p :: t) e s (upd H p (.lst va)) := by
  obtain ⟨as, bs, h1, h2, h3, h4, h5, h6⟩ := r
  obtain ⟨v1, v2, a1, a2, e1, e2, e3, q1, q2⟩ := Owns.split A h1
  obtain ⟨e4, e5⟩ := List.append_inj e1 (by rw [hl, e3])
  subst e4 e5 e2
  have hn : ∀ a ∈ a1 ++ a2 ++ bs, a ≠ p := fun a ha => by
    rcases List.mem_append.mp ha with z | z
    · obtain ⟨vs, q, _⟩ := Owns.there _ h1 a z; exact ne_of_none q hp
    · obtain ⟨vs, q, _⟩ := Cells.there _ h2 a z; exact ne_of_none q hp
  have m : Mono (inX X (a1 ++ a2 ++ bs)) H (inX X (p :: a1 ++ a2 ++ bs)) (upd H p (.lst va)) := mono_new hp fun a ha => by simpa using ha
  have st : ∀ a ∈ a1 ++ a2 ++ bs, upd H p (.lst va) a = H a := fun a ha => upd_ne (hn a ha)
  have H0p : H0 p = none := by
    cases q : H0 p with
    | none => rfl
    | some o =>
      obtain ⟨o', z⟩ := (h5 p o q).2
      rw [hp] at z; cases z
  refine ⟨p :: a1 ++ a2, bs, ?_, Cells.mono e ⟨m, fun a ha => st a (List.mem_append_right _ ha)⟩ h2, ?_, ?_, h5.same (same_new hp), h6⟩
  · unfold Owns
    refine ⟨V.ref p, t, p :: a1, a2, rfl, ?_, Owns.mono T ⟨m, fun a ha => st a (List.mem_append_left _ (List.mem_append_right _ ha))⟩ q2, rfl⟩
    unfold Own
    exact ⟨p, va, a1, rfl, upd_same, Owns.mono A ⟨m, fun a ha => st a (List.mem_append_left _ (List.mem_append_left _ ha))⟩ q1, rfl⟩
  · rw [List.cons_append, List.cons_append]
    exact List.nodup_cons.mpr ⟨fun z => hn p z rfl, h3⟩
  · intro a ha
    rw [List.cons_append, List.cons_append] at ha
    rcases List.mem_cons.mp ha with z | z
    · subst z; exact .inl H0p
    · exact h4 a z
end
end Mi

namespace Mi
open PySem PySem.Spec PyProof.Rows L2
variable [TabsC]
section
variable {K : PySem.W.Frag} {X : Addr → Prop} {H0 H H' : Hp} {io : List (Nat × Addr)} {T : List D} {t : List V} {e : Env} {s : St} {d : D} {v : V}

mutual
theorem frz_plain : ∀ (d : D), d.plain = true → d.frz = d
  | .non, _ => rfl | .bl _, _ => rfl | .int _, _ => rfl | .str _, _ => rfl | .raw _, _ => rfl | .dic, _ => rfl | .dct _, _ => rfl | .odc _, h => by unfold D.plain at h; cases h
  | .odt _, h => by unfold D.plain at h; cases h
  | .odu _, h => by unfold D.plain at h; cases h
  | .odn _, h => by unfold D.plain at h; cases h
  | .odp _, h => by unfold D.plain at h; cases h
  | .dsk _ _, h => by unfold D.plain at h; cases h
  | .tup ds, h => by unfold D.plain at h; unfold D.frz; rw [frzs_plain ds h]
  | .lst ds, h => by unfold D.plain at h; unfold D.frz; rw [frzs_plain ds h]
  | .cst ds, h => by unfold D.plain at h; unfold D.frz; rw [frzs_plain ds h]
  | .own ds, h => by unfold D.plain at h; cases h
  | .clo f F ex fr ws cs, h => by unfold D.plain at h; unfold D.frz; rw [frzs_plain cs h]
  | .ownA _ _, h => by unfold D.plain at h; cases h
  | .cob _ _ _ _ _ _ _ _, h => by unfold D.plain at h; cases h
theorem frzs_plain : ∀ (ds : List D), plains ds = true → frzs ds = ds
  | [], _ => rfl
  | d :: ds, h => by
    unfold plains at h
    rw [Bool.and_eq_true] at h
    unfold frzs; rw [frz_plain d h.1, frzs_plain ds h.2]
end
mutual
theorem plain_frz : ∀ (d : D), d.frz.plain = true
  | .non => rfl | .bl _ => rfl | .int _ => rfl | .str _ => rfl | .raw _ => rfl | .dic => rfl | .dct _ => rfl | .odc _ => rfl | .odt _ => rfl | .odu _ => rfl | .odn _ => rfl | .odp _ => rfl | .dsk _ _ => rfl
  | .tup ds => by unfold D.frz D.plain; exact plains_frz ds
  | .lst ds => by unfold D.frz D.plain; exact plains_frz ds
  | .cst ds => by unfold D.frz D.plain; exact plains_frz ds
  | .own ds => by unfold D.frz D.plain; exact plains_frz ds
  | .clo f F ex fr ws cs => by unfold D.frz D.plain; exact plains_frz cs
  | .ownA _ ds => by unfold D.frz D.plain; exact plains_frz ds
  | .cob f F ex fr ws b cs ds => by unfold D.frz D.plain plains D.plain; rw [plains_frz ds, plains_frz cs]; rfl
theorem plains_frz : ∀ (ds : List D), plains (frzs ds) = true
  | [] => rfl
  | d :: ds => by unfold frzs plains; rw [plain_frz d, plains_frz ds]; rfl
end
theorem frzs_length : ∀ (ds : List D), (frzs ds).length = ds.length
  | [] => rfl
  | d :: ds => by unfold frzs; rw [List.length_cons, List.length_cons, frzs_length ds]
theorem Own.plain {P : Addr → Prop} {as : List Addr} (h : Own K P H d v as) (p : d.plain = true) : Rep K P H d v ∧ as = [] :=
  h.rep (fun ds e => by subst e; unfold D.plain at p; cases p) (fun ds e => by subst e; unfold D.plain at p; cases p) (fun _ _ e => by subst e; unfold D.plain at p; cases p) (fun _ _ _ _ _ _ _ _ e => by subst e; unfold D.plain at p; cases p) (fun _ e => by subst e; unfold D.plain at p; cases p) (fun _ e => by subst e; unfold D.plain at p; cases p) (fun _ e => by subst e; unfold D.plain at p; cases p) (fun _ e => by subst e; unfold D.plain at p; cases p) (fun _ _ e => by subst e; unfold D.plain at p; cases p)
theorem Reps.len {P : Addr → Prop} : ∀ {ds : List D} {vs : List V}, Reps K P H ds vs → vs.length = ds.length
  | [], vs, h => by unfold Reps at h; rw [h]; rfl
  | d :: ds, vs, h => by
    unfold Reps at h
    obtain ⟨v, r, e, h1, h2⟩ := h
    rw [e, List.length_cons, List.length_cons, Reps.len h2]
theorem Reps.get {P : Addr → Prop} : ∀ {ds : List D} {vs : List V} {i : Nat} {d : D}, Reps K P H ds vs → ds[i]? = some d → ∃ v, vs[i]? = some v ∧ Rep K P H d v
  | [], vs, i, d, h, e => by simp at e
  | x :: ds, vs, 0, d, h, e => by
    unfold Reps at h
    obtain ⟨v, r, e1, h1, h2⟩ := h
    simp at e; subst e e1
    exact ⟨v, by simp, h1⟩
  | x :: ds, vs, i + 1, d, h, e => by
    unfold Reps at h
    obtain ⟨v, r, e1, h1, h2⟩ := h
    obtain ⟨w, q, q2⟩ := Reps.get (i := i) h2 (by simpa using e)
    subst e1
    exact ⟨w, by simpa using q, q2⟩
theorem Owns.reps {P : Addr → Prop} : ∀ {ds : List D} {vs : List V} {as : List Addr}, plains ds = true → Owns K P H ds vs as → Reps K P H ds vs ∧ as = []
  | [], vs, as, _, h => by unfold Owns at h; unfold Reps; exact h
  | d :: ds, vs, as, p, h => by
    unfold plains at p; rw [Bool.and_eq_true] at p
    unfold Owns at h; unfold Reps
    obtain ⟨v, r, bs, cs, e, h1, h2, ea⟩ := h
    obtain ⟨q1, q2⟩ := h1.plain p.1
    obtain ⟨q3, q4⟩ := Owns.reps p.2 h2
    exact ⟨⟨v, r, e, q1, q3⟩, by rw [ea, q2, q4]; rfl⟩
theorem Owns.of {P : Addr → Prop} : ∀ {ds : List D} {vs : List V}, Reps K P H ds vs → Owns K P H ds vs []
  | [], vs, h => by unfold Reps at h; unfold Owns; exact ⟨h, rfl⟩
  | d :: ds, vs, h => by
    unfold Reps at h; unfold Owns
    obtain ⟨v, r, e, h1, h2⟩ := h
    exact ⟨v, r, [], [], e, Own.of h1, Owns.of h2, rfl⟩
theorem Owns.at {P : Addr → Prop} : ∀ {ds : List D} {vs : List V} {as : List Addr} {i : Nat} {d : D}, Owns K P H ds vs as → ds[i]? = some d →
    ∃ v bs cs, vs[i]? = some v ∧ Own K P H d v bs ∧ Owns K P H (ds.eraseIdx i) (vs.eraseIdx i) cs ∧ as.Perm (bs ++ cs) ∧
      ∀ d' v' bs', Own K P H d' v' bs' → ∃ es, Owns K P H (ds.set i d') (vs.set i v') es ∧ es.Perm (bs' ++ cs)
  | [], vs, as, i, d, h, e => by simp at e
  | x :: ds, vs, as, 0, d, h, e => by
    unfold Owns at h
    obtain ⟨v, r, bs, cs, e1, h1, h2, ea⟩ := h
    simp at e; subst e e1 ea
    refine ⟨v, bs, cs, by simp, h1, by simpa using h2, List.Perm.refl _, fun d' v' bs' o => ⟨bs' ++ cs, ?_, List.Perm.refl _⟩⟩
    rw [List.set_cons_zero, List.set_cons_zero]; unfold Owns; exact ⟨v', r, bs', cs, rfl, o, h2, rfl⟩
  | x :: ds, vs, as, i + 1, d, h, e => by
    unfold Owns at h
    obtain ⟨v0, r, b0, c0, e1, h1, h2, ea⟩ := h
    obtain ⟨v, bs, cs, q1, q2, q3, q4, q5⟩ := Owns.at (i := i) h2 (by simpa using e)
    subst e1 ea
    refine ⟨v, bs, b0 ++ cs, by simpa using q1, q2, ?_, ?_, fun d' v' bs' o => ?_⟩
    · rw [List.eraseIdx_cons_succ, List.eraseIdx_cons_succ]; unfold Owns; exact ⟨v0, _, b0, cs, rfl, h1, q3, rfl⟩
    · exact ((List.Perm.append_left b0 q4).trans (by rw [← List.append_assoc, ← List.append_assoc]; exact List.Perm.append_right _ List.perm_append_comm))
    · obtain ⟨es, r1, r2⟩ := q5 d' v' bs' o
      refine ⟨b0 ++ es, ?_, (List.Perm.append_left b0 r2).trans (by rw [← List.append_assoc, ← List.append_assoc]; exact List.Perm.append_right _ List.perm_append_comm)⟩
      rw [List.set_cons_succ, List.set_cons_succ]; unfold Owns; exact ⟨v0, _, b0, es, rfl, h1, r1, rfl⟩

theorem Rel.get {i : Nat} (r : Rel K X H0 io T t e s H) (hi : e[i]? = some (some d)) (p : d.plain = true) : ∃ v, s[i]? = some (some v) ∧ Rel K X H0 io (d :: T) (v :: t) e s H := by
  obtain ⟨as, bs, h1, h2, h3, h4, h5, h6⟩ := r
  obtain ⟨v, pre, b, post, q1, q2, q3, _⟩ := Cells.focus e i h2 hi
  obtain ⟨q4, q5⟩ := q2.plain p
  refine ⟨v, q1, as, bs, ?_, h2, h3, h4, h5, h6⟩
  unfold Owns
  exact ⟨v, t, [], as, rfl, Own.of q4, h1, rfl⟩
theorem Rel.view {i : Nat} (r : Rel K X H0 io T t e s H) (hi : e[i]? = some (some d)) : ∃ v, s[i]? = some (some v) ∧ Rep K (fun _ => False) H d.frz v := by
  obtain ⟨as, bs, h1, h2, h3, h4, h5, h6⟩ := r
  obtain ⟨v, pre, b, post, q1, q2, q3, _⟩ := Cells.focus e i h2 hi
  exact ⟨v, q1, Own.frz d ⟨fun a o e _ => ⟨e, fun z => z⟩, fun a o u e => e⟩ (fun _ _ z => z) q2⟩
theorem nodup_mid {a b c d : List Addr} (h : (a ++ (b ++ c ++ d)).Nodup) : (c ++ a ++ (b ++ d)).Nodup ∧ (a ++ (b ++ d)).Nodup := by
  have p : (a ++ (b ++ c ++ d)).Perm (c ++ a ++ (b ++ d)) := by
    have p1 : (b ++ c ++ d).Perm (c ++ (b ++ d)) := by
      rw [← List.append_assoc]; exact List.Perm.append_right _ List.perm_append_comm
    refine (List.Perm.append_left a p1).trans ?_
    rw [← List.append_assoc]; exact List.Perm.append_right _ List.perm_append_comm
  have h2 := p.nodup_iff.mp h
  refine ⟨h2, ?_⟩
  rw [List.append_assoc] at h2
  exact (List.nodup_append.mp h2).2.1
theorem Rel.put {i : Nat} (r : Rel K X H0 io (d :: T) (v :: t) e s H) (hi : i < e.length) (hio : ∀ p ∈ io, p.1 = 0 → p.1 ≠ i) : Rel K X H0 io T t (e.set i (some d)) (s.set i (some v)) H := by
  obtain ⟨as, bs, h1, h2, h3, h4, h5, h6⟩ := r
  unfold Owns at h1
  obtain ⟨v', r', b1, c1, e1, o1, o2, ea⟩ := h1
  cases e1; subst ea
  obtain ⟨cs, s1, s2, q, g⟩ := Cells.put e i h2 hi
  -- all that is left: c1 ++ (b1 with cs)
  have nd : (c1 ++ (cs ++ b1)).Nodup := by
    have n1 : (b1 ++ c1 ++ cs).Nodup := by
      obtain ⟨x1, x2, x3⟩ := List.nodup_append.mp h3
      exact List.nodup_append.mpr ⟨x1, s2 x2, fun a ha b hb => x3 a ha b (s1 b hb)⟩
    have p : (b1 ++ c1 ++ cs).Perm (c1 ++ (cs ++ b1)) := by
      rw [List.append_assoc, ← List.append_assoc c1]; exact List.perm_append_comm
    exact p.nodup_iff.mp n1
  have sub : ∀ a ∈ c1 ++ (cs ++ b1), a ∈ b1 ++ c1 ++ bs := fun a ha => by
    simp at ha ⊢
    rcases ha with z | z | z
    · simp [z]
    · simp [s1 a z]
    · simp [z]
  have m : Mono (inX X (b1 ++ c1 ++ bs)) H (inX X (c1 ++ (cs ++ b1))) H := mono_sub sub
  obtain ⟨ds, d1, d2, d3⟩ := g _ H m (fun _ _ => rfl) d v b1 (Own.mono d ⟨m, fun _ _ => rfl⟩ o1)
  have nd2 : (c1 ++ ds).Nodup := by
    obtain ⟨x1, x2, x3⟩ := List.nodup_append.mp nd
    exact List.nodup_append.mpr ⟨x1, d2 x2, fun a ha b hb => x3 a ha b (by rw [d1] at hb; simpa using hb)⟩
  have iff : ∀ a, a ∈ c1 ++ ds ↔ a ∈ c1 ++ (cs ++ b1) := fun a => by simp [d1]
  refine ⟨c1, ds, Owns.mono T ⟨m.1 |> fun _ => mono_sub (fun a ha => sub a ((iff a).mp ha)), fun _ _ => rfl⟩ o2, Cells.mono _ ⟨mono_iff iff, fun _ _ => rfl⟩ d3, nd2, fun a ha => h4 a (sub a ((iff a).mp ha)), h5, fun p hp z0 => ?_, h6.2⟩
  rw [List.getElem?_set_ne (Ne.symm (hio p hp z0))]
  exact h6.1 p hp z0
theorem Rel.freeze {i : Nat} (r : Rel K X H0 io T t e s H) (hi : e[i]? = some (some d)) : Rel K X H0 io T t (e.set i (some d.frz)) s H := by
  obtain ⟨as, bs, h1, h2, h3, h4, h5, h6⟩ := r
  obtain ⟨v, pre, b, post, q1, q2, q3, q4⟩ := Cells.focus e i h2 hi
  subst q3
  obtain ⟨nd0, nd⟩ := nodup_mid h3
  have sub : ∀ a ∈ as ++ (pre ++ post), a ∈ as ++ (pre ++ b ++ post) := fun a ha => by simp at ha ⊢; rcases ha with z | z | z <;> simp [z]
  have m : Mono (inX X (as ++ (pre ++ b ++ post))) H (inX X (as ++ (pre ++ post))) H := mono_sub sub
  have nb : ∀ a ∈ b, ¬ inX X (as ++ (pre ++ post)) a := fun a ha z => by
    rw [List.append_assoc] at nd0
    rcases z with z | z
    · exact (List.nodup_append.mp nd0).2.2 a ha a z rfl
    · exact noX h4 h6.2 a (by simp [ha]) z
  have q5 := (q4 _ _ m fun _ _ => rfl).2 d.frz v [] (Own.of (Own.frz d m nb q2))
  rw [List.append_nil] at q5
  refine ⟨as, pre ++ post, Owns.mono T ⟨m, fun _ _ => rfl⟩ h1, ?_, nd, fun a ha => h4 a (sub a ha), h5, h6⟩
  have es : s.set i (some v) = s := by
    apply List.ext_getElem?
    intro j
    by_cases hj : i = j
    · subst hj
      rw [List.getElem?_set_self (List.getElem?_eq_some_iff.mp q1).1, q1]
    · rw [List.getElem?_set_ne hj]
  rw [es] at q5
  exact q5
theorem set_same {α : Type} {s : List α} {i : Nat} {x : α} (h : s[i]? = some x) : s.set i x = s := by
  apply List.ext_getElem?
  intro j
  by_cases hj : i = j
  · subst hj
    rw [List.getElem?_set_self (List.getElem?_eq_some_iff.mp h).1, h]
  · rw [List.getElem?_set_ne hj]
theorem Rel.mut {A : List D} {va : List V} {i : Nat} {ds : List D} (hl : va.length = A.length) (r : Rel K X H0 io (A ++ T) (va ++ t) e s H) (hi : e[i]? = some (some (.own ds))) :
    ∃ a vs P bs aa, s[i]? = some (some (V.ref a)) ∧ H a = some (.lst vs) ∧ Owns K P H ds vs bs ∧ Owns K P H A va aa ∧ (aa ++ bs).Nodup ∧
      ∀ ds' vs' A' va' bs' aa', Owns K P H ds' vs' bs' → Owns K P H A' va' aa' → (aa' ++ bs').Nodup → (∀ x ∈ aa' ++ bs', x ∈ aa ++ bs) →
        Rel K X H0 io (A' ++ T) (va' ++ t) (e.set i (some (.own ds'))) s (upd H a (.lst vs')) := by
  obtain ⟨as, cs, h1, h2, h3, h4, h5, h6⟩ := r
  obtain ⟨v, pre, b, post, q1, q2, q3, q4⟩ := Cells.focus e i h2 hi
  subst q3
  unfold Own at q2
  obtain ⟨a, vs, bs, ev, qa, qo, eb⟩ := q2
  subst ev eb
  obtain ⟨v1, v2, a1, a2, e1, e2, e3, o1, o2⟩ := Owns.split A h1
  obtain ⟨e4, e5⟩ := List.append_inj e1 (by rw [hl, e3])
  subst e4 e5 e2
  -- the order: a :: bs, a1 | a2, pre, post
  have p0 : (a1 ++ a2 ++ (pre ++ (a :: bs) ++ post)).Perm (a :: (a1 ++ bs) ++ (a2 ++ (pre ++ post))) := by
    rw [List.perm_iff_count]
    intro x
    simp only [List.count_append, List.count_cons, List.cons_append]
    omega
  have nd := p0.nodup_iff.mp h3
  obtain ⟨n1, n2, n3⟩ := List.nodup_append.mp nd
  obtain ⟨n4, n5⟩ := List.nodup_cons.mp n1
  refine ⟨a, vs, _, bs, a1, q1, qa, qo, o1, n5, fun ds' vs' A' va' bs' aa' w1 w2 w3 w4 => ?_⟩
  have ne : ∀ x ∈ a1 ++ bs, x ≠ a := fun x hx z => n4 (z ▸ hx)
  have ne2 : ∀ x ∈ a2 ++ (pre ++ post), x ≠ a := fun x hx z => n3 a (List.mem_cons_self ..) x hx z.symm
  have sub : ∀ x ∈ (aa' ++ a2) ++ (pre ++ (a :: bs') ++ post), x ∈ a1 ++ a2 ++ (pre ++ (a :: bs) ++ post) := fun x hx => by
    have hx' : x ∈ aa' ++ bs' ∨ x = a ∨ x ∈ a2 ++ (pre ++ post) := by
      simp at hx ⊢
      rcases hx with z | z | z | z | z | z <;> simp [z]
    rcases hx' with z | z | z
    · have := w4 x z
      simp at this ⊢
      rcases this with y | y <;> simp [y]
    · simp [z]
    · simp at z ⊢
      rcases z with y | y | y <;> simp [y]
  have m : Mono (inX X (a1 ++ a2 ++ (pre ++ (a :: bs) ++ post))) H (inX X ((aa' ++ a2) ++ (pre ++ (a :: bs') ++ post))) (upd H a (.lst vs')) :=
    ⟨fun x o ex nx => ⟨by rw [upd_ne (fun z => nx (.inl (by rw [z]; simp)))]; exact ex, fun z => nx (z.imp (sub x) id)⟩, fun x o u ex => by
      rw [upd_ne (fun z => by rw [z, qa] at ex; cases ex)]; exact ex⟩
  have st : ∀ x, x ≠ a → upd H a (.lst vs') x = H x := fun x hx => upd_ne hx
  have q5 := (q4 _ _ m fun x hx => st x (ne2 x (List.mem_append_right _ hx))).2 (.own ds') (V.ref a) (a :: bs') (by
    unfold Own
    exact ⟨a, vs', bs', rfl, upd_same, Owns.mono ds' ⟨m, fun x hx => st x (ne x (w4 x (List.mem_append_right _ hx)))⟩ w1, rfl⟩)
  rw [set_same q1] at q5
  refine ⟨aa' ++ a2, pre ++ (a :: bs') ++ post, Owns.join A' (Owns.mono A' ⟨m, fun x hx => st x (ne x (w4 x (List.mem_append_left _ hx)))⟩ w2) (Owns.mono T ⟨m, fun x hx => st x (ne2 x (List.mem_append_left _ hx))⟩ o2), q5, ?_, fun x hx => h4 x (sub x hx), ⟨fun b o eb => ?_, tabs_upd h5.tabs qa (fun _ z => nomatch z) (fun _ z => by unfold LamX.CodeO at z; cases z), h5.tx⟩, h6⟩
  · have p1 : ((aa' ++ a2) ++ (pre ++ (a :: bs') ++ post)).Perm (a :: (aa' ++ bs') ++ (a2 ++ (pre ++ post))) := by
      rw [List.perm_iff_count]
      intro x
      simp only [List.count_append, List.count_cons, List.cons_append]
      omega
    refine p1.nodup_iff.mpr (List.nodup_append.mpr ⟨List.nodup_cons.mpr ⟨fun z => ne a (w4 a z) rfl, w3⟩, n2, fun x hx y hy => ?_⟩)
    rcases List.mem_cons.mp hx with z | z
    · exact fun w => ne2 y hy (w ▸ z)
    · exact n3 x (List.mem_cons_of_mem _ (w4 x z)) y hy
  · obtain ⟨z1, o', z2⟩ := h5 b o eb
    by_cases hb : b = a
    · subst hb
      refine ⟨fun ni _ => ?_, _, upd_same⟩
      rcases h4 b (by simp) with y | y
      · rw [y] at eb; cases eb
      · exact absurd y ni
    · rw [upd_ne hb]; exact ⟨z1, o', z2⟩
theorem Rel.mutT {A : List D} {va : List V} {ds : List D} {v : V} (hl : va.length = A.length) (r : Rel K X H0 io (A ++ .own ds :: T) (va ++ v :: t) e s H) :
    ∃ a vs P bs aa, v = V.ref a ∧ H a = some (.lst vs) ∧ Owns K P H ds vs bs ∧ Owns K P H A va aa ∧ (aa ++ bs).Nodup ∧
      ∀ ds' vs' A' va' bs' aa', Owns K P H ds' vs' bs' → Owns K P H A' va' aa' → (aa' ++ bs').Nodup → (∀ x ∈ aa' ++ bs', x ∈ aa ++ bs) →
        Rel K X H0 io (A' ++ .own ds' :: T) (va' ++ v :: t) e s (upd H a (.lst vs')) := by
  obtain ⟨as, cs, h1, h2, h3, h4, h5, h6⟩ := r
  obtain ⟨v1, v2, a1, a2, e1, e2, e3, o1, o2⟩ := Owns.split A h1
  obtain ⟨e4, e5⟩ := List.append_inj e1 (by rw [hl, e3])
  subst e4 e2
  rw [← e5] at o2
  unfold Owns at o2
  obtain ⟨v', r', b2, c2, ev, q2, o3, ea⟩ := o2
  cases ev; subst ea
  unfold Own at q2
  obtain ⟨a, vs, bs, ev, qa, qo, eb⟩ := q2
  subst ev eb
  have p0 : (a1 ++ (a :: bs ++ c2) ++ cs).Perm (a :: (a1 ++ bs) ++ (c2 ++ cs)) := by
    rw [List.perm_iff_count]
    intro x
    simp only [List.count_append, List.count_cons, List.cons_append]
    omega
  have nd := p0.nodup_iff.mp h3
  obtain ⟨n1, n2, n3⟩ := List.nodup_append.mp nd
  obtain ⟨n4, n5⟩ := List.nodup_cons.mp n1
  refine ⟨a, vs, _, bs, a1, rfl, qa, qo, o1, n5, fun ds' vs' A' va' bs' aa' w1 w2 w3 w4 => ?_⟩
  have ne : ∀ x ∈ a1 ++ bs, x ≠ a := fun x hx z => n4 (z ▸ hx)
  have ne2 : ∀ x ∈ c2 ++ cs, x ≠ a := fun x hx z => n3 a (List.mem_cons_self ..) x hx z.symm
  have sub : ∀ x ∈ aa' ++ (a :: bs' ++ c2) ++ cs, x ∈ a1 ++ (a :: bs ++ c2) ++ cs := fun x hx => by
    have hx' : x ∈ aa' ++ bs' ∨ x = a ∨ x ∈ c2 ++ cs := by
      simp at hx ⊢
      rcases hx with z | z | z | z | z <;> simp [z]
    rcases hx' with z | z | z
    · have := w4 x z
      simp at this ⊢
      rcases this with y | y <;> simp [y]
    · simp [z]
    · simp at z ⊢
      rcases z with y | y <;> simp [y]
  have m : Mono (inX X (a1 ++ (a :: bs ++ c2) ++ cs)) H (inX X (aa' ++ (a :: bs' ++ c2) ++ cs)) (upd H a (.lst vs')) :=
    ⟨fun x o ex nx => ⟨by rw [upd_ne (fun z => nx (.inl (by rw [z]; simp)))]; exact ex, fun z => nx (z.imp (sub x) id)⟩, fun x o u ex => by
      rw [upd_ne (fun z => by rw [z, qa] at ex; cases ex)]; exact ex⟩
  have st : ∀ x, x ≠ a → upd H a (.lst vs') x = H x := fun x hx => upd_ne hx
  refine ⟨aa' ++ (a :: bs' ++ c2), cs, Owns.join A' (Owns.mono A' ⟨m, fun x hx => st x (ne x (w4 x (List.mem_append_left _ hx)))⟩ w2) ?_, Cells.mono e ⟨m, fun x hx => st x (ne2 x (List.mem_append_right _ hx))⟩ h2, ?_, fun x hx => h4 x (sub x hx), ⟨fun b o eb => ?_, tabs_upd h5.tabs qa (fun _ z => nomatch z) (fun _ z => by unfold LamX.CodeO at z; cases z), h5.tx⟩, h6⟩
  · unfold Owns
    refine ⟨V.ref a, t, a :: bs', c2, rfl, ?_, Owns.mono T ⟨m, fun x hx => st x (ne2 x (List.mem_append_left _ hx))⟩ o3, rfl⟩
    unfold Own
    exact ⟨a, vs', bs', rfl, upd_same, Owns.mono ds' ⟨m, fun x hx => st x (ne x (w4 x (List.mem_append_right _ hx)))⟩ w1, rfl⟩
  · have p1 : (aa' ++ (a :: bs' ++ c2) ++ cs).Perm (a :: (aa' ++ bs') ++ (c2 ++ cs)) := by
      rw [List.perm_iff_count]
      intro x
      simp only [List.count_append, List.count_cons, List.cons_append]
      omega
    refine p1.nodup_iff.mpr (List.nodup_append.mpr ⟨List.nodup_cons.mpr ⟨fun z => ne a (w4 a z) rfl, w3⟩, n2, fun x hx y hy => ?_⟩)
    rcases List.mem_cons.mp hx with z | z
    · exact fun w => ne2 y hy (w ▸ z)
    · exact n3 x (List.mem_cons_of_mem _ (w4 x z)) y hy
  · obtain ⟨z1, o', z2⟩ := h5 b o eb
    by_cases hb : b = a
    · subst hb
      refine ⟨fun ni _ => ?_, _, upd_same⟩
      rcases h4 b (by simp) with y | y
      · rw [y] at eb; cases eb
      · exact absurd y ni
    · rw [upd_ne hb]; exact ⟨z1, o', z2⟩
end
end Mi

namespace Mi
open PySem PySem.Spec PyProof.Rows L2
variable [TabsC]

inductive Rs (α : Type) where
  | ok (a : α) | exc (c : Str) (fs : List (Str × Int)) (e : Env) | err
def Rs.bind {α β : Type} (r : Rs α) (f : α → Rs β) : Rs β := match r with
  | .ok a => f a | .exc c fs e => .exc c fs e | .err => .err
def Rs.of {α : Type} (o : Option α) : Rs α := match o with
  | some a => .ok a | none => .err
inductive Sr where
  | nx (e : Env) | rt (d : D) (e : Env) | bk (e : Env) | ct (e : Env) | exc (c : Str) (fs : List (Str × Int)) (e : Env) | err
abbrev ME := Env → Rs (D × Env)
abbrev MA := Env → Rs (List D × Env)
abbrev MT := Env → Rs (Bool × Env)
abbrev MS := Env → Sr

def XR (mg : Str → Option Value) (H : Hp) (c : Str) (fs : List (Str × Int)) (cls : Value) (dd : Option Addr) : Prop :=
  ∃ C, mg c = some (.ref C) ∧ cls = .ref C ∧ ((fs = [] ∧ dd = none) ∨ (fs ≠ [] ∧ ∃ dx, dd = some dx ∧ H dx = some (.xd (fs.map fun p => (p.1, V.int p.2)))))

section
variable (K : PySem.W.Frag) (mg : Str → Option Value) (W : WX) (Y : Addr → Prop) (H0 : Hp) (io : List (Nat × Addr)) (T : List D) (t : List V) (s : St)
def PostX (c : Str) (fs : List (Str × Int)) (e' : Env) : Prop := ∀ cls dd s' H', XR mg H' c fs cls dd → Rel K Y H0 io T t e' s' H' → W cls dd s' H'
def PostE (Q : VK) : Rs (D × Env) → Prop
  | .ok (d, e') => ∀ v H', Rel K Y H0 io (d :: T) (v :: t) e' s H' → Q v H'
  | .exc c fs e' => ∀ cls dd H', XR mg H' c fs cls dd → Rel K Y H0 io T t e' s H' → W cls dd s H'
  | .err => False
def PostA (Q : List V → Hp → Prop) : Rs (List D × Env) → Prop
  | .ok (ds, e') => ∀ vs H', vs.length = ds.length → Rel K Y H0 io (ds ++ T) (vs ++ t) e' s H' → Q vs H'
  | .exc c fs e' => ∀ cls dd H', XR mg H' c fs cls dd → Rel K Y H0 io T t e' s H' → W cls dd s H'
  | .err => False
def PostT (Q : Bool → Hp → Prop) : Rs (Bool × Env) → Prop
  | .ok (b, e') => ∀ H', Rel K Y H0 io T t e' s H' → Q b H'
  | .exc c fs e' => ∀ cls dd H', XR mg H' c fs cls dd → Rel K Y H0 io T t e' s H' → W cls dd s H'
  | .err => False
def PostS (D : Ends) : Sr → Prop
  | .nx e' => ∀ s' H', Rel K Y H0 io T t e' s' H' → D.nx s' H'
  | .rt d e' => ∀ v s' H', Rel K Y H0 io (d :: T) (v :: t) e' s' H' → D.rt v H'
  | .bk e' => ∀ s' H', Rel K Y H0 io T t e' s' H' → D.bk s' H'
  | .ct e' => ∀ s' H', Rel K Y H0 io T t e' s' H' → D.ct s' H'
  | .exc c fs e' => PostX K mg W Y H0 io T t c fs e'
  | .err => False
end
def IoIn (io : List (Nat × Addr)) (ios : List Nat) : Prop := ∀ p ∈ io, p.1 = 0 → p.1 ∈ ios
section
variable (K : PySem.W.Frag) (mg : Str → Option Value) (W : WX)
def SimE (t : TE) (m : ME) : Prop := ∀ Y H0 io T τ e s H Q, Rel K Y H0 io T τ e s H → PostE K mg W Y H0 io T τ s Q (m e) → t s H Q
def SimA (t : TA) (m : MA) : Prop := ∀ Y H0 io T τ e s H Q, Rel K Y H0 io T τ e s H → PostA K mg W Y H0 io T τ s Q (m e) → t s H Q
def SimT (t : TT) (m : MT) : Prop := ∀ Y H0 io T τ e s H Q, Rel K Y H0 io T τ e s H → PostT K mg W Y H0 io T τ s Q (m e) → t s H Q
def SimS (ios : List Nat) (t : TS) (m : MS) : Prop := ∀ Y H0 io T τ e s H D, IoIn io ios → Rel K Y H0 io T τ e s H → PostS K mg W Y H0 io T τ D (m e) → t D s H
end
def DE (X : Cx) (W : WX) (e : Expr) (m : ME) : Prop := ∃ t, PE X e t ∧ SimE X.K X.mg W t m
def DA (X : Cx) (W : WX) (es : List Expr) (m : MA) : Prop := ∃ t, PA X es t ∧ SimA X.K X.mg W t m
def DT (X : Cx) (W : WX) (e : Expr) (m : MT) : Prop := ∃ t, PT X e t ∧ SimT X.K X.mg W t m
def DS (X : Cx) (W : WX) (ios : List Nat) (st : Stmt) (m : MS) : Prop := ∃ t, PS X st t ∧ SimS X.K X.mg W ios t m
def DB (X : Cx) (W : WX) (ios : List Nat) (sts : List Stmt) (m : MS) : Prop := ∃ t, PSs X sts t ∧ SimS X.K X.mg W ios t m

def mVar (i : Nat) : ME := fun e => match e[i]? with
  | some (some d) => if d.plain then .ok (d, e) else .err
  | _ => .err
def mC (d : D) : ME := fun e => .ok (d, e)
section
variable {X : Cx} {W : WX} {pos : Pos}
theorem sim_var {K : PySem.W.Frag} {mg : Str → Option Value} (i : Nat) : SimE K mg W (tVar i) (mVar i) := by
  intro Y H0 io T τ e s H Q r p
  unfold mVar at p
  cases q : e[i]? with
  | none => rw [q] at p; exact p.elim
  | some o =>
    cases o with
    | none => rw [q] at p; exact p.elim
    | some d =>
      rw [q] at p
      simp only at p
      by_cases pl : d.plain = true
      · rw [if_pos pl] at p
        obtain ⟨v, h1, h2⟩ := r.get q pl
        exact ⟨v, h1, p v H h2⟩
      · rw [if_neg pl] at p; exact p.elim
theorem de_var (i : Nat) {x : Str} (hN : X.N[i]? = some x := by rfl) (hv : Vis X.env.scope x := by first | exact Or.inl rfl | exact Or.inr (Or.inl rfl) | exact Or.inr (Or.inr rfl)) (hd : (x == ("__debug__" : Str)) = false := by decide)
    (hcd : (x == ("__classdict__" : Str)) = false := by decide) : DE X W (.Name x pos) (mVar i) := ⟨_, pe_var hN hv hd hcd, sim_var i⟩
theorem sim_c {K : PySem.W.Frag} {mg : Str → Option Value} {d : D} {v : V} (h : ∀ P H, Rep K P H d v) : SimE K mg W (tC v) (mC d) := by
  intro Y H0 io T τ e s H Q r p
  exact p v H (r.pushR fun P => h P H)
theorem de_int {i j} : DE X W (.Constant (.int i) j pos) (mC (.int i)) := ⟨_, pe_int, sim_c fun _ _ => by unfold Rep; rfl⟩
theorem de_bl {i j} : DE X W (.Constant (.bool i) j pos) (mC (.bl i)) := ⟨_, pe_bl, sim_c fun _ _ => by unfold Rep; rfl⟩
theorem de_non {j} : DE X W (.Constant .none j pos) (mC .non) := ⟨_, pe_non, sim_c fun _ _ => by unfold Rep; rfl⟩
theorem de_str {i j} : DE X W (.Constant (.str i) j pos) (mC (.str i)) := ⟨_, pe_str, sim_c fun _ _ => by unfold Rep; rfl⟩
theorem de_glob {x : Str} {d : D} {v : V} {u : Value} (hg : Gl X x) (hm : X.mg x = some u) (r : RelV v u) (h : ∀ P H, Rep X.K P H d v) (hd : (x == ("__debug__" : Str)) = false := by decide) : DE X W (.Name x pos) (mC d) := ⟨_, pe_glob hg hm r hd, sim_c h⟩
theorem de_bltn {x : Str} {v : V} {u : Value} (hg : Gl X x) (hm : X.mg x = none) (hv : bootBuiltins x = some u) (r : RelV v u) (hn : x ≠ "__name__" := by decide) (hd : (x == ("__debug__" : Str)) = false := by decide) : DE X W (.Name x pos) (mC (.raw v)) :=
  ⟨_, pe_bltn hg hm hv r hn hd, sim_c fun _ _ => by unfold Rep; rfl⟩
end

def Ok1 (K : PySem.W.Frag) (r : V → Hp → VK → Prop) (f : D → Option D) : Prop := ∀ Y H0 io T τ e s H a va d Q, f a = some d → Rel K Y H0 io (a :: T) (va :: τ) e s H → (∀ v H', Rel K Y H0 io (d :: T) (v :: τ) e s H' → Q v H') → r va H Q
def Ok2 (K : PySem.W.Frag) (r : R2) (f : D → D → Option D) : Prop := ∀ Y H0 io T τ e s H a b va vb d Q, f a b = some d → Rel K Y H0 io (b :: a :: T) (vb :: va :: τ) e s H → (∀ v H', Rel K Y H0 io (d :: T) (v :: τ) e s H' → Q v H') → r va vb H Q
def OkL (K : PySem.W.Frag) (r : List V → Hp → VK → Prop) (f : List D → Option D) : Prop := ∀ Y H0 io T τ e s H ds vs d Q, f ds = some d → vs.length = ds.length → Rel K Y H0 io (ds ++ T) (vs ++ τ) e s H → (∀ v H', Rel K Y H0 io (d :: T) (v :: τ) e s H' → Q v H') → r vs H Q
def mOp1 (f : D → Option D) (ma : ME) : ME := fun e => (ma e).bind fun p => Rs.of ((f p.1).map fun d => (d, p.2))
def mOp2 (f : D → D → Option D) (ma mb : ME) : ME := fun e => (ma e).bind fun p => (mb p.2).bind fun q => Rs.of ((f p.1 q.1).map fun d => (d, q.2))
def mOpL (f : List D → Option D) (ma : MA) : ME := fun e => (ma e).bind fun p => Rs.of ((f p.1).map fun d => (d, p.2))
section
variable {K : PySem.W.Frag} {mg : Str → Option Value} {W : WX} {ta tb : TE} {ma mb : ME}
theorem SimE.then (h : SimE K mg W ta ma) {Y H0 io T τ e s H} {Q : VK} (r : Rel K Y H0 io T τ e s H) {β : Type} {k : D × Env → Rs β} {P : Rs β → Prop} (p : P ((ma e).bind k)) (herr : ¬ P .err)
    (hexc : ∀ c fs e', P (.exc c fs e') → ∀ cls dd H', XR mg H' c fs cls dd → Rel K Y H0 io T τ e' s H' → W cls dd s H')
    (hk : ∀ d e', P (k (d, e')) → ∀ v H', Rel K Y H0 io (d :: T) (v :: τ) e' s H' → Q v H') : ta s H Q := by
  refine h Y H0 io T τ e s H Q r ?_
  cases q : ma e with
  | ok a =>
    obtain ⟨d, e'⟩ := a
    rw [q] at p
    exact hk d e' p
  | exc c fs e' =>
    rw [q] at p
    exact hexc c fs e' p
  | err => rw [q] at p; exact (herr p).elim
theorem postE_exc {Y H0 io T τ s} {Q : VK} : ∀ c fs e', PostE K mg W Y H0 io T τ s Q (.exc c fs e') → ∀ cls dd H', XR mg H' c fs cls dd → Rel K Y H0 io T τ e' s H' → W cls dd s H' := fun _ _ _ h => h
theorem postA_exc {Y H0 io T τ s} {Q} : ∀ c fs e', PostA K mg W Y H0 io T τ s Q (.exc c fs e') → ∀ cls dd H', XR mg H' c fs cls dd → Rel K Y H0 io T τ e' s H' → W cls dd s H' := fun _ _ _ h => h
theorem postT_exc {Y H0 io T τ s} {Q} : ∀ c fs e', PostT K mg W Y H0 io T τ s Q (.exc c fs e') → ∀ cls dd H', XR mg H' c fs cls dd → Rel K Y H0 io T τ e' s H' → W cls dd s H' := fun _ _ _ h => h
theorem postE_exc1 {Y H0 io T τ s d v} {Q : VK} : ∀ c fs e', PostE K mg W Y H0 io T τ s Q (.exc c fs e') → ∀ cls dd H', XR mg H' c fs cls dd → Rel K Y H0 io (d :: T) (v :: τ) e' s H' → W cls dd s H' := fun _ _ _ h cls dd H' x r => h cls dd H' x r.pop
theorem postA_exc1 {Y H0 io T τ s d v} {Q} : ∀ c fs e', PostA K mg W Y H0 io T τ s Q (.exc c fs e') → ∀ cls dd H', XR mg H' c fs cls dd → Rel K Y H0 io (d :: T) (v :: τ) e' s H' → W cls dd s H' := fun _ _ _ h cls dd H' x r => h cls dd H' x r.pop
theorem sim_op1 {r : V → Hp → VK → Prop} {f : D → Option D} (ok : Ok1 K r f) (ha : SimE K mg W ta ma) : SimE K mg W (tUn r ta) (mOp1 f ma) := by
  intro Y H0 io T τ e s H Q rl p
  refine ha.then rl (P := PostE K mg W Y H0 io T τ s Q) p id postE_exc fun d e' p v H' rl' => ?_
  cases q : f d with
  | none => simp only [q] at p; exact p.elim
  | some x =>
    simp only [q] at p
    exact ok Y H0 io T τ e' s H' d v x Q q rl' p
theorem sim_op2 {r : R2} {f : D → D → Option D} (ok : Ok2 K r f) (ha : SimE K mg W ta ma) (hb : SimE K mg W tb mb) : SimE K mg W (tOp r ta tb) (mOp2 f ma mb) := by
  intro Y H0 io T τ e s H Q rl p
  refine ha.then rl (P := PostE K mg W Y H0 io T τ s Q) p id postE_exc fun d e' p v H' rl' => ?_
  refine hb.then rl' (P := PostE K mg W Y H0 io T τ s Q) p id postE_exc1 fun d2 e2 p v2 H2 rl2 => ?_
  cases q : f d d2 with
  | none => simp only [q] at p; exact p.elim
  | some x =>
    simp only [q] at p
    exact ok Y H0 io T τ e2 s H2 d d2 v v2 x Q q rl2 p
def mNil : MA := fun e => .ok ([], e)
def mCons (ma : ME) (mr : MA) : MA := fun e => (ma e).bind fun p => (mr p.2).bind fun q => .ok (p.1 :: q.1, q.2)
theorem sim_nil : SimA K mg W tNil mNil := by
  intro Y H0 io T τ e s H Q rl p
  exact p [] H rfl rl
theorem SimA.then {ta : TA} {ma : MA} (h : SimA K mg W ta ma) {Y H0 io T τ e s H} {Q : List V → Hp → Prop} (r : Rel K Y H0 io T τ e s H) {β : Type} {k : List D × Env → Rs β} {P : Rs β → Prop} (p : P ((ma e).bind k)) (herr : ¬ P .err)
    (hexc : ∀ c fs e', P (.exc c fs e') → ∀ cls dd H', XR mg H' c fs cls dd → Rel K Y H0 io T τ e' s H' → W cls dd s H')
    (hk : ∀ ds e', P (k (ds, e')) → ∀ vs H', vs.length = ds.length → Rel K Y H0 io (ds ++ T) (vs ++ τ) e' s H' → Q vs H') : ta s H Q := by
  refine h Y H0 io T τ e s H Q r ?_
  cases q : ma e with
  | ok a =>
    obtain ⟨d, e'⟩ := a
    rw [q] at p
    exact hk d e' p
  | exc c fs e' =>
    rw [q] at p
    exact hexc c fs e' p
  | err => rw [q] at p; exact (herr p).elim
theorem sim_cons {tr : TA} {mr : MA} (ha : SimE K mg W ta ma) (hr : SimA K mg W tr mr) : SimA K mg W (tCons ta tr) (mCons ma mr) := by
  intro Y H0 io T τ e s H Q rl p
  refine ha.then rl (P := PostA K mg W Y H0 io T τ s Q) p id postA_exc fun d e' p v H' rl' => ?_
  refine hr.then rl' (P := PostA K mg W Y H0 io T τ s Q) p id postA_exc1 fun ds e2 p vs H2 hl rl2 => ?_
  exact p (v :: vs) H2 (by simp [hl]) (Rel.mid hl rl2)
theorem sim_opL {r : List V → Hp → VK → Prop} {f : List D → Option D} {ta : TA} {ma : MA} (ok : OkL K r f) (ha : SimA K mg W ta ma) : SimE K mg W (tCB r ta) (mOpL f ma) := by
  intro Y H0 io T τ e s H Q rl p
  refine ha.then rl (P := PostE K mg W Y H0 io T τ s Q) p id postE_exc fun ds e' p vs H' hl rl' => ?_
  cases q : f ds with
  | none => simp only [q] at p; exact p.elim
  | some x =>
    simp only [q] at p
    exact ok Y H0 io T τ e' s H' ds vs x Q q hl rl' p
def mLst (ma : MA) : ME := fun e => (ma e).bind fun p => if p.1.length ≤ sizeLine then .ok (.own p.1, p.2) else .err
def mTup (ma : MA) : ME := fun e => (ma e).bind fun p => if p.1.length ≤ sizeLine then .ok (.tup (frzs p.1), p.2) else .err
theorem sim_lst {ta : TA} {ma : MA} (ha : SimA K mg W ta ma) : SimE K mg W (tLst ta) (mLst ma) := by
  intro Y H0 io T τ e s H Q rl p
  refine ha.then rl (P := PostE K mg W Y H0 io T τ s Q) p id postE_exc fun ds e' p vs H' hl rl' => ?_
  by_cases hz : ds.length ≤ sizeLine
  · rw [if_pos hz] at p
    exact ⟨by rw [hl]; exact hz, fun q hq => p _ _ (Rel.list hl rl' hq)⟩
  · rw [if_neg hz] at p; exact p.elim
end
section
variable {K : PySem.W.Frag} {Y : Addr → Prop} {H0 H H' : Hp} {io : List (Nat × Addr)} {T : List D} {t : List V} {e : Env} {s : St} {d : D} {v : V}
theorem Rel.noY {p : Addr} (r : Rel K Y H0 io T t e s H) (hp : H p = none) : ¬ Y p := fun z => by
  obtain ⟨as, bs, h1, h2, h3, h4, h5, h6⟩ := r
  obtain ⟨⟨o, q, _⟩, _⟩ := h6.2 p z
  obtain ⟨o', q'⟩ := (h5 p o q).2
  rw [hp] at q'; cases q'
theorem Rel.frzA {A : List D} {va : List V} (hl : va.length = A.length) (r : Rel K Y H0 io (A ++ T) (va ++ t) e s H) : Rel K Y H0 io (frzs A ++ T) (va ++ t) e s H := by
  obtain ⟨as, bs, h1, h2, h3, h4, h5, h6⟩ := r
  obtain ⟨v1, v2, a1, a2, e1, e2, e3, q1, q2⟩ := Owns.split A h1
  obtain ⟨e4, e5⟩ := List.append_inj e1 (by rw [hl, e3])
  subst e4 e5 e2
  have sub : ∀ a ∈ a2 ++ bs, a ∈ a1 ++ a2 ++ bs := fun a ha => by rw [List.append_assoc]; exact List.mem_append_right _ ha
  have h3' := h3
  rw [List.append_assoc] at h3'
  obtain ⟨n1, n2, n3⟩ := List.nodup_append.mp h3'
  refine ⟨a2, bs, ?_, Cells.mono e ⟨mono_sub sub, fun _ _ => rfl⟩ h2, n2, fun a ha => h4 a (sub a ha), h5, h6⟩
  have q3 := Owns.frz A (mono_sub (X := Y) sub) (fun a ha z => z.elim (fun z => n3 a ha a z rfl) (noX h4 h6.2 a (List.mem_append_left _ (List.mem_append_left _ ha)))) q1
  have q4 := Owns.join (frzs A) (Owns.of q3) (Owns.mono T ⟨mono_sub (X := Y) sub, fun _ _ => rfl⟩ q2)
  exact q4
theorem Rel.tuple {A : List D} {va : List V} {p : Addr} (hl : va.length = A.length) (r : Rel K Y H0 io (A ++ T) (va ++ t) e s H) (hp : H p = none) :
    Rel K Y H0 io (.tup (frzs A) :: T) (V.ref p :: t) e s (upd H p (.tup va)) := by
  have r2 := (r.frzA hl).new (u := .tup va) hp
  obtain ⟨as, bs, h1, h2, h3, h4, h5, h6⟩ := r2
  obtain ⟨v1, v2, a1, a2, e1, e2, e3, q1, q2⟩ := Owns.split (frzs A) h1
  obtain ⟨e4, e5⟩ := List.append_inj e1 (by rw [hl, e3, frzs_length])
  subst e4 e5
  obtain ⟨q3, q4⟩ := Owns.reps (plains_frz A) q1
  have e6 : as = a2 := by rw [e2, q4]; rfl
  refine ⟨as, bs, ?_, h2, h3, h4, h5, h6⟩
  unfold Owns
  refine ⟨V.ref p, t, [], as, rfl, ?_, by rw [e6] at q2 ⊢; exact q2, rfl⟩
  refine Own.of ?_
  unfold Rep
  refine ⟨p, va, rfl, .inl (.inl ⟨upd_same, fun z => ?_⟩), q3⟩
  rcases z with z | z
  · rcases List.mem_append.mp z with z | z
    · obtain ⟨vs, q, nt⟩ := Owns.there _ h1 p z
      rw [upd_same] at q; cases q; exact nt _ rfl
    · obtain ⟨vs, q, nt⟩ := Cells.there _ h2 p z
      rw [upd_same] at q; cases q; exact nt _ rfl
  · exact r.noY hp z
end
end Mi

namespace Mi
open PySem PySem.Spec PyProof.Rows L2
variable [TabsC]

section
variable {K : PySem.W.Frag} {Y : Addr → Prop} {H0 H H' : Hp} {io : List (Nat × Addr)} {T : List D} {t : List V} {e : Env} {s : St} {d a b : D} {v va vb : V}
theorem Rel.top2 (r : Rel K Y H0 io (b :: a :: T) (vb :: va :: t) e s H) : ∃ P as bs, Own K P H b vb bs ∧ Own K P H a va as := by
  obtain ⟨as, bs, h1, _⟩ := r
  unfold Owns at h1
  obtain ⟨v', r', b1, c1, e1, o1, o2, ea⟩ := h1
  cases e1
  unfold Owns at o2
  obtain ⟨v', r', b2, c2, e1, o3, o4, ea⟩ := o2
  cases e1
  exact ⟨_, _, _, o1, o3⟩
theorem Rel.popA : ∀ {A : List D} {va : List V}, va.length = A.length → Rel K Y H0 io (A ++ T) (va ++ t) e s H → Rel K Y H0 io T t e s H
  | [], [], _, r => r
  | d :: A, v :: va, hl, r => Rel.popA (by simpa using hl) (Rel.pop (d := d) (v := v) r)
  | [], _ :: _, hl, _ => by simp at hl
  | _ :: _, [], hl, _ => by simp at hl

theorem Own.int {P : Addr → Prop} {as} {i : Int} (h : Own K P H (.int i) v as) : v = .int i := by unfold Own Rep at h; exact h.1
theorem Own.bl {P : Addr → Prop} {as} {i : Bool} (h : Own K P H (.bl i) v as) : v = .bl i := by unfold Own Rep at h; exact h.1
theorem Own.str {P : Addr → Prop} {as} {i : Str} (h : Own K P H (.str i) v as) : v = .str i := by unfold Own Rep at h; exact h.1
theorem Own.non {P : Addr → Prop} {as} (h : Own K P H .non v as) : v = .non := by unfold Own Rep at h; exact h.1
theorem Own.dic {P : Addr → Prop} {as} (h : Own K P H .dic v as) : ∃ a, v = .ref a ∧ H a = some (.dK []) ∧ ¬ P a := by unfold Own Rep at h; exact h.1
theorem Own.raw {P : Addr → Prop} {as} {u : V} (h : Own K P H (.raw u) v as) : v = u := by unfold Own Rep at h; exact h.1
theorem Own.tup {P : Addr → Prop} {as} {ds : List D} (h : Own K P H (.tup ds) v as) : ∃ a vs, v = .ref a ∧ TqT K P H a vs ∧ Reps K P H ds vs := by unfold Own Rep at h; exact h.1
theorem Own.lst {P : Addr → Prop} {as} {ds : List D} (h : Own K P H (.lst ds) v as) : ∃ a vs, v = .ref a ∧ H a = some (.lst vs) ∧ Reps K P H ds vs := by
  unfold Own Rep at h
  obtain ⟨⟨a, vs, e, ⟨q, _⟩, r⟩, _⟩ := h
  exact ⟨a, vs, e, q, r⟩
theorem Own.cst {P : Addr → Prop} {as} {ds : List D} (h : Own K P H (.cst ds) v as) : ∃ a vs, v = .ref a ∧ CqL K H a vs ∧ Reps K P H ds vs := by unfold Own Rep at h; exact h.1
theorem Own.own {P : Addr → Prop} {as} {ds : List D} (h : Own K P H (.own ds) v as) : ∃ a vs bs, v = .ref a ∧ H a = some (.lst vs) ∧ Owns K P H ds vs bs ∧ as = a :: bs := by unfold Own at h; exact h
theorem Rep.own {P : Addr → Prop} (h : Rep K P H d v) : Own K P H d v [] := Own.of h
end

def items : D → Option (List D)
  | .tup ds => some ds | .lst ds => some ds | .cst ds => some ds | .own ds => some ds
  | _ => none
section
variable {K : PySem.W.Frag} {P : Addr → Prop} {H : Hp}
theorem Own.seq {d : D} {v : V} {as : List Addr} {ds : List D} (h : Own K P H d v as) (e : items d = some ds) : ∃ a vs bs, v = .ref a ∧ (SqL K H a vs ∨ SqT K H a vs) ∧ Owns K P H ds vs bs := by
  cases d <;> simp only [items, Option.some.injEq, reduceCtorEq] at e
  · subst e; obtain ⟨a, vs, e, q, r⟩ := h.tup; exact ⟨a, vs, [], e, .inr q.sq, Owns.of r⟩
  · subst e; obtain ⟨a, vs, e, q, r⟩ := h.lst; exact ⟨a, vs, [], e, .inl (SqL.of q), Owns.of r⟩
  · subst e; obtain ⟨a, vs, e, q, r⟩ := h.cst; exact ⟨a, vs, [], e, .inl q.sq, Owns.of r⟩
  · subst e; obtain ⟨a, vs, bs, e, q, r, _⟩ := h.own; exact ⟨a, vs, bs, e, .inl (SqL.of q), r⟩
def litems : D → Option (List D)
  | .lst ds => some ds | .cst ds => some ds | .own ds => some ds
  | _ => none
theorem Own.lseq {d : D} {v : V} {as : List Addr} {ds : List D} (h : Own K P H d v as) (e : litems d = some ds) : ∃ a vs bs, v = .ref a ∧ SqL K H a vs ∧ Owns K P H ds vs bs := by
  cases d <;> simp only [litems, Option.some.injEq, reduceCtorEq] at e
  · subst e; obtain ⟨a, vs, e, q, r⟩ := h.lst; exact ⟨a, vs, [], e, SqL.of q, Owns.of r⟩
  · subst e; obtain ⟨a, vs, e, q, r⟩ := h.cst; exact ⟨a, vs, [], e, q.sq, Owns.of r⟩
  · subst e; obtain ⟨a, vs, bs, e, q, r, _⟩ := h.own; exact ⟨a, vs, bs, e, SqL.of q, r⟩
def intsD : List D → Option (List Int)
  | [] => some []
  | .int i :: ds => (intsD ds).map (i :: ·)
  | _ :: _ => none
def blsD : List D → Option (List Bool)
  | [] => some []
  | .bl i :: ds => (blsD ds).map (i :: ·)
  | _ :: _ => none
theorem ints_eq : ∀ {ds : List D} {ns : List Int}, intsD ds = some ns → ds = ns.map D.int
  | [], ns, h => by unfold intsD at h; cases h; rfl
  | d :: ds, ns, h => by
    cases d <;> simp only [intsD, reduceCtorEq] at h
    cases q : intsD ds with
    | none => rw [q] at h; cases h
    | some ms => rw [q] at h; cases h; rw [ints_eq q]; rfl
theorem bls_eq : ∀ {ds : List D} {ns : List Bool}, blsD ds = some ns → ds = ns.map D.bl
  | [], ns, h => by unfold blsD at h; cases h; rfl
  | d :: ds, ns, h => by
    cases d <;> simp only [blsD, reduceCtorEq] at h
    cases q : blsD ds with
    | none => rw [q] at h; cases h
    | some ms => rw [q] at h; cases h; rw [bls_eq q]; rfl
theorem owns_ints : ∀ {ns : List Int} {vs : List V} {as}, Owns K P H (ns.map D.int) vs as → vs = ns.map V.int
  | [], vs, as, h => by rw [List.map_nil] at h; unfold Owns at h; exact h.1
  | n :: ns, vs, as, h => by
    rw [List.map_cons] at h; unfold Owns at h
    obtain ⟨v, r, bs, cs, e, h1, h2, _⟩ := h
    rw [e, h1.int, owns_ints h2]; rfl
theorem owns_bls : ∀ {ns : List Bool} {vs : List V} {as}, Owns K P H (ns.map D.bl) vs as → vs = ns.map V.bl
  | [], vs, as, h => by rw [List.map_nil] at h; unfold Owns at h; exact h.1
  | n :: ns, vs, as, h => by
    rw [List.map_cons] at h; unfold Owns at h
    obtain ⟨v, r, bs, cs, e, h1, h2, _⟩ := h
    rw [e, h1.bl, owns_bls h2]; rfl
mutual
def toPy : D → Option PyData
  | .non => some .none | .bl b => some (.bool b) | .int i => some (.int i) | .str x => some (.str x) | .raw _ => none | .dic => none | .dct _ => none | .odc _ => none | .odt _ => none | .odu _ => none | .odn _ => none | .odp _ => none | .dsk _ _ => none | .clo _ _ _ _ _ _ => none | .ownA _ _ => none | .cob _ _ _ _ _ _ _ _ => none
  | .tup ds => (toPys ds).map PyData.tuple | .lst ds => (toPys ds).map PyData.list | .cst ds => (toPys ds).map PyData.list | .own ds => (toPys ds).map PyData.list
def toPys : List D → Option (List PyData)
  | [] => some []
  | d :: ds => (toPy d).bind fun p => (toPys ds).map (p :: ·)
end
mutual
theorem Own.dp : ∀ (d : D) {v : V} {as : List Addr} {p : PyData}, Own K P H d v as → toPy d = some p → Dp K H v p
  | .non, v, as, p, h, e => by unfold toPy at e; cases e; rw [h.non]; exact .non
  | .bl b, v, as, p, h, e => by unfold toPy at e; cases e; rw [h.bl]; exact .bl b
  | .int b, v, as, p, h, e => by unfold toPy at e; cases e; rw [h.int]; exact .int b
  | .str b, v, as, p, h, e => by unfold toPy at e; cases e; rw [h.str]; exact .str b
  | .raw _, v, as, p, h, e => by unfold toPy at e; cases e
  | .dic, v, as, p, h, e => by unfold toPy at e; cases e
  | .dct _, v, as, p, h, e => by unfold toPy at e; cases e
  | .odc _, v, as, p, h, e => by unfold toPy at e; cases e
  | .odt _, v, as, p, h, e => by unfold toPy at e; cases e
  | .odu _, v, as, p, h, e => by unfold toPy at e; cases e
  | .odn _, v, as, p, h, e => by unfold toPy at e; cases e
  | .odp _, v, as, p, h, e => by unfold toPy at e; cases e
  | .dsk _ _, v, as, p, h, e => by unfold toPy at e; cases e
  | .clo _ _ _ _ _ _, v, as, p, h, e => by unfold toPy at e; cases e
  | .ownA _ _, v, as, p, h, e => by unfold toPy at e; cases e
  | .cob _ _ _ _ _ _ _ _, v, as, p, h, e => by unfold toPy at e; cases e
  | .tup ds, v, as, p, h, e => by
    unfold toPy at e
    obtain ⟨q, e1, e2⟩ := Option.map_eq_some_iff.mp e
    obtain ⟨a, vs, e3, h1, h2⟩ := h.tup
    subst e2 e3
    exact .tup h1.sq (Reps.dps ds h2 e1)
  | .lst ds, v, as, p, h, e => by
    unfold toPy at e
    obtain ⟨q, e1, e2⟩ := Option.map_eq_some_iff.mp e
    obtain ⟨a, vs, e3, h1, h2⟩ := h.lst
    subst e2 e3
    exact .lst (SqL.of h1) (Reps.dps ds h2 e1)
  | .cst ds, v, as, p, h, e => by
    unfold toPy at e
    obtain ⟨q, e1, e2⟩ := Option.map_eq_some_iff.mp e
    obtain ⟨a, vs, e3, h1, h2⟩ := h.cst
    subst e2 e3
    exact .lst h1.sq (Reps.dps ds h2 e1)
  | .own ds, v, as, p, h, e => by
    unfold toPy at e
    obtain ⟨q, e1, e2⟩ := Option.map_eq_some_iff.mp e
    obtain ⟨a, vs, bs, e3, h1, h2, _⟩ := h.own
    subst e2 e3
    exact .lst (SqL.of h1) (Owns.dps ds h2 e1)
theorem Owns.dps : ∀ (ds : List D) {vs : List V} {as : List Addr} {ps : List PyData}, Owns K P H ds vs as → toPys ds = some ps → DpAll K H vs ps
  | [], vs, as, ps, h, e => by unfold toPys at e; cases e; unfold Owns at h; rw [h.1]; exact .nil
  | d :: ds, vs, as, ps, h, e => by
    unfold toPys at e
    unfold Owns at h
    obtain ⟨v, r, bs, cs, e1, h1, h2, _⟩ := h
    obtain ⟨p, e2, e3⟩ := Option.bind_eq_some_iff.mp e
    obtain ⟨q, e4, e5⟩ := Option.map_eq_some_iff.mp e3
    subst e1 e5
    exact .cons (Own.dp d h1 e2) (Owns.dps ds h2 e4)
theorem Reps.dps : ∀ (ds : List D) {vs : List V} {ps : List PyData}, Reps K P H ds vs → toPys ds = some ps → DpAll K H vs ps
  | [], vs, ps, h, e => by unfold toPys at e; cases e; unfold Reps at h; rw [h]; exact .nil
  | d :: ds, vs, ps, h, e => by
    unfold toPys at e
    unfold Reps at h
    obtain ⟨v, r, e1, h1, h2⟩ := h
    obtain ⟨p, e2, e3⟩ := Option.bind_eq_some_iff.mp e
    obtain ⟨q, e4, e5⟩ := Option.map_eq_some_iff.mp e3
    subst e1 e5
    exact .cons (Own.dp d (Own.of h1) e2) (Reps.dps ds h2 e4)
end
end
def pyEq (a b : D) : Option Bool := (toPy a).bind fun p => (toPy b).bind fun q => if SeqAt.shaped p && SeqAt.shaped q then some (PyData.eqv p q) else none
def dEq (a b : D) : Option D := (pyEq a b).map D.bl
def dNe (a b : D) : Option D := (pyEq a b).map fun c => D.bl (!c)

def fI (C : Int → Int → Prop) [∀ i j, Decidable (C i j)] (g : Int → Int → D) : D → D → Option D
  | .int i, .int j => if C i j then some (g i j) else none
  | _, _ => none
section
variable {K : PySem.W.Frag}
theorem ok_fI {C : Int → Int → Prop} [∀ i j, Decidable (C i j)] {g : Int → Int → D} {gv : Int → Int → V} (hg : ∀ i j P H, Rep K P H (g i j) (gv i j)) : Ok2 K (rI C gv) (fI C g) := by
  intro Y H0 io T τ e s H a b va vb d Q hf r q
  cases a <;> cases b <;> simp only [fI, reduceCtorEq] at hf
  rename_i i j
  by_cases c : C i j
  · rw [if_pos c] at hf
    cases hf
    obtain ⟨P, as, bs, o1, o2⟩ := r.top2
    exact ⟨i, j, o2.int, o1.int, c, q _ _ (r.pop.pop.pushR fun P => hg i j P H)⟩
  · rw [if_neg c] at hf; cases hf
theorem ok_fI0 {g : Int → Int → D} {gv : Int → Int → V} (hg : ∀ i j P H, Rep K P H (g i j) (gv i j)) : Ok2 K (rI0 gv) (fI (fun _ _ => True) g) := by
  intro Y H0 io T τ e s H a b va vb d Q hf r q
  cases a <;> cases b <;> simp only [fI, reduceCtorEq, if_true, Option.some.injEq] at hf
  rename_i i j
  subst hf
  obtain ⟨P, as, bs, o1, o2⟩ := r.top2
  exact ⟨i, j, o2.int, o1.int, q _ _ (r.pop.pop.pushR fun P => hg i j P H)⟩
theorem rep_int {P : Addr → Prop} {H : Hp} {i : Int} : Rep K P H (.int i) (.int i) := by unfold Rep; rfl
theorem rep_bl {P : Addr → Prop} {H : Hp} {i : Bool} : Rep K P H (.bl i) (.bl i) := by unfold Rep; rfl
theorem rep_str {P : Addr → Prop} {H : Hp} {i : Str} : Rep K P H (.str i) (.str i) := by unfold Rep; rfl
theorem Ok2.or {r r' : R2} {f f' : D → D → Option D} (h : Ok2 K r f) (h' : Ok2 K r' f') : Ok2 K (fun x y H Q => r x y H Q ∨ r' x y H Q) (fun a b => (f a b).or (f' a b)) := by
  intro Y H0 io T τ e s H a b va vb d Q hf r q
  have hf : (f a b).or (f' a b) = some d := hf
  cases c : f a b with
  | some x => rw [c] at hf; exact .inl (h Y H0 io T τ e s H a b va vb d Q (by rw [c]; exact hf) r q)
  | none => rw [c] at hf; exact .inr (h' Y H0 io T τ e s H a b va vb d Q hf r q)
instance (i j : Int) : Decidable (CDivW i j) := by unfold CDivW; infer_instance
instance (i j : Int) : Decidable (CMulX i j) := by unfold CMulX; infer_instance
instance (i j : Int) : Decidable (CPow i j) := by unfold CPow; infer_instance
def dSub := fI (fun _ _ => True) fun i j => .int (i - j)
def dFdiv := fI CDivW fun i j => .int (i / j)
def dMod := fI (fun _ j => 0 < j) fun i j => .int (i % j)
def dPow := fI CPow fun i j => .int (i ^ j.toNat)
def dXor := fI (fun _ _ => True) fun i j => .int (Builtin.bitXor i j)
def dMulI := fI CMulX fun i j => .int (i * j)
def dAddI := fI (fun _ _ => True) fun i j => .int (i + j)
def dLe := fI (fun _ _ => True) fun i j => .bl (decide (i ≤ j))
def dLtI := fI (fun _ _ => True) fun i j => .bl (decide (i < j))
def dAddS : D → D → Option D
  | .str x, .str y => if x.length + y.length ≤ sizeLine then some (.str (x ++ y)) else none
  | _, _ => none
def dAddT : D → D → Option D
  | .tup x, .tup y => if x.length + y.length ≤ sizeLine then some (.tup (x ++ y)) else none
  | _, _ => none
def wl : D → Option (List D)
  | .lst ds => some ds | .own ds => some ds
  | _ => none
def dAddL (a b : D) : Option D := (wl a).bind fun x => (wl b).bind fun y => if x.length + y.length ≤ sizeLine then some (.own (x ++ y)) else none
theorem ok_addS : Ok2 K (fun x y H Q => ∃ i j, x = .str i ∧ y = .str j ∧ i.length + j.length ≤ sizeLine ∧ Q (.str (i ++ j)) H) dAddS := by
  intro Y H0 io T τ e s H a b va vb d Q hf r q
  cases a <;> cases b <;> simp only [dAddS, reduceCtorEq] at hf
  rename_i i j
  by_cases c : i.length + j.length ≤ sizeLine
  · rw [if_pos c] at hf
    cases hf
    obtain ⟨P, as, bs, o1, o2⟩ := r.top2
    exact ⟨i, j, o2.str, o1.str, c, q _ _ (r.pop.pop.pushR fun P => rep_str)⟩
  · rw [if_neg c] at hf; cases hf
theorem Reps.append {P : Addr → Prop} {H : Hp} : ∀ {a b : List D} {va vb : List V}, Reps K P H a va → Reps K P H b vb → Reps K P H (a ++ b) (va ++ vb)
  | [], b, va, vb, h, h2 => by unfold Reps at h; rw [h]; exact h2
  | d :: a, b, va, vb, h, h2 => by
    unfold Reps at h
    obtain ⟨v, r, e, q1, q2⟩ := h
    rw [e, List.cons_append, List.cons_append]
    unfold Reps
    exact ⟨v, r ++ vb, rfl, q1, Reps.append q2 h2⟩
theorem Rel.swapA {Y : Addr → Prop} {H0 H : Hp} {io : List (Nat × Addr)} {T : List D} {t : List V} {e : Env} {s : St} {A : List D} {va : List V} (hl : va.length = A.length) (r : Rel K Y H0 io (A ++ T) (va ++ t) e s H) :
    ∃ P as, as.Nodup ∧ Owns K P H A va as ∧ ∀ H' B vb bs, Same H H' → bs.Nodup → (∀ a ∈ bs, (a ∈ as ∨ H a = none) ∧ ∃ vs, H' a = some vs ∧ ∀ xs, vs ≠ .tup xs) →
      (∀ P' : Addr → Prop, (∀ a, P' a → P a ∨ H a = none) → (∀ a xs, P' a → H' a ≠ some (.tup xs)) → (∀ a ∈ bs, P' a) → Owns K P' H' B vb bs) →
      Rel K Y H0 io (B ++ T) (vb ++ t) e s H' := by
  obtain ⟨as, cs, h1, h2, h3, h4, h5, h6⟩ := r
  obtain ⟨v1, v2, a1, a2, e1, e2, e3, q1, q2⟩ := Owns.split A h1
  obtain ⟨e4, e5⟩ := List.append_inj e1 (by rw [hl, e3])
  subst e4 e5 e2
  have h3' := h3
  rw [List.append_assoc] at h3'
  obtain ⟨n1, n2, n3⟩ := List.nodup_append.mp h3'
  refine ⟨_, a1, n1, q1, fun H' B vb bs hs b1 b2 b3 => ?_⟩
  have there : ∀ a ∈ a1 ++ a2 ++ cs, ∃ vs, H a = some vs ∧ ∀ xs, vs ≠ .tup xs := fun a ha => by
    rcases List.mem_append.mp ha with z | z
    · exact Owns.there _ h1 a z
    · exact Cells.there _ h2 a z
  have m : Mono (inX Y (a1 ++ a2 ++ cs)) H (inX Y (bs ++ a2 ++ cs)) H' := ⟨fun a o e n => ⟨hs a o e, fun z => by
    rcases z with z | z
    · rw [List.append_assoc] at z
      rcases List.mem_append.mp z with z | z
      · rcases (b2 a z).1 with y | y
        · exact n (.inl (by simp [y]))
        · rw [y] at e; cases e
      · exact n (.inl (by simp at z ⊢; rcases z with z | z <;> simp [z]))
    · exact n (.inr z)⟩, fun a o u e => hs a _ e⟩
  have st : ∀ a ∈ a2 ++ cs, H' a = H a := fun a ha => by
    obtain ⟨vs, q, nt⟩ := there a (by rw [List.append_assoc]; exact List.mem_append_right _ ha)
    rw [q, hs a _ q]
  refine ⟨bs ++ a2, cs, Owns.join B (b3 _ (fun a z => ?_) (fun a xs z w => ?_) fun a ha => .inl (by simp [ha])) (Owns.mono T ⟨m, fun a ha => st a (List.mem_append_left _ ha)⟩ q2), Cells.mono e ⟨m, fun a ha => st a (List.mem_append_right _ ha)⟩ h2, ?_, fun a ha => ?_, h5.same hs, h6⟩
  · rcases z with z | z
    · rw [List.append_assoc] at z
      rcases List.mem_append.mp z with z | z
      · rcases (b2 a z).1 with y | y
        · exact .inl (.inl (by simp [y]))
        · exact .inr y
      · exact .inl (.inl (by simp at z ⊢; rcases z with z | z <;> simp [z]))
    · exact .inl (.inr z)
  · rcases z with z | z
    · rw [List.append_assoc] at z
      rcases List.mem_append.mp z with z | z
      · obtain ⟨vs, q, nt⟩ := (b2 a z).2
        rw [q] at w; cases w; exact nt _ rfl
      · obtain ⟨vs, q, nt⟩ := there a (by rw [List.append_assoc]; exact List.mem_append_right _ z)
        rw [hs a _ q] at w; cases w; exact nt _ rfl
    · obtain ⟨⟨o, q, nt⟩, ni⟩ := h6.2 a z
      obtain ⟨o1, q1, nt1⟩ := h5.nt q nt ni
      rw [hs a _ q1] at w
      cases w
      exact nt1 xs rfl
  · rw [List.append_assoc]
    refine List.nodup_append.mpr ⟨b1, n2, fun a ha b hb z => ?_⟩
    subst z
    rcases (b2 a ha).1 with y | y
    · exact n3 a y a hb rfl
    · obtain ⟨vs, q, nt⟩ := there a (by rw [List.append_assoc]; exact List.mem_append_right _ hb)
      rw [y] at q; cases q
  · rw [List.append_assoc] at ha
    rcases List.mem_append.mp ha with z | z
    · rcases (b2 a z).1 with y | y
      · exact h4 a (by simp [y])
      · refine .inl ?_
        cases q : H0 a with
        | none => rfl
        | some o =>
          obtain ⟨o', q'⟩ := (h5 a o q).2
          rw [y] at q'; cases q'
    · exact h4 a (by simp at z ⊢; rcases z with z | z <;> simp [z])
end
end Mi

namespace Mi
open PySem PySem.Spec PyProof.Rows L2
variable [TabsC]
section
variable {K : PySem.W.Frag} {Y : Addr → Prop} {H0 H H' : Hp} {io : List (Nat × Addr)} {T : List D} {t : List V} {e : Env} {s : St}
theorem swap_plain {P P' : Addr → Prop} {as : List Addr} (hs : Same H H') (h1 : ∀ a, P' a → P a ∨ H a = none) : Mono P H P' H' :=
  ⟨fun a o e n => ⟨hs a o e, fun z => (h1 a z).elim n fun y => by rw [y] at e; cases e⟩, fun a o u e => hs a _ e⟩
theorem swap_owns {P P' : Addr → Prop} {as : List Addr} {A : List D} {va : List V} (hs : Same H H') (h1 : ∀ a, P' a → P a ∨ H a = none) (h : Owns K P H A va as) : Owns K P' H' A va as :=
  Owns.mono A ⟨swap_plain (as := as) hs h1, fun a ha => by obtain ⟨vs, q, _⟩ := Owns.there A h a ha; rw [q, hs a _ q]⟩ h
theorem swap_own {P P' : Addr → Prop} {as : List Addr} {d : D} {v : V} (hs : Same H H') (h1 : ∀ a, P' a → P a ∨ H a = none) (h : Own K P H d v as) : Own K P' H' d v as :=
  Own.mono d ⟨swap_plain (as := as) hs h1, fun a ha => by obtain ⟨vs, q, _⟩ := Own.there d h a ha; rw [q, hs a _ q]⟩ h
theorem owns1 {P : Addr → Prop} {d : D} {v : V} {as : List Addr} (h : Own K P H d v as) : Owns K P H [d] [v] as := by
  unfold Owns
  exact ⟨v, [], as, [], rfl, h, by unfold Owns; exact ⟨rfl, rfl⟩, by simp⟩
theorem owns2 {P : Addr → Prop} {a b : D} {va : List V} {as : List Addr} (h : Owns K P H [b, a] va as) : ∃ vb v2 bs cs, va = [vb, v2] ∧ Own K P H b vb bs ∧ Own K P H a v2 cs ∧ as = bs ++ cs := by
  unfold Owns at h
  obtain ⟨v, r, bs, cs, e, h1, h2, ea⟩ := h
  unfold Owns at h2
  obtain ⟨v', r', bs', cs', e', h3, h4, ea'⟩ := h2
  unfold Owns at h4
  subst e e' ea ea'
  rw [h4.1, h4.2]
  exact ⟨v, v', bs, bs', rfl, h1, h3, by simp⟩
theorem owns1' {P : Addr → Prop} {a : D} {va : List V} {as : List Addr} (h : Owns K P H [a] va as) : ∃ v2, va = [v2] ∧ Own K P H a v2 as := by
  unfold Owns at h
  obtain ⟨v, r, bs, cs, e, h1, h2, ea⟩ := h
  unfold Owns at h2
  subst e ea
  rw [h2.1, h2.2, List.append_nil]
  exact ⟨v, rfl, h1⟩
theorem Rel.swap2 {a b : D} {va vb : V} (r : Rel K Y H0 io (b :: a :: T) (vb :: va :: t) e s H) :
    ∃ P as bs, (bs ++ as).Nodup ∧ Own K P H b vb bs ∧ Own K P H a va as ∧ ∀ H' d v cs, Same H H' → cs.Nodup → (∀ x ∈ cs, (x ∈ bs ++ as ∨ H x = none) ∧ ∃ vs, H' x = some vs ∧ ∀ xs, vs ≠ .tup xs) →
      (∀ P' : Addr → Prop, (∀ x, P' x → P x ∨ H x = none) → (∀ a xs, P' a → H' a ≠ some (.tup xs)) → (∀ x ∈ cs, P' x) → Own K P' H' d v cs) → Rel K Y H0 io (d :: T) (v :: t) e s H' := by
  obtain ⟨P, as, nd, q, g⟩ := Rel.swapA (A := [b, a]) (va := [vb, va]) rfl r
  obtain ⟨w1, w2, bs, cs, e1, h1, h2, ea⟩ := owns2 q
  simp only [List.cons.injEq, and_true] at e1
  obtain ⟨rfl, rfl⟩ := e1
  subst ea
  exact ⟨P, cs, bs, nd, h1, h2, fun H' d v ds hs d1 d2 d3 => g H' [d] [v] ds hs d1 d2 fun P' p1 p2 p3 => owns1 (d3 P' p1 p2 p3)⟩
theorem Rel.swap1 {a : D} {va : V} (r : Rel K Y H0 io (a :: T) (va :: t) e s H) :
    ∃ P as, as.Nodup ∧ Own K P H a va as ∧ ∀ H' d v cs, Same H H' → cs.Nodup → (∀ x ∈ cs, (x ∈ as ∨ H x = none) ∧ ∃ vs, H' x = some vs ∧ ∀ xs, vs ≠ .tup xs) →
      (∀ P' : Addr → Prop, (∀ x, P' x → P x ∨ H x = none) → (∀ a xs, P' a → H' a ≠ some (.tup xs)) → (∀ x ∈ cs, P' x) → Own K P' H' d v cs) → Rel K Y H0 io (d :: T) (v :: t) e s H' := by
  obtain ⟨P, as, nd, q, g⟩ := Rel.swapA (A := [a]) (va := [va]) rfl r
  obtain ⟨w1, e1, h1⟩ := owns1' q
  simp only [List.cons.injEq, and_true] at e1
  obtain rfl := e1
  exact ⟨P, as, nd, h1, fun H' d v ds hs d1 d2 d3 => g H' [d] [v] ds hs d1 d2 fun P' p1 p2 p3 => owns1 (d3 P' p1 p2 p3)⟩

theorem ok_addT : Ok2 K (rCatA K) dAddT := by
  intro Y H0 io T τ e s H a b va vb d Q hf r q
  cases a <;> cases b <;> simp only [dAddT, reduceCtorEq] at hf
  rename_i x y
  by_cases c : x.length + y.length ≤ sizeLine
  · rw [if_pos c] at hf
    cases hf
    obtain ⟨P, as, bs, nd, o1, o2, g⟩ := r.swap2
    obtain ⟨p1, v1, rfl, t1, r1⟩ := o2.tup
    obtain ⟨p2, v2, rfl, t2, r2⟩ := o1.tup
    refine ⟨p1, p2, v1, v2, rfl, rfl, t1.sq, t2.sq, by rw [r1.len, r2.len]; exact c, fun e1 => ?_, fun _ e2 => ?_, fun _ _ p hp => ?_⟩
    · have e3 : x = [] := List.eq_nil_of_length_eq_zero (by rw [← r1.len, e1]; rfl)
      rw [e3, List.nil_append] at q
      exact q _ _ r.swap.pop
    · have e3 : y = [] := List.eq_nil_of_length_eq_zero (by rw [← r2.len, e2]; rfl)
      rw [e3, List.append_nil] at q
      exact q _ _ r.pop
    · have hs : Same H (upd H p (.tup (v1 ++ v2))) := same_new hp
      refine q _ _ (g _ (.tup (x ++ y)) _ [] hs List.nodup_nil (fun _ z => nomatch z) fun P' hP hT _ => Own.of ?_)
      have m := swap_plain (as := []) hs hP
      unfold Rep
      exact ⟨p, v1 ++ v2, rfl, .inl (.inl ⟨upd_same, fun z => hT p _ z upd_same⟩), (Reps.mono m x r1).append (Reps.mono m y r2)⟩
  · rw [if_neg c] at hf; cases hf

theorem Own.seqA {P : Addr → Prop} {d : D} {v : V} {as : List Addr} {ds : List D} (h : Own K P H d v as) (e : items d = some ds) : ∃ a vs bs, v = .ref a ∧ (SqL K H a vs ∨ SqT K H a vs) ∧ Owns K P H ds vs bs ∧ (∀ x ∈ bs, x ∈ as) ∧ (as.Nodup → bs.Nodup) := by
  cases d <;> simp only [items, Option.some.injEq, reduceCtorEq] at e
  · subst e; obtain ⟨a, vs, e, q, r⟩ := h.tup; exact ⟨a, vs, [], e, .inr q.sq, Owns.of r, (fun _ z => nomatch z), fun _ => List.nodup_nil⟩
  · subst e; obtain ⟨a, vs, e, q, r⟩ := h.lst; exact ⟨a, vs, [], e, .inl (SqL.of q), Owns.of r, (fun _ z => nomatch z), fun _ => List.nodup_nil⟩
  · subst e; obtain ⟨a, vs, e, q, r⟩ := h.cst; exact ⟨a, vs, [], e, .inl q.sq, Owns.of r, (fun _ z => nomatch z), fun _ => List.nodup_nil⟩
  · subst e; obtain ⟨a, vs, bs, e, q, r, ea⟩ := h.own; exact ⟨a, vs, bs, e, .inl (SqL.of q), r, fun x hx => by rw [ea]; exact List.mem_cons_of_mem _ hx, fun n => by rw [ea] at n; exact (List.nodup_cons.mp n).2⟩
theorem Own.wlA {P : Addr → Prop} {d : D} {v : V} {as : List Addr} {ds : List D} (h : Own K P H d v as) (e : wl d = some ds) : ∃ a vs bs, v = .ref a ∧ H a = some (.lst vs) ∧ Owns K P H ds vs bs ∧ (∀ x ∈ bs, x ∈ as) ∧ (as.Nodup → bs.Nodup) := by
  cases d <;> simp only [wl, Option.some.injEq, reduceCtorEq] at e
  · subst e; obtain ⟨a, vs, e, q, r⟩ := h.lst; exact ⟨a, vs, [], e, q, Owns.of r, (fun _ z => nomatch z), fun _ => List.nodup_nil⟩
  · subst e; obtain ⟨a, vs, bs, e, q, r, ea⟩ := h.own; exact ⟨a, vs, bs, e, q, r, fun x hx => by rw [ea]; exact List.mem_cons_of_mem _ hx, fun n => by rw [ea] at n; exact (List.nodup_cons.mp n).2⟩
theorem ok_addL : Ok2 K rCat dAddL := by
  intro Y H0 io T τ e s H a b va vb d Q hf r q
  unfold dAddL at hf
  obtain ⟨x, hx, hf⟩ := Option.bind_eq_some_iff.mp hf
  obtain ⟨y, hy, hf⟩ := Option.bind_eq_some_iff.mp hf
  by_cases c : x.length + y.length ≤ sizeLine
  · rw [if_pos c] at hf
    cases hf
    obtain ⟨P, as, bs, nd, o1, o2, g⟩ := r.swap2
    obtain ⟨p1, v1, a1, rfl, t1, w1, s1, n1⟩ := o2.wlA hx
    obtain ⟨p2, v2, a2, rfl, t2, w2, s2, n2⟩ := o1.wlA hy
    refine ⟨p1, p2, v1, v2, rfl, rfl, t1, t2, by rw [w1.len, w2.len]; exact c, fun p hp => ?_⟩
    have hs : Same H (upd H p (.lst (v1 ++ v2))) := same_new hp
    obtain ⟨k1, k2, k3⟩ := List.nodup_append.mp nd
    have sub : ∀ z ∈ a1 ++ a2, z ∈ bs ++ as := fun z hz => (List.mem_append.mp hz).elim (fun w => List.mem_append_right _ (s1 z w)) fun w => List.mem_append_left _ (s2 z w)
    have th : ∀ z ∈ a1 ++ a2, ∃ vs, H z = some vs ∧ ∀ xs, vs ≠ .tup xs := fun z hz => (List.mem_append.mp hz).elim (Owns.there _ w1 z) (Owns.there _ w2 z)
    refine q _ _ (g _ (.own (x ++ y)) _ (p :: (a1 ++ a2)) hs ?_ (fun z hz => ?_) fun P' hP hT hin => ?_)
    · refine List.nodup_cons.mpr ⟨fun z => ?_, List.nodup_append.mpr ⟨n1 k2, n2 k1, fun z hz w hw e => k3 w (s2 w hw) z (s1 z hz) e.symm⟩⟩
      obtain ⟨vs, w, nt⟩ := th p z
      rw [hp] at w; cases w
    · rcases List.mem_cons.mp hz with rfl | hz
      · exact ⟨.inr hp, _, upd_same, fun _ z => nomatch z⟩
      · obtain ⟨vs, w, nt⟩ := th z hz
        exact ⟨.inl (sub z hz), vs, hs z _ w, nt⟩
    · unfold Own
      exact ⟨p, v1 ++ v2, a1 ++ a2, rfl, upd_same, Owns.join x (swap_owns hs hP w1) (swap_owns hs hP w2), rfl⟩
  · rw [if_neg c] at hf; cases hf
def dMulL : D → D → Option D
  | a, .int k => (wl a).bind fun x => if plains x = true ∧ -(2 ^ 63) ≤ k ∧ k < 2 ^ 63 ∧ x.length * k.toNat ≤ sizeLine then some (.own (List.replicate k.toNat x).flatten) else none
  | _, _ => none
theorem Reps.rep {P : Addr → Prop} {x : List D} {v : List V} (h : Reps K P H x v) : ∀ k : Nat, Reps K P H (List.replicate k x).flatten (List.replicate k v).flatten
  | 0 => by unfold Reps; rfl
  | k + 1 => by rw [List.replicate_succ, List.replicate_succ, List.flatten_cons, List.flatten_cons]; exact h.append (Reps.rep h k)
theorem ok_rep : Ok2 K rRep dMulL := by
  intro Y H0 io T τ e s H a b va vb d Q hf r q
  obtain ⟨k, rfl⟩ : ∃ k, b = .int k := by cases b <;> first | exact ⟨_, rfl⟩ | (simp [dMulL] at hf)
  unfold dMulL at hf
  obtain ⟨x, hx, hf⟩ := Option.bind_eq_some_iff.mp hf
  by_cases c : plains x = true ∧ -(2 ^ 63) ≤ k ∧ k < 2 ^ 63 ∧ x.length * k.toNat ≤ sizeLine
  · rw [if_pos c] at hf
    cases hf
    obtain ⟨P, as, bs, nd, o1, o2, g⟩ := r.swap2
    obtain ⟨p1, v1, a1, rfl, t1, w1, s1, n1⟩ := o2.wlA hx
    obtain rfl := o1.int
    obtain ⟨w2, w3⟩ := Owns.reps c.1 w1
    refine ⟨p1, k, v1, rfl, rfl, t1, c.2.1, c.2.2.1, by rw [w1.len]; exact c.2.2.2, fun p hp => ?_⟩
    have hs : Same H (upd H p (.lst (List.replicate k.toNat v1).flatten)) := same_new hp
    refine q _ _ (g _ (.own (List.replicate k.toNat x).flatten) _ [p] hs (by simp) (fun z hz => ?_) fun P' hP hT hin => ?_)
    · obtain rfl : z = p := by simpa using hz
      exact ⟨.inr hp, _, upd_same, fun _ z => nomatch z⟩
    · unfold Own
      exact ⟨p, _, [], rfl, upd_same, Owns.of ((Reps.mono (swap_plain (as := []) hs hP) x w2).rep k.toNat), rfl⟩
  · rw [if_neg c] at hf; cases hf
theorem ok_eq : Ok2 K (rEqD K) dEq := by
  intro Y H0 io T τ e s H a b va vb d Q hf r q
  unfold dEq pyEq at hf
  obtain ⟨c, hf, hc⟩ := Option.map_eq_some_iff.mp hf
  obtain ⟨x, hx, hf⟩ := Option.bind_eq_some_iff.mp hf
  obtain ⟨y, hy, hf⟩ := Option.bind_eq_some_iff.mp hf
  by_cases z : (SeqAt.shaped x && SeqAt.shaped y) = true
  · rw [if_pos z] at hf
    cases hf
    rw [Bool.and_eq_true] at z
    obtain ⟨P, as, bs, o1, o2⟩ := r.top2
    subst hc
    exact ⟨x, y, o2.dp a hx, o1.dp b hy, z.1, z.2, q _ _ r.pop.pop.bl⟩
  · rw [if_neg z] at hf; cases hf
theorem ok_ne : Ok2 K (rNeD K) dNe := by
  intro Y H0 io T τ e s H a b va vb d Q hf r q
  unfold dNe pyEq at hf
  obtain ⟨c, hf, hc⟩ := Option.map_eq_some_iff.mp hf
  obtain ⟨x, hx, hf⟩ := Option.bind_eq_some_iff.mp hf
  obtain ⟨y, hy, hf⟩ := Option.bind_eq_some_iff.mp hf
  by_cases z : (SeqAt.shaped x && SeqAt.shaped y) = true
  · rw [if_pos z] at hf
    cases hf
    rw [Bool.and_eq_true] at z
    obtain ⟨P, as, bs, o1, o2⟩ := r.top2
    subst hc
    exact ⟨x, y, o2.dp a hx, o1.dp b hy, z.1, z.2, q _ _ r.pop.pop.bl⟩
  · rw [if_neg z] at hf; cases hf
def rInTD (K : PySem.W.Frag) (neg : Bool) : R2 := fun x y H Q => ∃ d ds, Dp K H x d ∧ Dp K H y (.tuple ds) ∧ SeqAt.shaped d = true ∧ SeqAt.shaped (.tuple ds) = true ∧ Q (.bl (xor neg (ds.any fun z => PyData.eqv z d))) H
theorem op_inTD {X : Cx} (hu : X.A.units + 65 < cLine) : OpR X (compareOp .In) (rInTD X.K false) := by
  intro pins s σ H x y v u Q I rx ry h
  obtain ⟨d, ds, hd, he, sd, se, q⟩ := h
  obtain ⟨as, r1⟩ := Dp.reads I d x v hd rx
  obtain ⟨bs, r2⟩ := Dp.reads I (.tuple ds) y u he ry
  exact SeqAt.in_tuple_reads r2 r1 (SeqAt.canLay_of_shaped se) (SeqAt.canLay_of_shaped sd) (room_in_shaped sd hu) ⟨.bl _, H, I, rfl, by simpa using q⟩
theorem op_notInTD {X : Cx} (hu : X.A.units + 65 < cLine) : OpR X (compareOp .NotIn) (rInTD X.K true) := by
  intro pins s σ H x y v u Q I rx ry h
  obtain ⟨d, ds, hd, he, sd, se, q⟩ := h
  obtain ⟨as, r1⟩ := Dp.reads I d x v hd rx
  obtain ⟨bs, r2⟩ := Dp.reads I (.tuple ds) y u he ry
  exact SeqAt.notIn_tuple_reads r2 r1 (SeqAt.canLay_of_shaped se) (SeqAt.canLay_of_shaped sd) (room_in_shaped sd hu) ⟨.bl _, H, I, rfl, by simpa using q⟩
def pyIn (neg : Bool) (a b : D) : Option D := (toPy a).bind fun x => (toPy b).bind fun y => match y with
  | .list ds => if SeqAt.shaped x && SeqAt.shaped (.list ds) then some (.bl (xor neg (ds.any fun z => PyData.eqv z x))) else none
  | .tuple ds => if SeqAt.shaped x && SeqAt.shaped (.tuple ds) then some (.bl (xor neg (ds.any fun z => PyData.eqv z x))) else none
  | _ => none
def dIn := pyIn false
def dNotIn := pyIn true
theorem ok_in : Ok2 K (fun x y H Q => rInD K x y H Q ∨ rInTD K false x y H Q) dIn := by
  intro Y H0 io T τ e s H a b va vb d Q hf r q
  unfold dIn pyIn at hf
  obtain ⟨x, hx, hf⟩ := Option.bind_eq_some_iff.mp hf
  obtain ⟨y, hy, hf⟩ := Option.bind_eq_some_iff.mp hf
  obtain ⟨P, as, bs, o1, o2⟩ := r.top2
  cases y <;> simp only [reduceCtorEq] at hf
  · rename_i ds
    by_cases z : (SeqAt.shaped x && SeqAt.shaped (.list ds)) = true
    · rw [if_pos z] at hf
      cases hf
      rw [Bool.and_eq_true] at z
      exact .inl ⟨x, ds, o2.dp a hx, o1.dp b hy, z.1, z.2, by have := q _ _ (r.pop.pop.bl (i := xor false (ds.any fun z => PyData.eqv z x))); simpa using this⟩
    · rw [if_neg z] at hf; cases hf
  · rename_i ds
    by_cases z : (SeqAt.shaped x && SeqAt.shaped (.tuple ds)) = true
    · rw [if_pos z] at hf
      cases hf
      rw [Bool.and_eq_true] at z
      exact .inr ⟨x, ds, o2.dp a hx, o1.dp b hy, z.1, z.2, q _ _ r.pop.pop.bl⟩
    · rw [if_neg z] at hf; cases hf
theorem ok_notIn : Ok2 K (fun x y H Q => rNotInD K x y H Q ∨ rInTD K true x y H Q) dNotIn := by
  intro Y H0 io T τ e s H a b va vb d Q hf r q
  unfold dNotIn pyIn at hf
  obtain ⟨x, hx, hf⟩ := Option.bind_eq_some_iff.mp hf
  obtain ⟨y, hy, hf⟩ := Option.bind_eq_some_iff.mp hf
  obtain ⟨P, as, bs, o1, o2⟩ := r.top2
  cases y <;> simp only [reduceCtorEq] at hf
  · rename_i ds
    by_cases z : (SeqAt.shaped x && SeqAt.shaped (.list ds)) = true
    · rw [if_pos z] at hf
      cases hf
      rw [Bool.and_eq_true] at z
      exact .inl ⟨x, ds, o2.dp a hx, o1.dp b hy, z.1, z.2, by have := q _ _ (r.pop.pop.bl (i := xor true (ds.any fun z => PyData.eqv z x))); simpa using this⟩
    · rw [if_neg z] at hf; cases hf
  · rename_i ds
    by_cases z : (SeqAt.shaped x && SeqAt.shaped (.tuple ds)) = true
    · rw [if_pos z] at hf
      cases hf
      rw [Bool.and_eq_true] at z
      exact .inr ⟨x, ds, o2.dp a hx, o1.dp b hy, z.1, z.2, q _ _ r.pop.pop.bl⟩
    · rw [if_neg z] at hf; cases hf
def dIx : D → D → Option D
  | a, .int i => match a with
    | .str z => if z.length ≤ sizeLine then (atI z.cps.toList i).map fun c => .str ⟨#[c]⟩ else none
    | a => (items a).bind fun ds => atI ds i
  | _, _ => none
theorem atI_len {α β : Type} {xs : List α} {ys : List β} (hl : ys.length = xs.length) {i : Int} {x : α} (h : atI xs i = some x) : ∃ j : Nat, xs[j]? = some x ∧ ∀ y : β, ys[j]? = some y → atI ys i = some y := by
  unfold atI at h ⊢
  obtain ⟨j, h1, h2⟩ := Option.bind_eq_some_iff.mp h
  exact ⟨j, h2, fun y hy => by rw [hl, h1]; exact hy⟩
theorem ok_ix : Ok2 K (rIx K) dIx := by
  intro Y H0 io T τ e s H a b va vb d Q hf r q
  obtain ⟨i, rfl⟩ : ∃ i, b = .int i := by cases b <;> first | exact ⟨_, rfl⟩ | (simp [dIx] at hf)
  obtain ⟨P, as, bs, nd, o1, o2, g⟩ := r.swap2
  obtain rfl := o1.int
  by_cases ha : ∃ z, a = .str z
  · obtain ⟨z, rfl⟩ := ha
    unfold dIx at hf
    simp only at hf
    by_cases c : z.length ≤ sizeLine
    · rw [if_pos c] at hf
      obtain ⟨k, hk, rfl⟩ := Option.map_eq_some_iff.mp hf
      obtain rfl := o2.str
      exact .inr (.inr ⟨z, i, k, rfl, rfl, c, hk, q _ _ r.pop.pop.str⟩)
    · rw [if_neg c] at hf; cases hf
  · have hf : (items a).bind (fun ds => atI ds i) = some d := by
      cases a <;> first | exact hf | exact absurd ⟨_, rfl⟩ ha
    obtain ⟨ds, hx, hf⟩ := Option.bind_eq_some_iff.mp hf
    obtain ⟨p1, v1, a1, rfl, t1, w1, s1, n1⟩ := o2.seqA hx
    obtain ⟨j, hj, hv⟩ := atI_len w1.len hf
    obtain ⟨v, b1, c1, e1, o3, o4, pm, _⟩ := Owns.at w1 hj
    have fin : Q v H := by
      have n2 := pm.nodup_iff.mp (n1 (List.nodup_append.mp nd).2.1)
      refine q _ _ (g H d v b1 (Same.refl _) (List.nodup_append.mp n2).1 (fun z hz => ⟨.inl (List.mem_append_right _ (s1 z (pm.mem_iff.mpr (List.mem_append_left _ hz)))), Own.there d o3 z hz⟩) fun P' hP hT hin => swap_own (Same.refl _) hP o3)
    rcases t1 with t1 | t1
    · exact .inl ⟨p1, v1, i, v, rfl, rfl, t1, hv v e1, fin⟩
    · exact .inr (.inl ⟨p1, v1, i, v, rfl, rfl, t1, hv v e1, fin⟩)
end
end Mi

namespace Mi
open PySem PySem.Spec PyProof.Rows L2
variable [TabsC]

section
variable {X : Cx} {W : WX} {pos p : Pos} {a b c : Expr} {es : List Expr} {ma mb mc : ME} {mas : MA}
theorem de_op {op : Operator} {r : R2} {f : D → D → Option D} (ho : OpR X (binaryOp op) r) (ok : Ok2 X.K r f) (ha : DE X W a ma) (hb : DE X W b mb) : DE X W (.BinOp a op b pos) (mOp2 f ma mb) := by
  obtain ⟨ta, pa, sa⟩ := ha
  obtain ⟨tb, pb, sb⟩ := hb
  exact ⟨_, pe_op ho pa pb, sim_op2 ok sa sb⟩
theorem de_cmp {op : CmpOp} {r : R2} {f : D → D → Option D} (ho : OpR X (compareOp op) r) (ok : Ok2 X.K r f) (hm : behindInMarks op b = false) (ha : DE X W a ma) (hb : DE X W b mb) : DE X W (.Compare a [op] [b] pos) (mOp2 f ma mb) := by
  obtain ⟨ta, pa, sa⟩ := ha
  obtain ⟨tb, pb, sb⟩ := hb
  exact ⟨_, pe_cmpR ho pa pb hm, sim_op2 ok sa sb⟩
def dAdd (a b : D) : Option D := (((dAddI a b).or (dAddS a b)).or (dAddT a b)).or (dAddL a b)
def dMul (a b : D) : Option D := (dMulI a b).or (dMulL a b)
theorem de_add (ha : DE X W a ma) (hb : DE X W b mb) : DE X W (.BinOp a .Add b pos) (mOp2 dAdd ma mb) :=
  de_op (((op_add.or op_add_str).or op_catA).or op_cat) ((((ok_fI0 fun _ _ _ _ => rep_int).or ok_addS).or ok_addT).or ok_addL) ha hb
theorem de_mul (ha : DE X W a ma) (hb : DE X W b mb) : DE X W (.BinOp a .Mult b pos) (mOp2 dMul ma mb) :=
  de_op (op_mulX.or op_rep) ((ok_fI fun _ _ _ _ => rep_int).or ok_rep) ha hb
theorem de_sub (ha : DE X W a ma) (hb : DE X W b mb) : DE X W (.BinOp a .Sub b pos) (mOp2 dSub ma mb) := de_op op_sub (ok_fI0 fun _ _ _ _ => rep_int) ha hb
theorem de_fdiv (ha : DE X W a ma) (hb : DE X W b mb) : DE X W (.BinOp a .FloorDiv b pos) (mOp2 dFdiv ma mb) := de_op op_fdivW (ok_fI fun _ _ _ _ => rep_int) ha hb
theorem de_mod (ha : DE X W a ma) (hb : DE X W b mb) : DE X W (.BinOp a .Mod b pos) (mOp2 dMod ma mb) := de_op op_mod (ok_fI fun _ _ _ _ => rep_int) ha hb
theorem de_pow (ha : DE X W a ma) (hb : DE X W b mb) : DE X W (.BinOp a .Pow b pos) (mOp2 dPow ma mb) := de_op op_pow (ok_fI fun _ _ _ _ => rep_int) ha hb
theorem de_xor (ha : DE X W a ma) (hb : DE X W b mb) : DE X W (.BinOp a .BitXor b pos) (mOp2 dXor ma mb) := de_op op_xor (ok_fI0 fun _ _ _ _ => rep_int) ha hb
theorem de_eq (hu : X.A.units + 64 < cLine) (ha : DE X W a ma) (hb : DE X W b mb) : DE X W (.Compare a [.Eq] [b] pos) (mOp2 dEq ma mb) := de_cmp (op_eqD hu) ok_eq (nomark _) ha hb
def dLtT : D → D → Option D
  | .tup x, .tup y => (intsD x).bind fun ns => (intsD y).map fun ms => .bl (HT.lexLt ns ms)
  | _, _ => none
def dLt (a b : D) : Option D := (dLtI a b).or (dLtT a b)
theorem ok_ltT {K : PySem.W.Frag} : Ok2 K (rLtT K) dLtT := by
  intro Y H0 io T τ e s H a b va vb d Q hf r q
  cases a <;> cases b <;> simp only [dLtT, reduceCtorEq] at hf
  rename_i x y
  obtain ⟨ns, hx, hf⟩ := Option.bind_eq_some_iff.mp hf
  obtain ⟨ms, hy, hf⟩ := Option.map_eq_some_iff.mp hf
  subst hf
  obtain rfl := ints_eq hx
  obtain rfl := ints_eq hy
  obtain ⟨P, as, bs, o1, o2⟩ := r.top2
  obtain ⟨p1, v1, rfl, t1, r1⟩ := o2.tup
  obtain ⟨p2, v2, rfl, t2, r2⟩ := o1.tup
  obtain rfl := owns_ints (Owns.of r1)
  obtain rfl := owns_ints (Owns.of r2)
  exact ⟨p1, p2, ns, ms, rfl, rfl, t1.sq, t2.sq, q _ _ r.pop.pop.bl⟩
theorem de_lt (hu : X.A.units + 64 < cLine) (ha : DE X W a ma) (hb : DE X W b mb) : DE X W (.Compare a [.Lt] [b] pos) (mOp2 dLt ma mb) :=
  de_cmp (op_lt.or (op_ltT (by omega))) ((ok_fI0 fun _ _ _ _ => rep_bl).or ok_ltT) (nomark _) ha hb
theorem de_in (hu : X.A.units + 65 < cLine) (ha : DE X W a ma) (hb : DE X W b mb) (hm : behindInMarks .In b = false := by rfl) : DE X W (.Compare a [.In] [b] pos) (mOp2 dIn ma mb) := de_cmp ((op_inD hu).or (op_inTD hu)) ok_in hm ha hb
theorem de_notIn (hu : X.A.units + 65 < cLine) (ha : DE X W a ma) (hb : DE X W b mb) (hm : behindInMarks .NotIn b = false := by rfl) : DE X W (.Compare a [.NotIn] [b] pos) (mOp2 dNotIn ma mb) := de_cmp ((op_notInD hu).or (op_notInTD hu)) ok_notIn hm ha hb
def mChain (f g : D → D → Option D) (ma mb mc : ME) : ME := fun e => (ma e).bind fun p => (mb p.2).bind fun q => match p.1, q.1 with
  | .int i, .int j => match f (.int i) (.int j) with
    | some (.bl true) => (mc q.2).bind fun r => Rs.of ((g (.int j) r.1).map fun d => (d, r.2))
    | some (.bl false) => .ok (.bl false, q.2)
    | _ => .err
  | _, _ => .err
theorem sim_chain {K : PySem.W.Frag} {mg : Str → Option Value} {ta tb tc : TE} {r r' : R2} {f g : D → D → Option D} (ok : Ok2 K r f) (ok' : Ok2 K r' g) (ha : SimE K mg W ta ma) (hb : SimE K mg W tb mb) (hc : SimE K mg W tc mc) :
    SimE K mg W (tChain r r' ta tb tc) (mChain f g ma mb mc) := by
  intro Y H0 io T τ e s H Q rl p
  refine ha.then rl (P := PostE K mg W Y H0 io T τ s Q) p id postE_exc fun d e1 p v H1 rl1 => ?_
  refine hb.then rl1 (P := PostE K mg W Y H0 io T τ s Q) p id postE_exc1 fun d2 e2 p v2 H2 rl2 => ?_
  obtain ⟨i, rfl⟩ : ∃ i, d = .int i := by cases d <;> first | exact ⟨_, rfl⟩ | exact False.elim p
  obtain ⟨j, rfl⟩ : ∃ j, d2 = .int j := by cases d2 <;> first | exact ⟨_, rfl⟩ | exact False.elim p
  simp only at p
  obtain ⟨P, as, bs, o1, o2⟩ := rl2.top2
  obtain rfl := o1.int
  obtain rfl := o2.int
  cases hf : f (.int i) (.int j) with
  | none => rw [hf] at p; exact p.elim
  | some z =>
    rw [hf] at p
    obtain ⟨k, rfl⟩ : ∃ k, z = .bl k := by cases z <;> first | exact ⟨_, rfl⟩ | exact False.elim p
    refine ok Y H0 io T τ e2 s H2 _ _ _ _ (.bl k) _ hf rl2 fun v H3 rl3 => ?_
    obtain rfl := rl3.isBl
    refine ⟨k, rfl, ?_⟩
    cases k with
    | false => rw [if_neg Bool.false_ne_true]; exact p _ _ rl3
    | true =>
      rw [if_pos rfl]
      simp only at p
      refine hc.then (rl3.pop.int (i := j)) (P := PostE K mg W Y H0 io T τ s Q) p id postE_exc1 fun d3 e3 p' v3 H4 rl4 => ?_
      cases hg : g (.int j) d3 with
      | none => simp only [hg] at p'; exact False.elim p'
      | some x =>
        simp only [hg] at p'
        exact ok' Y H0 io T τ e3 s H4 _ _ _ _ x Q hg rl4 p'
theorem de_chain {op op' : CmpOp} {r r' : R2} {f g : D → D → Option D} (ho : OpR X (compareOp op) r) (ho' : OpR X (compareOp op') r') (ok : Ok2 X.K r f) (ok' : Ok2 X.K r' g) (ha : DE X W a ma) (hb : DE X W b mb) (hc : DE X W c mc)
    (hm : lastMarks [op, op'] [b, c] = false := by with_unfolding_all rfl) : DE X W (.Compare a [op, op'] [b, c] pos) (mChain f g ma mb mc) := by
  obtain ⟨ta, pa, sa⟩ := ha
  obtain ⟨tb, pb, sb⟩ := hb
  obtain ⟨tc, pc, sc⟩ := hc
  exact ⟨_, pe_chain ho ho' pa pb pc hm, sim_chain ok ok' sa sb sc⟩
theorem de_leLe (ha : DE X W a ma) (hb : DE X W b mb) (hc : DE X W c mc) (hm : lastMarks [.LtE, .LtE] [b, c] = false := by with_unfolding_all rfl) : DE X W (.Compare a [.LtE, .LtE] [b, c] pos) (mChain dLe dLe ma mb mc) := de_chain op_le op_le (ok_fI0 fun _ _ _ _ => rep_bl) (ok_fI0 fun _ _ _ _ => rep_bl) ha hb hc hm
def dNeg : D → Option D
  | .int i => some (.int (-i))
  | _ => none
theorem de_neg (ha : DE X W a ma) : DE X W (.UnaryOp .USub a pos) (mOp1 dNeg ma) := by
  obtain ⟨ta, pa, sa⟩ := ha
  refine ⟨_, pe_un un_neg pa, sim_op1 (fun Y H0 io T τ e s H a va d Q hf r q => ?_) sa⟩
  obtain ⟨i, rfl⟩ : ∃ i, a = .int i := by cases a <;> first | exact ⟨_, rfl⟩ | (simp [dNeg] at hf)
  simp only [dNeg, Option.some.injEq] at hf
  subst hf
  exact ⟨i, r.isInt, q _ _ r.pop.int⟩
theorem da_nil : DA X W [] mNil := ⟨_, pa_nil, sim_nil⟩
theorem da_cons {e : Expr} {m : ME} {ms : MA} (he : DE X W e m) (hr : DA X W es ms) (hs : starEach (e :: es) X.env = (false, eval e X.env) :: starEach es X.env := by rfl) : DA X W (e :: es) (mCons m ms) := by
  obtain ⟨t, p, s⟩ := he
  obtain ⟨t2, p2, s2⟩ := hr
  exact ⟨_, pa_cons p p2 hs, sim_cons s s2⟩
theorem sim_tup {K : PySem.W.Frag} {mg : Str → Option Value} {ta : TA} {ma : MA} (ha : SimA K mg W ta ma) : SimE K mg W (tTup ta) (mTup ma) := by
  intro Y H0 io T τ e s H Q rl p
  refine ha.then rl (P := PostE K mg W Y H0 io T τ s Q) p id postE_exc fun ds e' p vs H' hl rl' => ?_
  by_cases hz : ds.length ≤ sizeLine
  · rw [if_pos hz] at p
    exact ⟨by rw [hl]; exact hz, fun q hq => p _ _ (Rel.tuple hl rl' hq)⟩
  · rw [if_neg hz] at p; exact False.elim p
theorem de_tup {k} (h : DA X W es mas) : DE X W (.Tuple es k pos) (mTup mas) := by
  obtain ⟨t, p, s⟩ := h
  exact ⟨_, pe_tup p, sim_tup s⟩
theorem de_lst (h : DA X W es mas) : DE X W (.List es pos) (mLst mas) := by
  obtain ⟨t, p, s⟩ := h
  exact ⟨_, pe_lst p, sim_lst s⟩
theorem de_ix (ha : DE X W a ma) (hb : DE X W b mb) (hs : PlainIx b := by exact fun _ _ => rfl) : DE X W (.Subscript a b pos) (mOp2 dIx ma mb) := by
  obtain ⟨ta, pa, sa⟩ := ha
  obtain ⟨tb, pb, sb⟩ := hb
  exact ⟨_, pe_ix ix_seq pa pb hs, sim_op2 ok_ix sa sb⟩
theorem de_callB {x : Str} {id : String} {r : List V → Hp → VK → Prop} {f : List D → Option D} (hc : CallR X (.builtin id) r) (ok : OkL X.K r f) (hm : X.mg x = none) (ha : DA X W (a :: es) mas) (hv : bootBuiltins x = some (.builtin id))
    (hg : Gl X x := by rfl) (hn : x ≠ "__name__" := by decide) (hdb : (x == ("__debug__" : Str)) = false := by decide)
    (he : starEach (a :: es) X.env = (false, eval a X.env) :: starEach es X.env := by rfl) (hpl : (backTo pos (starEach es X.env)).any (·.1) = false := by rfl) : DE X W (.Call (.Name x p) (a :: es) [] pos) (mOpL f mas) := by
  obtain ⟨t, pa, s⟩ := ha
  exact ⟨_, pe_callB hc hg hm hv pa hn hdb he hpl, sim_opL ok s⟩
theorem de_callTy {x : Str} {T : String} {r : List V → Hp → VK → Prop} {f : List D → Option D} (hc : CallR X (.type T) r) (ok : OkL X.K r f) (hm : X.mg x = none) (ha : DA X W (a :: es) mas) (hv : bootBuiltins x = some (.type T))
    (hg : Gl X x := by rfl) (hn : x ≠ "__name__" := by decide) (hdb : (x == ("__debug__" : Str)) = false := by decide)
    (he : starEach (a :: es) X.env = (false, eval a X.env) :: starEach es X.env := by rfl) (hpl : (backTo pos (starEach es X.env)).any (·.1) = false := by rfl) : DE X W (.Call (.Name x p) (a :: es) [] pos) (mOpL f mas) := by
  obtain ⟨t, pa, s⟩ := ha
  exact ⟨_, pe_callTy hc hg hm hv pa hn hdb he hpl, sim_opL ok s⟩
end

structure BI (mg : Str → Option Value) : Prop where
  len : mg "len" = none
  isi : mg "isinstance" = none
  all : mg "all" = none
  any : mg "any" = none
  sum : mg "sum" = none
  min : mg "min" = none
  max : mg "max" = none
  sorted : mg "sorted" = none
  range : mg "range" = none
  enum : mg "enumerate" = none
  zip : mg "zip" = none
  tuple : mg "tuple" = none
  list : mg "list" = none
  dict : mg "dict" = none
  set : mg "set" = none
  str : mg "str" = none
  int : mg "int" = none
  bool : mg "bool" = none
  abs : mg "abs" = none
  divmod : mg "divmod" = none
  repr : mg "repr" = none
  verr : mg "ValueError" = none

section
variable {K : PySem.W.Frag}
theorem okL1 {r : List V → Hp → VK → Prop} {f : List D → Option D} (f1 : D → Option D) (hf : ∀ ds d, f ds = some d → ∃ x, ds = [x] ∧ f1 x = some d)
    (h : ∀ Y H0 io T τ e s H a va d Q, f1 a = some d → Rel K Y H0 io (a :: T) (va :: τ) e s H → (∀ v H', Rel K Y H0 io (d :: T) (v :: τ) e s H' → Q v H') → r [va] H Q) : OkL K r f := by
  intro Y H0 io T τ e s H ds vs d Q hd hl rl q
  obtain ⟨x, rfl, h1⟩ := hf ds d hd
  obtain ⟨v, rfl⟩ : ∃ v, vs = [v] := by
    match vs, hl with
    | [v], _ => exact ⟨v, rfl⟩
  exact h Y H0 io T τ e s H x v d Q h1 rl q
theorem okL2 {r : List V → Hp → VK → Prop} {f : List D → Option D} (f1 : D → D → Option D) (hf : ∀ ds d, f ds = some d → ∃ x y, ds = [x, y] ∧ f1 x y = some d)
    (h : ∀ Y H0 io T τ e s H a b va vb d Q, f1 a b = some d → Rel K Y H0 io (b :: a :: T) (vb :: va :: τ) e s H → (∀ v H', Rel K Y H0 io (d :: T) (v :: τ) e s H' → Q v H') → r [va, vb] H Q) : OkL K r f := by
  intro Y H0 io T τ e s H ds vs d Q hd hl rl q
  obtain ⟨x, y, rfl, h1⟩ := hf ds d hd
  obtain ⟨v, u, rfl⟩ : ∃ v u, vs = [v, u] := by
    match vs, hl with
    | [v, u], _ => exact ⟨v, u, rfl⟩
  exact h Y H0 io T τ e s H x y v u d Q h1 rl.swap q
def fn1 (f : D → Option D) : List D → Option D
  | [x] => f x
  | _ => none
def fn2 (f : D → D → Option D) : List D → Option D
  | [x, y] => f x y
  | _ => none
theorem fn1_of (f : D → Option D) : ∀ ds d, fn1 f ds = some d → ∃ x, ds = [x] ∧ f x = some d
  | [], d, h => by cases h
  | [x], d, h => ⟨x, rfl, h⟩
  | _ :: _ :: _, d, h => by cases h
theorem fn2_of (f : D → D → Option D) : ∀ ds d, fn2 f ds = some d → ∃ x y, ds = [x, y] ∧ f x y = some d
  | [], d, h => by cases h
  | [_], d, h => by cases h
  | [x, y], d, h => ⟨x, y, rfl, h⟩
  | _ :: _ :: _ :: _, d, h => by cases h

def dLen : D → Option D
  | .str z => if z.length ≤ sizeLine then some (.int z.length) else none
  | a => (items a).map fun ds => .int ds.length
theorem ok_len : OkL K (fun xs H Q => ∃ x n, xs = [x] ∧ LenV K x H n ∧ Q (.int n) H) (fn1 dLen) := by
  refine okL1 dLen (fn1_of _) fun Y H0 io T τ e s H a va d Q hf r q => ?_
  obtain ⟨P, as, o⟩ := r.top
  by_cases ha : ∃ z, a = .str z
  · obtain ⟨z, rfl⟩ := ha
    unfold dLen at hf
    simp only at hf
    by_cases c : z.length ≤ sizeLine
    · rw [if_pos c] at hf
      cases hf
      obtain rfl := o.str
      exact ⟨_, z.length, rfl, ⟨c, rfl⟩, q _ _ r.pop.int⟩
    · rw [if_neg c] at hf; cases hf
  · have hf : (items a).map (fun ds => D.int ds.length) = some d := by
      cases a <;> first | exact hf | exact absurd ⟨_, rfl⟩ ha
    obtain ⟨ds, hx, rfl⟩ := Option.map_eq_some_iff.mp hf
    obtain ⟨p1, v1, a1, rfl, t1, w1⟩ := o.seq hx
    refine ⟨_, ds.length, rfl, ?_, q _ _ r.pop.int⟩
    rcases t1 with t1 | t1
    · exact .inl ⟨v1, t1, w1.len.symm⟩
    · exact .inr ⟨v1, t1, w1.len.symm⟩
def kindOf : D → Option String
  | .non => some "NoneType" | .bl _ => some "bool" | .int _ => some "int" | .str _ => some "str" | .tup _ => some "tuple" | .lst _ => some "list" | .cst _ => some "list" | .own _ => some "list" | .raw _ => none | .dic => some "dict" | .dct _ => none | .odc _ => none | .odt _ => none | .odu _ => none | .odn _ => none | .odp _ => none | .dsk _ _ => none | .clo _ _ _ _ _ _ => none | .ownA _ _ => none | .cob _ _ _ _ _ _ _ _ => none
def isiT (k n : String) : Option Bool :=
  if ["NoneType", "bool", "int", "str", "tuple", "list", "dict"].contains k && ["bool", "int", "str", "tuple", "list"].contains n then some (k == n || (k == "bool" && n == "int")) else none
theorem isiT_all : ∀ k ∈ ["NoneType", "bool", "int", "str", "tuple", "list", "dict"], ∀ n ∈ ["bool", "int", "str", "tuple", "list"], kitB k n = some (k == n || (k == "bool" && n == "int")) := by decide +kernel
theorem isiT_ok {k n : String} {b : Bool} (h : isiT k n = some b) : kitB k n = some b := by
  unfold isiT at h
  by_cases c : (["NoneType", "bool", "int", "str", "tuple", "list", "dict"].contains k && ["bool", "int", "str", "tuple", "list"].contains n) = true
  · rw [if_pos c] at h
    rw [Bool.and_eq_true] at c
    rw [← h]
    exact isiT_all k (by simpa using c.1) n (by simpa using c.2)
  · rw [if_neg c] at h; cases h
theorem Own.tyx {P : Addr → Prop} {H : Hp} {d : D} {v : V} {as} {k : String} (h : Own K P H d v as) (e : kindOf d = some k) : TyX K H v (.type k) := by
  cases d <;> simp only [kindOf, Option.some.injEq, reduceCtorEq] at e <;> subst e
  · rw [h.non]; exact .base .non
  · rw [h.bl]; exact .base (.bl _)
  · rw [h.int]; exact .base (.int _)
  · rw [h.str]; exact .base (.str _)
  · obtain ⟨a, vs, rfl, q, _⟩ := h.tup
    rcases q with (q | ⟨o, q⟩) | ⟨o, _, _, q, c, _⟩
    · exact .base (.tup q.1)
    · exact .fTuple q
    · exact .kTuple q c
  · obtain ⟨a, vs, rfl, q, _⟩ := h.lst; exact .base (.lst q)
  · obtain ⟨a, vs, rfl, q, _⟩ := h.cst
    rcases q with ⟨o, q⟩ | ⟨o, _, _, q, c, _⟩
    · exact .base (.frz q)
    · exact .kList q c
  · obtain ⟨a, vs, bs, rfl, q, _⟩ := h.own; exact .base (.lst q)
  · obtain ⟨a, rfl, q, _⟩ := h.dic; exact .base (.dK q)
def dIsi : D → D → Option D
  | a, .raw (.ty n) => (kindOf a).bind fun k => (isiT k n).map D.bl
  | _, _ => none
theorem ok_isi : OkL K (rIsi K) (fn2 dIsi) := by
  refine okL2 dIsi (fn2_of _) fun Y H0 io T τ e s H a b va vb d Q hf r q => ?_
  obtain ⟨P, as, bs, o1, o2⟩ := r.top2
  obtain ⟨n, rfl⟩ : ∃ n, b = .raw (.ty n) := by
    cases b <;> try (simp [dIsi] at hf; done)
    rename_i v
    cases v <;> first | exact ⟨_, rfl⟩ | (simp [dIsi] at hf)
  unfold dIsi at hf
  obtain ⟨k, h1, hf⟩ := Option.bind_eq_some_iff.mp hf
  obtain ⟨c, h2, rfl⟩ := Option.map_eq_some_iff.mp hf
  obtain rfl := o1.raw
  exact ⟨va, .ty n, .type k, .type n, c, rfl, .ty n, o2.tyx h1, kit_ty (isiT_ok h2), q _ _ r.pop.pop.bl⟩
def dAll (a : D) : Option D := (litems a).bind fun ds => (blsD ds).map fun bs => .bl (bs.all id)
def dSum (a : D) : Option D := (litems a).bind fun ds => (intsD ds).map fun ns => .int ns.sum
theorem ok_all : OkL K (rAll K) (fn1 dAll) := by
  refine okL1 dAll (fn1_of _) fun Y H0 io T τ e s H a va d Q hf r q => ?_
  obtain ⟨P, as, o⟩ := r.top
  obtain ⟨ds, h1, hf⟩ := Option.bind_eq_some_iff.mp hf
  obtain ⟨bs, h2, rfl⟩ := Option.map_eq_some_iff.mp hf
  obtain ⟨p1, v1, a1, rfl, t1, w1⟩ := o.lseq h1
  obtain rfl := bls_eq h2
  obtain rfl := owns_bls w1
  exact ⟨p1, bs, rfl, t1, q _ _ r.pop.bl⟩
theorem ok_sum : OkL K (rSum K) (fn1 dSum) := by
  refine okL1 dSum (fn1_of _) fun Y H0 io T τ e s H a va d Q hf r q => ?_
  obtain ⟨P, as, o⟩ := r.top
  obtain ⟨ds, h1, hf⟩ := Option.bind_eq_some_iff.mp hf
  obtain ⟨bs, h2, rfl⟩ := Option.map_eq_some_iff.mp hf
  obtain ⟨p1, v1, a1, rfl, t1, w1⟩ := o.lseq h1
  obtain rfl := ints_eq h2
  obtain rfl := owns_ints w1
  exact ⟨p1, bs, rfl, t1, q _ _ r.pop.int⟩
def dTuple : D → Option D
  | .tup ds => some (.tup ds)
  | a => (litems a).map fun ds => .tup (frzs ds)
def dList (a : D) : Option D := (items a).map fun ds => .own ds
theorem ok_tuple : OkL K (fun xs H Q => ∃ p ys, xs = [.ref p] ∧ ((SqL K H p ys ∧ ∀ l, H l = none → Q (.ref l) (upd H l (.tup ys))) ∨ (SqT K H p ys ∧ Q (.ref p) H))) (fn1 dTuple) := by
  refine okL1 dTuple (fn1_of _) fun Y H0 io T τ e s H a va d Q hf r q => ?_
  by_cases ha : ∃ ds, a = .tup ds
  · obtain ⟨ds, rfl⟩ := ha
    obtain ⟨P, as, o⟩ := r.top
    cases hf
    obtain ⟨p1, v1, rfl, t1, r1⟩ := o.tup
    exact ⟨p1, v1, rfl, .inr ⟨t1.sq, q _ _ r⟩⟩
  · have hf : (litems a).map (fun ds => D.tup (frzs ds)) = some d := by
      cases a <;> first | exact hf | exact absurd ⟨_, rfl⟩ ha
    obtain ⟨ds, h1, rfl⟩ := Option.map_eq_some_iff.mp hf
    have r := r.frz
    obtain ⟨P, as, nd, o, g⟩ := r.swap1
    have h2 : litems a.frz = some (frzs ds) := by
      cases a <;> simp only [litems, Option.some.injEq, reduceCtorEq] at h1 <;> subst h1 <;> rfl
    obtain ⟨p1, v1, a1, rfl, t1, w1⟩ := o.lseq h2
    refine ⟨p1, v1, rfl, .inl ⟨t1, fun l hl => ?_⟩⟩
    have hs : Same H (upd H l (.tup v1)) := same_new hl
    obtain ⟨w2, _⟩ := Owns.reps (plains_frz ds) w1
    refine q _ _ (g _ (.tup (frzs ds)) _ [] hs List.nodup_nil (fun _ z => nomatch z) fun P' hP hT _ => Own.of ?_)
    unfold Rep
    exact ⟨l, v1, rfl, .inl (.inl ⟨upd_same, fun z => hT l _ z upd_same⟩), Reps.mono (swap_plain (as := []) hs hP) _ w2⟩
theorem ok_list : OkL K (fun xs H Q => ∃ p ys, xs = [.ref p] ∧ (SqL K H p ys ∨ SqT K H p ys) ∧ ∀ l, H l = none → Q (.ref l) (upd H l (.lst ys))) (fn1 dList) := by
  refine okL1 dList (fn1_of _) fun Y H0 io T τ e s H a va d Q hf r q => ?_
  obtain ⟨ds, h1, rfl⟩ := Option.map_eq_some_iff.mp hf
  obtain ⟨P, as, nd, o, g⟩ := r.swap1
  obtain ⟨p1, v1, a1, rfl, t1, w1, s1, n1⟩ := o.seqA h1
  refine ⟨p1, v1, rfl, t1, fun l hl => ?_⟩
  have hs : Same H (upd H l (.lst v1)) := same_new hl
  refine q _ _ (g _ (.own ds) _ (l :: a1) hs ?_ (fun z hz => ?_) fun P' hP hT _ => ?_)
  · refine List.nodup_cons.mpr ⟨fun z => ?_, n1 nd⟩
    obtain ⟨vs, w, nt⟩ := Owns.there _ w1 l z
    rw [hl] at w; cases w
  · rcases List.mem_cons.mp hz with rfl | hz
    · exact ⟨.inr hl, _, upd_same, fun _ z => nomatch z⟩
    · obtain ⟨vs, w, nt⟩ := Owns.there _ w1 z hz
      exact ⟨.inl (s1 z hz), vs, hs z _ w, nt⟩
  · unfold Own
    exact ⟨l, v1, a1, rfl, upd_same, swap_owns hs hP w1, rfl⟩
def dInt : D → Option D
  | .int i => some (.int i)
  | .bl k => some (.int (if k then 1 else 0))
  | _ => none
theorem ok_int : OkL K (fun xs H Q => (∃ i, xs = [.int i] ∧ Q (.int i) H) ∨ ∃ k, xs = [.bl k] ∧ Q (.int (if k then 1 else 0)) H) (fn1 dInt) := by
  refine okL1 dInt (fn1_of _) fun Y H0 io T τ e s H a va d Q hf r q => ?_
  cases a <;> simp only [dInt, Option.some.injEq, reduceCtorEq] at hf <;> subst hf
  · exact .inr ⟨_, by rw [r.isBl], q _ _ r.pop.int⟩
  · exact .inl ⟨_, by rw [r.isInt], q _ _ r.pop.int⟩
def dMax2 := fI (fun _ _ => True) fun i j => .int (if j > i then j else i)
def dMin2 := fI (fun _ _ => True) fun i j => .int (if j < i then j else i)
theorem ok_max2 : OkL K (fun xs H Q => ∃ i j, xs = [.int i, .int j] ∧ Q (.int (if j > i then j else i)) H) (fn2 dMax2) := by
  refine okL2 dMax2 (fn2_of _) fun Y H0 io T τ e s H a b va vb d Q hf r q => ?_
  obtain ⟨i, j, e1, e2, z⟩ := ok_fI0 (K := K) (g := fun i j => .int (if j > i then j else i)) (gv := fun i j => .int (if j > i then j else i)) (fun _ _ _ _ => rep_int) Y H0 io T τ e s H a b va vb d Q hf r q
  exact ⟨i, j, by rw [e1, e2], z⟩
theorem ok_min2 : OkL K (fun xs H Q => ∃ i j, xs = [.int i, .int j] ∧ Q (.int (if j < i then j else i)) H) (fn2 dMin2) := by
  refine okL2 dMin2 (fn2_of _) fun Y H0 io T τ e s H a b va vb d Q hf r q => ?_
  obtain ⟨i, j, e1, e2, z⟩ := ok_fI0 (K := K) (g := fun i j => .int (if j < i then j else i)) (gv := fun i j => .int (if j < i then j else i)) (fun _ _ _ _ => rep_int) Y H0 io T τ e s H a b va vb d Q hf r q
  exact ⟨i, j, by rw [e1, e2], z⟩
instance (i j : Int) : Decidable (CDivP i j) := by unfold CDivP; infer_instance
end
end Mi

namespace Mi
open PySem PySem.Spec PyProof.Rows L2
variable [TabsC]

def mT (ma : ME) : MT := fun e => (ma e).bind fun p => match p.1 with
  | .bl b => .ok (b, p.2)
  | _ => .err
def mNotT (m : MT) : MT := fun e => (m e).bind fun p => .ok (!p.1, p.2)
def mAndT (m n : MT) : MT := fun e => (m e).bind fun p => if p.1 = true then n p.2 else .ok (false, p.2)
def mOrT (m n : MT) : MT := fun e => (m e).bind fun p => if p.1 = true then .ok (true, p.2) else n p.2
def mAndV (m n : ME) : ME := fun e => (m e).bind fun p => match p.1 with
  | .bl true => n p.2
  | .bl false => .ok (.bl false, p.2)
  | _ => .err
def dNot : D → Option D
  | .bl b => some (.bl (!b))
  | _ => none
def DW (X : Cx) (W : WX) (e : Expr) (m : MT) : Prop := ∃ t, PW X e t ∧ SimT X.K X.mg W t m
section
variable {K : PySem.W.Frag} {mg : Str → Option Value} {W : WX}
theorem SimT.then {t : TT} {m : MT} (h : SimT K mg W t m) {Y H0 io T τ e s H} {Q : Bool → Hp → Prop} (r : Rel K Y H0 io T τ e s H) {β : Type} {k : Bool × Env → Rs β} {P : Rs β → Prop} (p : P ((m e).bind k)) (herr : ¬ P .err)
    (hexc : ∀ c fs e', P (.exc c fs e') → ∀ cls dd H', XR mg H' c fs cls dd → Rel K Y H0 io T τ e' s H' → W cls dd s H')
    (hk : ∀ b e', P (k (b, e')) → ∀ H', Rel K Y H0 io T τ e' s H' → Q b H') : t s H Q := by
  refine h Y H0 io T τ e s H Q r ?_
  cases q : m e with
  | ok a =>
    obtain ⟨d, e'⟩ := a
    rw [q] at p
    exact hk d e' p
  | exc c fs e' =>
    rw [q] at p
    exact hexc c fs e' p
  | err => rw [q] at p; exact (herr p).elim
theorem sim_test {t : TE} {m : ME} (h : SimE K mg W t m) : SimT K mg W (tTest t) (mT m) := by
  intro Y H0 io T τ e s H Q r p
  refine h.then r (P := PostT K mg W Y H0 io T τ s Q) p id postT_exc fun d e' p v H' rl => ?_
  obtain ⟨b, rfl⟩ : ∃ b, d = .bl b := by cases d <;> first | exact ⟨_, rfl⟩ | exact False.elim p
  exact ⟨b, rl.isBl, p H' rl.pop⟩
theorem sim_notT {t : TT} {m : MT} (h : SimT K mg W t m) : SimT K mg W (tNot t) (mNotT m) := by
  intro Y H0 io T τ e s H Q r p
  exact h.then r (P := PostT K mg W Y H0 io T τ s Q) p id postT_exc fun b e' p H' rl => p H' rl
theorem sim_andT {t u : TT} {m n : MT} (h : SimT K mg W t m) (h2 : SimT K mg W u n) : SimT K mg W (tAnd t u) (mAndT m n) := by
  intro Y H0 io T τ e s H Q r p
  refine h.then r (P := PostT K mg W Y H0 io T τ s Q) p id postT_exc fun b e' p H' rl => ?_
  cases b with
  | true => rw [if_pos rfl]; exact h2 Y H0 io T τ e' s H' Q rl p
  | false => rw [if_neg Bool.false_ne_true]; exact p H' rl
theorem sim_orT {t u : TT} {m n : MT} (h : SimT K mg W t m) (h2 : SimT K mg W u n) : SimT K mg W (tOr t u) (mOrT m n) := by
  intro Y H0 io T τ e s H Q r p
  refine h.then r (P := PostT K mg W Y H0 io T τ s Q) p id postT_exc fun b e' p H' rl => ?_
  cases b with
  | false => rw [if_neg Bool.false_ne_true]; exact h2 Y H0 io T τ e' s H' Q rl p
  | true => rw [if_pos rfl]; exact p H' rl
theorem sim_andV {t u : TE} {m n : ME} (h : SimE K mg W t m) (h2 : SimE K mg W u n) : SimE K mg W (tAndV t u) (mAndV m n) := by
  intro Y H0 io T τ e s H Q r p
  refine h.then r (P := PostE K mg W Y H0 io T τ s Q) p id postE_exc fun d e' p v H' rl => ?_
  obtain ⟨b, rfl⟩ : ∃ b, d = .bl b := by cases d <;> first | exact ⟨_, rfl⟩ | exact False.elim p
  refine ⟨b, rl.isBl, ?_⟩
  cases b with
  | true => rw [if_pos rfl]; exact h2 Y H0 io T τ e' s H' Q rl.pop p
  | false => rw [if_neg Bool.false_ne_true]; exact p _ H' (by have z := rl; obtain rfl := rl.isBl; exact z)
theorem sim_notV {t : TE} {m : ME} (h : SimE K mg W t m) : SimE K mg W (tNotV t) (mOp1 dNot m) := by
  intro Y H0 io T τ e s H Q r p
  refine h.then r (P := PostE K mg W Y H0 io T τ s Q) p id postE_exc fun d e' p v H' rl => ?_
  obtain ⟨b, rfl⟩ : ∃ b, d = .bl b := by cases d <;> first | exact ⟨_, rfl⟩ | exact False.elim p
  exact ⟨b, rl.isBl, p _ H' rl.pop.bl⟩
end
section
variable {X : Cx} {W : WX} {pos p : Pos} {a b c : Expr} {es : List Expr} {ma mb mc : ME} {na nb : MT}
theorem dt_val (h : DE X W a ma) (he : ∀ whole, isTrue a X.env whole = (do let v ← whole; standAt a.pos; holding [v] (truthy v)) := by intro _; rfl) : DT X W a (mT ma) := by
  obtain ⟨t, p, s⟩ := h
  exact ⟨_, pt_val p he, sim_test s⟩
theorem dt_cmp {op : CmpOp} {r : R2} {f : D → D → Option D} (ho : OpR X (compareOp op) r) (ok : Ok2 X.K r f) (hm : behindInMarks op b = false) (ha : DE X W a ma) (hb : DE X W b mb) : DT X W (.Compare a [op] [b] pos) (mT (mOp2 f ma mb)) := by
  obtain ⟨ta, pa, sa⟩ := ha
  obtain ⟨tb, pb, sb⟩ := hb
  exact ⟨_, pt_cmpR ho pa pb hm, sim_test (sim_op2 ok sa sb)⟩
theorem dt_eq (hu : X.A.units + 64 < cLine) (ha : DE X W a ma) (hb : DE X W b mb) : DT X W (.Compare a [.Eq] [b] pos) (mT (mOp2 dEq ma mb)) := dt_cmp (op_eqD hu) ok_eq (nomark _) ha hb
theorem dt_ne (hu : X.A.units + 64 < cLine) (ha : DE X W a ma) (hb : DE X W b mb) : DT X W (.Compare a [.NotEq] [b] pos) (mT (mOp2 dNe ma mb)) := dt_cmp (op_neD hu) ok_ne (nomark _) ha hb
theorem dt_le (ha : DE X W a ma) (hb : DE X W b mb) : DT X W (.Compare a [.LtE] [b] pos) (mT (mOp2 dLe ma mb)) := dt_cmp op_le (ok_fI0 fun _ _ _ _ => rep_bl) (nomark _) ha hb
theorem dt_lt (hu : X.A.units + 64 < cLine) (ha : DE X W a ma) (hb : DE X W b mb) : DT X W (.Compare a [.Lt] [b] pos) (mT (mOp2 dLt ma mb)) := dt_cmp (op_lt.or (op_ltT (by omega))) ((ok_fI0 fun _ _ _ _ => rep_bl).or ok_ltT) (nomark _) ha hb
theorem dt_in (hu : X.A.units + 65 < cLine) (ha : DE X W a ma) (hb : DE X W b mb) (hm : behindInMarks .In b = false := by rfl) : DT X W (.Compare a [.In] [b] pos) (mT (mOp2 dIn ma mb)) := dt_cmp ((op_inD hu).or (op_inTD hu)) ok_in hm ha hb
theorem dt_notIn (hu : X.A.units + 65 < cLine) (ha : DE X W a ma) (hb : DE X W b mb) (hm : behindInMarks .NotIn b = false := by rfl) : DT X W (.Compare a [.NotIn] [b] pos) (mT (mOp2 dNotIn ma mb)) := dt_cmp ((op_notInD hu).or (op_notInTD hu)) ok_notIn hm ha hb
theorem dt_chain {op op' : CmpOp} {r r' : R2} {f g : D → D → Option D} (ho : OpR X (compareOp op) r) (ho' : OpR X (compareOp op') r') (ok : Ok2 X.K r f) (ok' : Ok2 X.K r' g) (ha : DE X W a ma) (hb : DE X W b mb) (hc : DE X W c mc)
    (hm : lastMarks [op, op'] [b, c] = false := by with_unfolding_all rfl) : DT X W (.Compare a [op, op'] [b, c] pos) (mT (mChain f g ma mb mc)) := by
  obtain ⟨ta, pa, sa⟩ := ha
  obtain ⟨tb, pb, sb⟩ := hb
  obtain ⟨tc, pc, sc⟩ := hc
  exact ⟨_, pt_chain ho ho' pa pb pc hm, sim_test (sim_chain ok ok' sa sb sc)⟩
theorem dt_leLe (ha : DE X W a ma) (hb : DE X W b mb) (hc : DE X W c mc) (hm : lastMarks [.LtE, .LtE] [b, c] = false := by with_unfolding_all rfl) : DT X W (.Compare a [.LtE, .LtE] [b, c] pos) (mT (mChain dLe dLe ma mb mc)) := dt_chain op_le op_le (ok_fI0 fun _ _ _ _ => rep_bl) (ok_fI0 fun _ _ _ _ => rep_bl) ha hb hc hm
theorem dt_not (h : DT X W a na) : DT X W (.UnaryOp .Not a pos) (mNotT na) := by
  obtain ⟨t, p, s⟩ := h
  exact ⟨_, pt_not p, sim_notT s⟩
theorem dw_and1 (h : DT X W a na) : DW X W (.BoolOp .And [a] pos) na := by
  obtain ⟨t, p, s⟩ := h
  exact ⟨_, pw_and1 p, s⟩
theorem dw_or1 (h : DT X W a na) : DW X W (.BoolOp .Or [a] pos) na := by
  obtain ⟨t, p, s⟩ := h
  exact ⟨_, pw_or1 p, s⟩
theorem dw_and (h : DT X W a na) (h2 : DW X W (.BoolOp .And (b :: es) pos) nb) : DW X W (.BoolOp .And (a :: b :: es) pos) (mAndT na nb) := by
  obtain ⟨t, p, s⟩ := h
  obtain ⟨t2, p2, s2⟩ := h2
  exact ⟨_, pw_and p p2, sim_andT s s2⟩
theorem dw_or (h : DT X W a na) (h2 : DW X W (.BoolOp .Or (b :: es) pos) nb) : DW X W (.BoolOp .Or (a :: b :: es) pos) (mOrT na nb) := by
  obtain ⟨t, p, s⟩ := h
  obtain ⟨t2, p2, s2⟩ := h2
  exact ⟨_, pw_or p p2, sim_orT s s2⟩
theorem dt_dw (h : DW X W a na) : DT X W a na := by
  obtain ⟨t, p, s⟩ := h
  exact ⟨_, p.pt, s⟩
theorem de_one {op} (h : DE X W a ma) : DE X W (.BoolOp op [a] pos) ma := by
  obtain ⟨t, p, s⟩ := h
  exact ⟨_, pe_one p, s⟩
theorem de_andV (h : DE X W a ma) (h2 : DE X W (.BoolOp .And (b :: es) pos) mb) : DE X W (.BoolOp .And (a :: b :: es) pos) (mAndV ma mb) := by
  obtain ⟨t, p, s⟩ := h
  obtain ⟨t2, p2, s2⟩ := h2
  exact ⟨_, pe_and p p2, sim_andV s s2⟩
theorem de_notV (h : DE X W a ma) : DE X W (.UnaryOp .Not a pos) (mOp1 dNot ma) := by
  obtain ⟨t, p, s⟩ := h
  exact ⟨_, pe_not p, sim_notV s⟩
end

def mSeq (m n : MS) : MS := fun e => match m e with
  | .nx e' => n e'
  | r => r
def mNext : MS := fun e => .nx e
def mDrop (m : ME) : MS := fun e => match m e with
  | .ok (_, e') => .nx e'
  | .exc c fs e' => .exc c fs e'
  | .err => .err
def mRet (m : ME) : MS := fun e => match m e with
  | .ok (d, e') => .rt d e'
  | .exc c fs e' => .exc c fs e'
  | .err => .err
def mIfS (c : MT) (m n : MS) : MS := fun e => match c e with
  | .ok (b, e') => if b = true then m e' else n e'
  | .exc c fs e' => .exc c fs e'
  | .err => .err
abbrev MG := D → Env → Option Env
def mgName (i : Nat) : MG := fun d e => if i < e.length then some (e.set i (some d)) else none
def mAsg (m : ME) (g : MG) : MS := fun e => match m e with
  | .ok (d, e') => match g d e' with
    | some e2 => .nx e2
    | none => .err
  | .exc c fs e' => .exc c fs e'
  | .err => .err
section
variable {K : PySem.W.Frag} {mg : Str → Option Value} {W : WX} {ios : List Nat}
def SimG (K : PySem.W.Frag) (ios vs : List Nat) (g : TG) (m : MG) : Prop := ∀ Y H0 io T τ e s H d v e' Q, IoIn io ios → m d e = some e' → Rel K Y H0 io (d :: T) (v :: τ) e s H →
  (∀ s' H', Rel K Y H0 io T τ e' s' H' → (∀ ws, (∀ i ∈ vs, i ∈ ws) → wipe s' ws = wipe s ws) → Q s' H') → g v s H Q
theorem sim_seq {t u : TS} {m n : MS} (h : SimS K mg W ios t m) (h2 : SimS K mg W ios u n) : SimS K mg W ios (tSeq t u) (mSeq m n) := by
  intro Y H0 io T τ e s H D hi r p
  refine h Y H0 io T τ e s H _ hi r ?_
  unfold mSeq at p
  cases q : m e with
  | nx e' => rw [q] at p; exact fun s' H' r' => h2 Y H0 io T τ e' s' H' D hi r' p
  | rt d e' => rw [q] at p; exact p
  | bk e' => rw [q] at p; exact p
  | ct e' => rw [q] at p; exact p
  | exc c fs e' => rw [q] at p; exact p
  | err => rw [q] at p; exact p
theorem sim_next : SimS K mg W ios tNext mNext := fun Y H0 io T τ e s H D hi r p => p s H r
theorem SimE.stm {t : TE} {m : ME} (h : SimE K mg W t m) {Y H0 io T τ e s H} {D : Ends} {Q : VK} (r : Rel K Y H0 io T τ e s H) {k : Mi.D × Env → Sr}
    (p : PostS K mg W Y H0 io T τ D (match m e with | .ok a => k a | .exc c fs e' => .exc c fs e' | .err => .err))
    (hk : ∀ d e', PostS K mg W Y H0 io T τ D (k (d, e')) → ∀ v H', Rel K Y H0 io (d :: T) (v :: τ) e' s H' → Q v H') : t s H Q := by
  refine h Y H0 io T τ e s H Q r ?_
  cases q : m e with
  | ok a =>
    obtain ⟨d, e'⟩ := a
    rw [q] at p
    exact hk d e' p
  | exc c fs e' =>
    rw [q] at p
    exact fun cls dd H' x rl => p cls dd s H' x rl
  | err => rw [q] at p; exact p
theorem sim_drop {t : TE} {m : ME} (h : SimE K mg W t m) : SimS K mg W ios (tDrop t) (mDrop m) := by
  intro Y H0 io T τ e s H D hi r p
  refine h.stm (k := fun a => .nx a.2) r (by unfold mDrop at p; cases q : m e <;> rw [q] at p <;> exact p) fun d e' p v H' rl => p s H' rl.pop
theorem sim_ret {t : TE} {m : ME} (h : SimE K mg W t m) : SimS K mg W ios (tRet t) (mRet m) := by
  intro Y H0 io T τ e s H D hi r p
  refine h.stm (k := fun a => .rt a.1 a.2) r (by unfold mRet at p; cases q : m e <;> rw [q] at p <;> exact p) fun d e' p v H' rl => p v s H' rl
theorem sim_ifS {tc : TT} {t u : TS} {c : MT} {m n : MS} (hc : SimT K mg W tc c) (h : SimS K mg W ios t m) (h2 : SimS K mg W ios u n) : SimS K mg W ios (tIfS tc t u) (mIfS c m n) := by
  intro Y H0 io T τ e s H D hi r p
  refine hc Y H0 io T τ e s H _ r ?_
  unfold mIfS at p
  cases q : c e with
  | ok a =>
    obtain ⟨b, e'⟩ := a
    rw [q] at p
    intro H' rl
    cases b with
    | true => rw [if_pos rfl]; exact h Y H0 io T τ e' s H' D hi rl p
    | false => rw [if_neg Bool.false_ne_true]; exact h2 Y H0 io T τ e' s H' D hi rl p
  | exc c fs e' => rw [q] at p; exact fun cls dd H' x rl => p cls dd s H' x rl
  | err => rw [q] at p; exact p
theorem wipe_set {s : St} {i : Nat} {x : Option V} : ∀ {ws : List Nat}, i ∈ ws → wipe (s.set i x) ws = wipe s ws
  | [], h => by cases h
  | w :: ws, h => by
    unfold wipe
    by_cases hw : i ∈ ws
    · rw [wipe_set hw]
    · obtain rfl : i = w := by simpa [hw] using h
      have key : ∀ vs : List Nat, i ∉ vs → wipe (s.set i x) vs = (wipe s vs).set i x := by
        intro vs
        induction vs with
        | nil => intro _; rfl
        | cons v vs ih =>
          intro hv
          simp only [List.mem_cons, not_or] at hv
          show (wipe (s.set i x) vs).set v none = ((wipe s vs).set v none).set i x
          rw [ih hv.2, List.set_comm _ _ hv.1]
      rw [key ws hw, List.set_set]
theorem sim_gName {i : Nat} (hn : i ∉ ios) : SimG K ios [i] (gName i) (mgName i) := by
  intro Y H0 io T τ e s H d v e' Q hi hm r q
  unfold mgName at hm
  by_cases c : i < e.length
  · rw [if_pos c] at hm
    cases hm
    exact q _ _ (r.put c fun p hp z0 z => hn (z ▸ hi p hp z0)) fun ws hw => wipe_set (hw i (by simp))
  · rw [if_neg c] at hm; cases hm
theorem sim_asg {t : TE} {m : ME} {g : TG} {mg' : MG} {vs : List Nat} (h : SimE K mg W t m) (hg : SimG K ios vs g mg') : SimS K mg W ios (tAsg t g) (mAsg m mg') := by
  intro Y H0 io T τ e s H D hi r p
  refine h.stm (k := fun a => match mg' a.1 a.2 with | some e2 => .nx e2 | none => .err) r (by unfold mAsg at p; cases q : m e <;> rw [q] at p <;> exact p) fun d e' p v H' rl => ?_
  cases q : mg' d e' with
  | none => simp only [q] at p; exact False.elim p
  | some e2 =>
    simp only [q] at p
    exact hg Y H0 io T τ e' s H' d v e2 _ hi q rl fun s' H2 r2 _ => p s' H2 r2
end
section
variable {X : Cx} {W : WX} {ios : List Nat} {pos : Pos} {a : Expr} {st : Stmt} {sts b1 b2 : List Stmt} {ma : ME} {m n : MS} {c : MT}
theorem ds_expr (h : DE X W a ma) (hs : swapsWith a none pos.line X.env = pure false := by rfl) : DS X W ios (.Expr a pos) (mDrop ma) := by
  obtain ⟨t, p, s⟩ := h
  exact ⟨_, ps_expr p hs, sim_drop s⟩
theorem ds_ret (h : DE X W a ma) : DS X W ios (.Return (some a) pos) (mRet ma) := by
  obtain ⟨t, p, s⟩ := h
  exact ⟨_, ps_ret p, sim_ret s⟩
theorem ds_if (hc : DT X W a c) (h : DB X W ios b1 m) (h2 : DB X W ios b2 n) : DS X W ios (.If a b1 b2 pos) (mIfS c m n) := by
  obtain ⟨t, p, s⟩ := hc
  obtain ⟨t1, p1, s1⟩ := h
  obtain ⟨t2, p2, s2⟩ := h2
  exact ⟨_, ps_if p p1 p2, sim_ifS s s1 s2⟩
theorem db_nil : DB X W ios [] mNext := ⟨_, pss_nil, sim_next⟩
theorem db_one (h : DS X W ios st m) : DB X W ios [st] m := by
  obtain ⟨t, p, s⟩ := h
  exact ⟨_, pss_one p, s⟩
theorem db_cons (h : DS X W ios st m) (h2 : DB X W ios sts n) : DB X W ios (st :: sts) (mSeq m n) := by
  obtain ⟨t, p, s⟩ := h
  obtain ⟨t2, p2, s2⟩ := h2
  exact ⟨_, pss_cons p p2, sim_seq s s2⟩
theorem ds_set {i : Nat} {x : Str} {p' : Pos} (hN : X.N.Nodup) (h : DE X W a ma) (hn : i ∉ ios := by decide) (hi : X.N[i]? = some x := by rfl) (hx : Loc X.env.scope x := by first | exact Or.inl rfl | exact Or.inr rfl)
    (hs : swapsWith a (some (.Name x p')) pos.line X.env = pure false := by rfl) (hf : X.fn x = true ∨ X.env.scope.names.lookup x = some .local := by first | exact .inl rfl | exact .inr rfl) : DS X W ios (.Assign [.Name x p'] a pos) (mAsg ma (mgName i)) := by
  obtain ⟨t, p, s⟩ := h
  exact ⟨_, ps_set hN hi hx p hs hf, sim_asg s (sim_gName hn)⟩
def DG (X : Cx) (ios vs : List Nat) (tg : Expr) (m : MG) : Prop := ∃ g, PG X tg g ∧ SimG X.K ios vs g m
theorem dg_name {i : Nat} {x : Str} (hN : X.N.Nodup) (hn : i ∉ ios := by decide) (hi : X.N[i]? = some x := by rfl) (hx : Loc X.env.scope x := by first | exact Or.inl rfl | exact Or.inr rfl)
    (hf : X.fn x = true ∨ X.env.scope.names.lookup x = some .local := by first | exact .inl rfl | exact .inr rfl) : DG X ios [i] (.Name x pos) (mgName i) := ⟨_, pg_name hN hi hx hf, sim_gName hn⟩
abbrev MGs := List D → Env → Option Env
def mgNil : MGs := fun ds e => match ds with
  | [] => some e
  | _ => none
def mgCons (g : MG) (gs : MGs) : MGs := fun ds e => match ds with
  | d :: ds => (g d e).bind fun e' => gs ds e'
  | [] => none
def SimGs (K : PySem.W.Frag) (ios vs : List Nat) (g : TGs) (m : MGs) : Prop := ∀ Y H0 io T τ e s H ds us e' Q, IoIn io ios → m ds e = some e' → us.length = ds.length → Rel K Y H0 io (ds ++ T) (us ++ τ) e s H →
  (∀ s' H', Rel K Y H0 io T τ e' s' H' → (∀ ws, (∀ i ∈ vs, i ∈ ws) → wipe s' ws = wipe s ws) → Q s' H') → g us s H Q
def DGs (X : Cx) (ios vs : List Nat) (tgs : List Expr) (m : MGs) : Prop := ∃ g, PGs X tgs g ∧ SimGs X.K ios vs g m
theorem dgs_nil : DGs X ios [] [] mgNil := by
  refine ⟨_, pgs_nil, fun Y H0 io T τ e s H ds us e' Q hi hm hl r q => ?_⟩
  cases ds with
  | nil =>
    cases hm
    obtain rfl : us = [] := List.eq_nil_of_length_eq_zero hl
    exact ⟨rfl, q s H r fun ws _ => rfl⟩
  | cons d ds => cases hm
theorem dgs_cons {e : Expr} {es : List Expr} {vs ws : List Nat} {g : MG} {gs : MGs} (h : DG X ios vs e g) (h2 : DGs X ios ws es gs) (hs : (assignEach (e :: es) X.env).map (·.2) = assign e X.env :: (assignEach es X.env).map (·.2) := by rfl) :
    DGs X ios (vs ++ ws) (e :: es) (mgCons g gs) := by
  obtain ⟨t, p, s⟩ := h
  obtain ⟨t2, p2, s2⟩ := h2
  refine ⟨_, pgs_cons p p2 hs, fun Y H0 io T τ en s' H ds us e' Q hi hm hl r q => ?_⟩
  cases ds with
  | nil => cases hm
  | cons d ds =>
    cases us with
    | nil => cases hl
    | cons u us =>
      obtain ⟨e1, h1, h3⟩ := Option.bind_eq_some_iff.mp hm
      refine ⟨u, us, rfl, s Y H0 io (ds ++ T) (us ++ τ) en s' H d u e1 _ hi h1 r fun s1 H1 r1 w1 => ?_⟩
      refine s2 Y H0 io T τ e1 s1 H1 ds us e' Q hi h3 (by simpa using hl) r1 fun s2 H2 r2 w2 => q s2 H2 r2 fun zs hz => ?_
      rw [w2 zs fun i hi => hz i (List.mem_append_right _ hi), w1 zs fun i hi => hz i (List.mem_append_left _ hi)]
def mgTup (n : Nat) (gs : MGs) : MG := fun d e => match d with
  | .tup ds => if ds.length = n then gs ds e else none
  | _ => none
theorem Rel.untup {K : PySem.W.Frag} {Y : Addr → Prop} {H0 H : Hp} {io : List (Nat × Addr)} {T : List D} {t : List V} {e : Env} {s : St} {ds : List D} {v : V} (r : Rel K Y H0 io (.tup ds :: T) (v :: t) e s H) :
    ∃ a vs, v = .ref a ∧ SqT K H a vs ∧ vs.length = ds.length ∧ Rel K Y H0 io (ds ++ T) (vs ++ t) e s H := by
  obtain ⟨as, bs, h1, h2, h3, h4, h5, h6⟩ := r
  unfold Owns at h1
  obtain ⟨v', r', b1, c1, e1, o1, o2, ea⟩ := h1
  cases e1; subst ea
  obtain ⟨q1, q2⟩ := o1.rep (fun _ z => nomatch z)
  subst q2
  unfold Rep at q1
  obtain ⟨a, vs, rfl, q3, q4⟩ := q1
  exact ⟨a, vs, rfl, q3.sq, q4.len, [] ++ c1, bs, Owns.join ds (Owns.of q4) o2, h2, h3, h4, h5, h6⟩
theorem dg_tup {es : List Expr} {k n : Nat} {vs : List Nat} {gs : MGs} (hc : X.calm = true) (h : DGs X ios vs es gs) (hn : (assignEach es X.env).length = n := by rfl) (hst : (assignEach es X.env).findIdx? (·.1) = none := by rfl) :
    DG X ios vs (.Tuple es k pos) (mgTup n gs) := by
  obtain ⟨t, p, s⟩ := h
  refine ⟨_, pg_tup hc p hn hst, fun Y H0 io T τ en s' H d v e' Q hi hm r q => ?_⟩
  cases d <;> simp only [mgTup, reduceCtorEq] at hm
  rename_i ds
  by_cases c : ds.length = n
  · rw [if_pos c] at hm
    obtain ⟨a, us, rfl, h1, h2, r2⟩ := r.untup
    exact ⟨a, us, rfl, h1, by rw [h2, c], s Y H0 io T τ en s' H ds us e' Q hi hm h2 r2 q⟩
  · rw [if_neg c] at hm; cases hm
theorem ds_asg {tg : Expr} {g : MG} {vs : List Nat} (h : DE X W a ma) (hg : DG X ios vs tg g) (hs : swapsWithSole [tg] a pos.line X.env = pure false := by rfl) (hw : swappedStores [tg] a X.env = pure none := by rfl)
    (h1 : (assignEach [tg] X.env).map (·.2) = [assign tg X.env] := by rfl) : DS X W ios (.Assign [tg] a pos) (mAsg ma g) := by
  obtain ⟨t, p, s⟩ := h
  obtain ⟨t2, p2, s2⟩ := hg
  exact ⟨_, ps_asg p p2 hs hw h1, sim_asg s s2⟩
end
end Mi

namespace Mi
open PySem PySem.Spec PyProof.Rows L2
variable [TabsC]

section
variable {K : PySem.W.Frag} {Y : Addr → Prop} {H0 H H' : Hp} {io : List (Nat × Addr)} {T : List D} {t : List V} {e : Env} {s : St} {d : D} {v : V}
theorem Rel.unmid {A : List D} {va : List V} (hl : va.length = A.length) (r : Rel K Y H0 io (d :: (A ++ T)) (v :: (va ++ t)) e s H) : Rel K Y H0 io (A ++ d :: T) (va ++ v :: t) e s H := by
  obtain ⟨as, bs, h1, h2, h3, h4, h5, h6⟩ := r
  unfold Owns at h1
  obtain ⟨v', r', b1, c1, e1, o1, o2, ea⟩ := h1
  cases e1; subst ea
  obtain ⟨v1, v2, a1, a2, e1, e2, e3, q1, q2⟩ := Owns.split A o2
  obtain ⟨e4, e5⟩ := List.append_inj e1 (by rw [hl, e3])
  subst e4 e5 e2
  have pm : (a1 ++ (b1 ++ a2) ++ bs).Perm (b1 ++ (a1 ++ a2) ++ bs) := by
    refine List.Perm.append_right _ ?_
    rw [← List.append_assoc, ← List.append_assoc]
    exact List.Perm.append_right _ List.perm_append_comm
  have sub : ∀ a ∈ a1 ++ (b1 ++ a2) ++ bs, a ∈ b1 ++ (a1 ++ a2) ++ bs := fun a ha => pm.mem_iff.mp ha
  refine ⟨a1 ++ (b1 ++ a2), bs, Owns.join A (Owns.mono A ⟨mono_sub sub, fun _ _ => rfl⟩ q1) ?_, Cells.mono e ⟨mono_sub sub, fun _ _ => rfl⟩ h2, pm.nodup_iff.mpr h3, fun a ha => h4 a (sub a ha), h5, h6⟩
  unfold Owns
  exact ⟨v, t, b1, a2, rfl, Own.mono d ⟨mono_sub sub, fun _ _ => rfl⟩ o1, Owns.mono T ⟨mono_sub sub, fun _ _ => rfl⟩ q2, rfl⟩
theorem Rel.under {A : List D} {va : List V} (hl : va.length = A.length) (r : Rel K Y H0 io (d :: (A ++ T)) (v :: (va ++ t)) e s H) : Rel K Y H0 io (d :: T) (v :: t) e s H := Rel.popA hl (r.unmid hl)
end

def Walks (K : PySem.W.Frag) (J : It) (A : List D) (va : List V) (ds : List D) : Prop := ∀ Y H0 io T τ e s H, Rel K Y H0 io (A ++ T) (va ++ τ) e s H →
  (∀ i d, ds[i]? = some d → J.go i H ∧ ∀ x H', J.yld i H x H' → Rel K Y H0 io (d :: (A ++ T)) (x :: (va ++ τ)) e s H') ∧ J.stop ds.length H
section
variable (K : PySem.W.Frag) (mg : Str → Option Value) (W : WX) (Y : Addr → Prop) (H0 : Hp) (io : List (Nat × Addr)) (T : List D) (t : List V) (s : St)
def PostI (R : It → Hp → Prop) : Rs (List D × Env) → Prop
  | .ok (ds, e') => ∀ J A va H', va.length = A.length → Rel K Y H0 io (A ++ T) (va ++ t) e' s H' → Walks K J A va ds → R J H'
  | .exc c fs e' => ∀ cls dd H', XR mg H' c fs cls dd → Rel K Y H0 io T t e' s H' → W cls dd s H'
  | .err => False
end
def SimI (K : PySem.W.Frag) (mg : Str → Option Value) (W : WX) (wi : TI) (m : MA) : Prop := ∀ Y H0 io T τ e s H R, Rel K Y H0 io T τ e s H → PostI K mg W Y H0 io T τ s R (m e) → wi s H R
def DI (X : Cx) (W : WX) (tg e : Expr) (m : MA) : Prop := ∃ wi, PI X tg e wi ∧ SimI X.K X.mg W wi m
section
variable {K : PySem.W.Frag} {mg : Str → Option Value} {W : WX}
def mItL (m : ME) : MA := fun e => (m e).bind fun p => Rs.of ((litems p.1).map fun ds => (frzs ds, p.2))
def mItT (m : ME) : MA := fun e => (m e).bind fun p => match p.1 with
  | .tup ds => if plains ds = true then .ok (ds, p.2) else .err
  | _ => .err
theorem Rel.lref {Y : Addr → Prop} {H0 H : Hp} {io : List (Nat × Addr)} {T : List D} {t : List V} {e : Env} {s : St} {d : D} {v : V} {ds : List D} (r : Rel K Y H0 io (d :: T) (v :: t) e s H) (h : litems d = some ds) : ∃ a vs, v = .ref a ∧ SqL K H a vs ∧ vs.length = ds.length := by
  obtain ⟨P, as, o⟩ := r.top
  obtain ⟨p1, v1, a1, rfl, t1, w1⟩ := o.lseq h
  exact ⟨p1, v1, rfl, t1, w1.len⟩
theorem walks_list {d : D} {a : Addr} {ds : List D} (h : litems d = some ds) : Walks K (Itl K a) [d.frz] [V.ref a] (frzs ds) := by
  intro Y H0 io T τ e s H r
  have hl : litems d.frz = some (frzs ds) := by
    cases d <;> simp only [litems, Option.some.injEq, reduceCtorEq] at h <;> subst h <;> rfl
  obtain ⟨as, bs, h1, h2, h3, h4, h5, h6⟩ := r
  have h1' := h1
  rw [List.cons_append, List.nil_append] at h1'
  unfold Owns at h1'
  obtain ⟨v', r', b1, c1, e1, o1, o2, ea⟩ := h1'
  cases e1
  obtain ⟨q1, q2, q3, ev, q4, q5⟩ := o1.lseq hl
  cases ev
  obtain ⟨q6, _⟩ := Owns.reps (plains_frz ds) q5
  refine ⟨fun i x hx => ?_, q2, q4, by rw [q5.len]; exact Nat.le_refl _⟩
  obtain ⟨y, hy, hr⟩ := Reps.get q6 hx
  refine ⟨⟨q2, y, q4, hy⟩, fun z H' hz => ?_⟩
  obtain ⟨rfl, hz⟩ := hz
  have hz := hz q2 q4
  rw [hy] at hz; cases hz
  refine ⟨as, bs, ?_, h2, h3, h4, h5, h6⟩
  unfold Owns
  exact ⟨y, _, [], as, rfl, Own.of hr, h1, by simp⟩
theorem walks_tup {a : Addr} {ds : List D} (h : plains ds = true) : Walks K (Itt K a) [.tup ds] [V.ref a] ds := by
  intro Y H0 io T τ e s H r
  obtain ⟨as, bs, h1, h2, h3, h4, h5, h6⟩ := r
  have h1' := h1
  rw [List.cons_append, List.nil_append] at h1'
  unfold Owns at h1'
  obtain ⟨v', r', b1, c1, e1, o1, o2, ea⟩ := h1'
  cases e1
  obtain ⟨q1, q2, ev, q4, q6⟩ := o1.tup
  cases ev
  refine ⟨fun i x hx => ?_, q2, q4.sq, by rw [q6.len]; exact Nat.le_refl _⟩
  obtain ⟨y, hy, hr⟩ := Reps.get q6 hx
  refine ⟨⟨q2, y, q4.sq, hy⟩, fun z H' hz => ?_⟩
  obtain ⟨rfl, hz⟩ := hz
  have hz := hz q2 q4.sq
  rw [hy] at hz; cases hz
  refine ⟨as, bs, ?_, h2, h3, h4, h5, h6⟩
  unfold Owns
  exact ⟨y, _, [], as, rfl, Own.of hr, h1, by simp⟩
theorem postI_exc {Y H0 io T τ s} {Q} : ∀ c fs e', PostI K mg W Y H0 io T τ s Q (.exc c fs e') → ∀ cls dd H', XR mg H' c fs cls dd → Rel K Y H0 io T τ e' s H' → W cls dd s H' := fun _ _ _ h => h
theorem sim_itL {t : TE} {m : ME} (h : SimE K mg W t m) : SimI K mg W (iList K t) (mItL m) := by
  intro Y H0 io T τ e s H R r p
  refine h.then r (P := PostI K mg W Y H0 io T τ s R) p id postI_exc fun d e' p v H' rl => ?_
  cases q : litems d with
  | none => simp only [q] at p; exact False.elim p
  | some ds =>
    simp only [q] at p
    obtain ⟨a, vs, rfl, h1, h2⟩ := rl.lref q
    exact ⟨a, rfl, ⟨vs, h1⟩, p _ [d.frz] [V.ref a] H' rfl rl.frz (walks_list q)⟩
theorem sim_itT {t : TE} {m : ME} (h : SimE K mg W t m) : SimI K mg W (iTup K t) (mItT m) := by
  intro Y H0 io T τ e s H R r p
  refine h.then r (P := PostI K mg W Y H0 io T τ s R) p id postI_exc fun d e' p v H' rl => ?_
  obtain ⟨ds, rfl⟩ : ∃ ds, d = .tup ds := by cases d <;> first | exact ⟨_, rfl⟩ | exact False.elim p
  simp only at p
  by_cases c : plains ds = true
  · rw [if_pos c] at p
    obtain ⟨P, as, o⟩ := rl.top
    obtain ⟨a, vs, rfl, h1, h2⟩ := o.tup
    exact ⟨a, rfl, ⟨vs, h1.sq⟩, p _ [.tup ds] [V.ref a] H' rfl rl (walks_tup c)⟩
  · rw [if_neg c] at p; exact False.elim p
def rangeD (lo : Int) (n : Nat) : List D := (List.range n).map fun i : Nat => D.int (lo + i)
theorem walks_range {lo : Int} {n : Nat} : Walks K (Itr lo n) [] [] (rangeD lo n) := by
  intro Y H0 io T τ e s H r
  refine ⟨fun i d hd => ?_, by unfold rangeD; simp [Itr]⟩
  unfold rangeD at hd
  rw [List.getElem?_map] at hd
  obtain ⟨j, hj, rfl⟩ := Option.map_eq_some_iff.mp hd
  obtain ⟨hlt, e1⟩ := List.getElem?_eq_some_iff.mp hj
  rw [List.getElem_range] at e1
  subst e1
  refine ⟨(show i < n by simpa using hlt), fun x H' hy => ?_⟩
  obtain ⟨rfl, rfl⟩ := hy
  exact r.int
def small62 (i : Int) : Prop := -(2 ^ 62) ≤ i ∧ i < 2 ^ 62
instance (i : Int) : Decidable (small62 i) := by unfold small62; infer_instance
def mRng1 (m : MA) : MA := fun e => (m e).bind fun p => match p.1 with
  | [.int j] => if small62 j then .ok (rangeD 0 j.toNat, p.2) else .err
  | _ => .err
def mRng2 (m : MA) : MA := fun e => (m e).bind fun p => match p.1 with
  | [.int i, .int j] => if small62 i ∧ small62 j then .ok (rangeD i (j - i).toNat, p.2) else .err
  | _ => .err
theorem sim_rng1 {t : TA} {m : MA} (h : SimA K mg W t m) : SimI K mg W (iRng1 t) (mRng1 m) := by
  intro Y H0 io T τ e s H R r p
  refine h.then r (P := PostI K mg W Y H0 io T τ s R) p id postI_exc fun ds e' p vs H' hl rl => ?_
  match ds, vs, hl, p, rl with
  | [d], [v], _, p, rl =>
    obtain ⟨j, rfl⟩ : ∃ j, d = .int j := by cases d <;> first | exact ⟨_, rfl⟩ | exact False.elim p
    simp only at p
    by_cases c : small62 j
    · rw [if_pos c] at p
      obtain rfl := Rel.isInt rl
      exact ⟨j, rfl, c.1, c.2, p _ [] [] H' rfl (Rel.pop rl) walks_range⟩
    · rw [if_neg c] at p; exact False.elim p
  | [], _, _, p, _ => exact False.elim p
  | d :: _ :: _, _, _, p, _ => cases d <;> exact False.elim p
theorem sim_rng2 {t : TA} {m : MA} (h : SimA K mg W t m) : SimI K mg W (iRng2 t) (mRng2 m) := by
  intro Y H0 io T τ e s H R r p
  refine h.then r (P := PostI K mg W Y H0 io T τ s R) p id postI_exc fun ds e' p vs H' hl rl => ?_
  match ds, vs, hl, p, rl with
  | [d1, d2], [v1, v2], _, p, rl =>
    obtain ⟨i, rfl⟩ : ∃ j, d1 = .int j := by cases d1 <;> first | exact ⟨_, rfl⟩ | exact False.elim p
    obtain ⟨j, rfl⟩ : ∃ j, d2 = .int j := by cases d2 <;> first | exact ⟨_, rfl⟩ | exact False.elim p
    simp only at p
    by_cases c : small62 i ∧ small62 j
    · rw [if_pos c] at p
      obtain rfl := Rel.isInt rl
      obtain rfl := Rel.isInt (Rel.pop rl)
      exact ⟨i, j, rfl, ⟨c.1.1, c.1.2, c.2.1, c.2.2⟩, p _ [] [] H' rfl (Rel.pop (Rel.pop rl)) walks_range⟩
    · rw [if_neg c] at p; exact False.elim p
  | [], _, _, p, _ => exact False.elim p
  | [d], _, _, p, _ => cases d <;> exact False.elim p
  | d :: d2 :: _ :: _, _, _, p, _ => cases d <;> cases d2 <;> exact False.elim p
def mLoop (g : MG) (body : MS) : List D → MS
  | [], e => .nx e
  | d :: ds, e => match g d e with
    | none => .err
    | some e1 => match body e1 with
      | .nx e2 => mLoop g body ds e2
      | .ct e2 => mLoop g body ds e2
      | .bk e2 => .nx e2
      | r => r
def mFor (mi : MA) (g : MG) (body : MS) : MS := fun e => match mi e with
  | .ok (ds, e') => mLoop g body ds e'
  | .exc c fs e' => .exc c fs e'
  | .err => .err
theorem sim_for {ios vs : List Nat} {wi : TI} {mi : MA} {g : TG} {mgt : MG} {tb : TS} {body : MS} (hi : SimI K mg W wi mi) (hg : SimG K ios vs g mgt) (hb : SimS K mg W ios tb body) : SimS K mg W ios (tFor wi g tb) (mFor mi mgt body) := by
  intro Y H0 io T τ e s H D hio r p
  refine hi Y H0 io T τ e s H _ r ?_
  unfold mFor at p
  cases q : mi e with
  | err => rw [q] at p; exact p
  | exc c fs e' => rw [q] at p; exact fun cls dd H' x rl => p cls dd s H' x rl
  | ok z =>
    obtain ⟨ds, e'⟩ := z
    rw [q] at p
    intro J A va H' hl rl wk
    refine ⟨fun i m σ H => m = ds.length - i ∧ i ≤ ds.length ∧ ∃ e, Rel K Y H0 io (A ++ T) (va ++ τ) e σ H ∧ PostS K mg W Y H0 io T τ D (mLoop mgt body (ds.drop i) e), ⟨ds.length, by simp, Nat.zero_le _, e', rl, by simpa using p⟩, ?_⟩
    rintro i m σ H1 ⟨rfl, hle, e1, rl1, p1⟩
    obtain ⟨wk1, wk2⟩ := wk Y H0 io T τ e1 σ H1 rl1
    by_cases hlt : i < ds.length
    · have ed : ds.drop i = ds[i] :: ds.drop (i + 1) := List.drop_eq_getElem_cons hlt
      obtain ⟨go, yl⟩ := wk1 i ds[i] (List.getElem?_eq_getElem hlt)
      rw [ed] at p1
      unfold mLoop at p1
      refine .inr ⟨go, fun σ' H' => ∃ e, Rel K Y H0 io (A ++ T) (va ++ τ) e σ' H' ∧ PostS K mg W Y H0 io T τ D (mLoop mgt body (ds.drop (i + 1)) e), fun σ' H' ⟨e2, r2, p2⟩ => ⟨_, by omega, rfl, hlt, e2, r2, p2⟩, fun x H2 hy => ?_⟩
      have r2 := yl x H2 hy
      cases q2 : mgt ds[i] e1 with
      | none => rw [q2] at p1; exact False.elim p1
      | some e3 =>
        rw [q2] at p1
        simp only at p1
        refine hg Y H0 io (A ++ T) (va ++ τ) e1 σ H2 ds[i] x e3 _ hio q2 r2 fun s3 H3 r3 _ => ?_
        refine hb Y H0 io (A ++ T) (va ++ τ) e3 s3 H3 _ hio r3 ?_
        cases q3 : body e3 with
        | nx e4 => rw [q3] at p1; exact fun s4 H4 r4 => ⟨e4, r4, p1⟩
        | ct e4 => rw [q3] at p1; exact fun s4 H4 r4 => ⟨e4, r4, p1⟩
        | bk e4 => rw [q3] at p1; exact fun s4 H4 r4 => p1 s4 H4 (Rel.popA hl r4)
        | rt d e4 => rw [q3] at p1; exact fun v s4 H4 r4 => p1 v s4 H4 (Rel.under hl r4)
        | exc c fs e4 => rw [q3] at p1; exact fun cls dd s4 H4 x r4 => p1 cls dd s4 H4 x (Rel.popA hl r4)
        | err => rw [q3] at p1; exact p1
    · have e2 : i = ds.length := by omega
      subst e2
      refine .inl ⟨wk2, ?_⟩
      rw [List.drop_length] at p1
      exact p1 σ H1 (Rel.popA hl rl1)
end
section
variable {X : Cx} {W : WX} {ios vs : List Nat} {pos : Pos} {a tg : Expr} {b1 : List Stmt} {ma : ME} {mi : MA} {g : MG} {body : MS} {c : MT}
theorem di_list (h : DE X W a ma) : DI X W tg a (mItL ma) := by
  obtain ⟨t, p, s⟩ := h
  exact ⟨_, pi_list p, sim_itL s⟩
theorem di_tup (h : DE X W a ma) : DI X W tg a (mItT ma) := by
  obtain ⟨t, p, s⟩ := h
  exact ⟨_, pi_tup p, sim_itT s⟩
theorem di_rng1 {p : Pos} (B : BI X.mg) (h : DA X W [a] mi) (hg : Gl X "range" := by rfl) (hs : starEach [a] X.env = [(false, eval a X.env)] := by rfl) : DI X W tg (.Call (.Name "range" p) [a] [] pos) (mRng1 mi) := by
  obtain ⟨t, p, s⟩ := h
  exact ⟨_, pi_range1 hg B.range p hs, sim_rng1 s⟩
theorem di_rng2 {p : Pos} {b : Expr} (B : BI X.mg) (h : DA X W [a, b] mi) (hg : Gl X "range" := by rfl) (hs : starEach [a, b] X.env = [(false, eval a X.env), (false, eval b X.env)] := by rfl) (hs2 : starEach [b] X.env = [(false, eval b X.env)] := by rfl) : DI X W tg (.Call (.Name "range" p) [a, b] [] pos) (mRng2 mi) := by
  obtain ⟨t, p, s⟩ := h
  exact ⟨_, pi_range2 hg B.range p hs hs2, sim_rng2 s⟩
theorem ds_for (hp : PassesOwn (model X.prog X.w) X.A X.env X.xe) (hc : X.calm = true) (hi : DI X W tg a mi) (hg : DG X ios vs tg g) (hb : DB X W ios b1 body) (hs : ∀ x, foldedSetIterable a X.env x = pure x := by intro _; rfl) : DS X W ios (.For tg a b1 [] pos) (mFor mi g body) := by
  obtain ⟨t, p, s⟩ := hi
  obtain ⟨t1, p1, s1⟩ := hg
  obtain ⟨t2, p2, s2⟩ := hb
  exact ⟨_, ps_for hp hc p p1 p2 hs, sim_for s s1 s2⟩
end
end Mi

namespace Mi
open PySem PySem.Spec PyProof.Rows L2
variable [TabsC]

section
variable (K : PySem.W.Frag) (mg : Str → Option Value) (W : WX)
def canE (m : ME) : TE := fun s H Q => ∃ Y H0 io T τ e, Rel K Y H0 io T τ e s H ∧ PostE K mg W Y H0 io T τ s Q (m e)
def canT (m : MT) : TT := fun s H Q => ∃ Y H0 io T τ e, Rel K Y H0 io T τ e s H ∧ PostT K mg W Y H0 io T τ s Q (m e)
def canS (ios : List Nat) (m : MS) : TS := fun D s H => ∃ Y H0 io T τ e, IoIn io ios ∧ Rel K Y H0 io T τ e s H ∧ PostS K mg W Y H0 io T τ D (m e)
def canG (ios vs : List Nat) (m : MG) : TG := fun v s H Q => ∃ Y H0 io T τ e d e', IoIn io ios ∧ m d e = some e' ∧ Rel K Y H0 io (d :: T) (v :: τ) e s H ∧
  ∀ s' H', Rel K Y H0 io T τ e' s' H' → (∀ ws, (∀ i ∈ vs, i ∈ ws) → wipe s' ws = wipe s ws) → Q s' H'
end
theorem sim_canE {K mg W m} : SimE K mg W (canE K mg W m) m := fun Y H0 io T τ e s H Q r p => ⟨Y, H0, io, T, τ, e, r, p⟩
theorem sim_canT {K mg W m} : SimT K mg W (canT K mg W m) m := fun Y H0 io T τ e s H Q r p => ⟨Y, H0, io, T, τ, e, r, p⟩
theorem sim_canG {K ios vs m} : SimG K ios vs (canG K ios vs m) m := fun Y H0 io T τ e s H d v e' Q hi hm r q => ⟨Y, H0, io, T, τ, e, d, e', hi, hm, r, q⟩
theorem DE.can {X : Cx} {W : WX} {e : Expr} {m : ME} (h : DE X W e m) : PE X e (canE X.K X.mg W m) := by
  obtain ⟨t, p, s⟩ := h
  exact ⟨fun pins st σ H Q I ⟨Y, H0, io, T, τ, en, r, q⟩ => p.run pins st σ H Q I (s Y H0 io T τ en σ H Q r q)⟩
theorem DT.can {X : Cx} {W : WX} {e : Expr} {m : MT} (h : DT X W e m) : PT X e (canT X.K X.mg W m) := by
  obtain ⟨t, p, s⟩ := h
  exact ⟨fun pins st σ H Q I ⟨Y, H0, io, T, τ, en, r, q⟩ => p.run pins st σ H Q I (s Y H0 io T τ en σ H Q r q)⟩
theorem DB.can {X : Cx} {W : WX} {ios} {sts : List Stmt} {m : MS} (h : DB X W ios sts m) : PSs X sts (canS X.K X.mg W ios m) := by
  obtain ⟨t, p, s⟩ := h
  exact ⟨fun pins st σ H D I ⟨Y, H0, io, T, τ, en, hi, r, q⟩ => p.run pins st σ H D I (s Y H0 io T τ en σ H D hi r q)⟩
theorem DG.can {X : Cx} {ios vs} {tg : Expr} {m : MG} (h : DG X ios vs tg m) : PG X tg (canG X.K ios vs m) := by
  obtain ⟨t, p, s⟩ := h
  exact ⟨fun pins st σ H v u Q I rv ⟨Y, H0, io, T, τ, en, d, e', hi, hm, r, q⟩ => p.run pins st σ H v u Q I rv (s Y H0 io T τ en σ H d v e' Q hi hm r q)⟩

def wipeE (e : Env) : List Nat → Env
  | [] => e
  | v :: vs => (wipeE e vs).set v none
section
variable {K : PySem.W.Frag} {Y P : Addr → Prop} {H0 H H' : Hp} {io : List (Nat × Addr)} {T : List D} {t : List V} {e : Env} {s s' : St} {d : D} {v : V}
theorem wipeE_length (e : Env) : ∀ vs : List Nat, (wipeE e vs).length = e.length
  | [] => rfl
  | v :: vs => by unfold wipeE; rw [List.length_set, wipeE_length e vs]
theorem wipeE_in (e : Env) : ∀ (vs : List Nat) (i : Nat), i ∈ vs → i < e.length → (wipeE e vs)[i]? = some none
  | [], i, h, _ => by cases h
  | v :: vs, i, h, hl => by
    unfold wipeE
    by_cases hv : v = i
    · subst hv; rw [List.getElem?_set_self (by rw [wipeE_length]; exact hl)]
    · rw [List.getElem?_set_ne hv]
      exact wipeE_in e vs i ((List.mem_cons.mp h).resolve_left fun z => hv z.symm) hl
theorem wipe_out (s : St) : ∀ (vs : List Nat) (i : Nat), i ∉ vs → (wipe s vs)[i]? = s[i]?
  | [], i, h => rfl
  | v :: vs, i, h => by
    simp only [List.mem_cons, not_or] at h
    unfold wipe
    rw [List.getElem?_set_ne (Ne.symm h.1), wipe_out s vs i h.2]
theorem Cells.unset : ∀ (e : Env) (i : Nat) {s : St} {as : List Addr}, Cells K P H e s as → ∃ bs, (∀ a ∈ bs, a ∈ as) ∧ (as.Nodup → bs.Nodup) ∧ ∀ x, Cells K P H (e.set i none) (s.set i x) bs
  | [], i, s, as, h => ⟨as, fun _ z => z, fun z => z, fun x => by unfold Cells at h; rw [h.1]; simpa [Cells] using h.2⟩
  | none :: e, 0, s, as, h => by
    unfold Cells at h
    obtain ⟨x, r, e1, h⟩ := h
    subst e1
    refine ⟨as, fun _ z => z, fun z => z, fun x => ?_⟩
    rw [List.set_cons_zero, List.set_cons_zero]; unfold Cells; exact ⟨x, r, rfl, h⟩
  | some d0 :: e, 0, s, as, h => by
    unfold Cells at h
    obtain ⟨v, r, b0, cs, e1, h1, h2, ea⟩ := h
    subst e1 ea
    refine ⟨cs, fun a z => List.mem_append_right _ z, fun z => (List.nodup_append.mp z).2.1, fun x => ?_⟩
    rw [List.set_cons_zero, List.set_cons_zero]; unfold Cells; exact ⟨x, r, rfl, h2⟩
  | none :: e, i + 1, s, as, h => by
    unfold Cells at h
    obtain ⟨y, r, e1, h⟩ := h
    subst e1
    obtain ⟨bs, s1, s2, q⟩ := Cells.unset e i h
    refine ⟨bs, s1, s2, fun x => ?_⟩
    rw [List.set_cons_succ, List.set_cons_succ]; unfold Cells; exact ⟨y, _, rfl, q x⟩
  | some d0 :: e, i + 1, s, as, h => by
    unfold Cells at h
    obtain ⟨v0, r, b0, cs0, e1, h0, h, ea⟩ := h
    subst e1 ea
    obtain ⟨bs, s1, s2, q⟩ := Cells.unset e i h
    refine ⟨b0 ++ bs, fun a z => ?_, fun z => ?_, fun x => ?_⟩
    · rcases List.mem_append.mp z with z | z
      · exact List.mem_append_left _ z
      · exact List.mem_append_right _ (s1 a z)
    · obtain ⟨n1, n2, n3⟩ := List.nodup_append.mp z
      exact List.nodup_append.mpr ⟨n1, s2 n2, fun a ha b hb => n3 a ha b (s1 b hb)⟩
    · rw [List.set_cons_succ, List.set_cons_succ]; unfold Cells; exact ⟨v0, _, b0, bs, rfl, h0, q x, rfl⟩
theorem Cells.agree : ∀ (e : Env) {s s' : St} {as : List Addr}, Cells K P H e s as → s'.length = s.length → (∀ i : Nat, e[i]? = some none ∨ s[i]? = s'[i]?) → Cells K P H e s' as
  | [], s, s', as, h, hl, ha => by
    unfold Cells at h ⊢
    rw [h.1] at hl
    exact ⟨List.eq_nil_of_length_eq_zero hl, h.2⟩
  | none :: e, s, s', as, h, hl, ha => by
    unfold Cells at h ⊢
    obtain ⟨x, r, e1, h⟩ := h
    subst e1
    cases s' with
    | nil => simp at hl
    | cons y r' => exact ⟨y, r', rfl, Cells.agree e h (by simpa using hl) fun i => by have := ha (i + 1); simpa using this⟩
  | some d :: e, s, s', as, h, hl, ha => by
    unfold Cells at h ⊢
    obtain ⟨v, r, bs, cs, e1, h1, h2, ea⟩ := h
    subst e1
    cases s' with
    | nil => simp at hl
    | cons y r' =>
      have h0 := ha 0
      simp at h0
      subst h0
      exact ⟨v, r', bs, cs, rfl, h1, Cells.agree e h2 (by simpa using hl) fun i => by have := ha (i + 1); simpa using this, ea⟩
theorem Rel.unset (i : Nat) (x : Option V) (r : Rel K Y H0 io T t e s H) (hio : ∀ p ∈ io, p.1 = 0 → p.1 ≠ i) : Rel K Y H0 io T t (e.set i none) (s.set i x) H := by
  obtain ⟨as, bs, h1, h2, h3, h4, h5, h6⟩ := r
  obtain ⟨cs, s1, s2, q⟩ := Cells.unset e i h2
  have sub : ∀ a ∈ as ++ cs, a ∈ as ++ bs := fun a ha => (List.mem_append.mp ha).elim (fun z => List.mem_append_left _ z) fun z => List.mem_append_right _ (s1 a z)
  refine ⟨as, cs, Owns.mono T ⟨mono_sub sub, fun _ _ => rfl⟩ h1, Cells.mono _ ⟨mono_sub sub, fun _ _ => rfl⟩ (q x), ?_, fun a ha => h4 a (sub a ha), h5, fun p hp z0 => ?_, h6.2⟩
  · obtain ⟨x1, x2, x3⟩ := List.nodup_append.mp h3
    exact List.nodup_append.mpr ⟨x1, s2 x2, fun a ha b hb => x3 a ha b (s1 b hb)⟩
  · rw [List.getElem?_set_ne (Ne.symm (hio p hp z0))]; exact h6.1 p hp z0
theorem Rel.wipe (r : Rel K Y H0 io T t e s H) : ∀ vs : List Nat, 0 ∉ vs → Rel K Y H0 io T t (wipeE e vs) (L2.wipe s vs) H
  | [], _ => r
  | v :: vs, h0 => by
    simp only [List.mem_cons, not_or] at h0
    unfold wipeE L2.wipe
    obtain ⟨as, bs, h1, h2, h3, h4, h5, h6⟩ := id (Rel.wipe r vs h0.2)
    exact (Rel.wipe r vs h0.2).unset v none fun p hp z0 z => h0.1 (by rw [← z, z0])
theorem Rel.agree (r : Rel K Y H0 io T t e s H) (hl : s'.length = s.length) (ha : ∀ i : Nat, e[i]? = some none ∨ s[i]? = s'[i]?) (h0 : s[0]? = s'[0]?) : Rel K Y H0 io T t e s' H := by
  obtain ⟨as, bs, h1, h2, h3, h4, h5, h6⟩ := r
  exact ⟨as, bs, h1, Cells.agree e h2 hl ha, h3, h4, h5, fun p hp z1 => by have z2 := h6.1 p hp z1; rw [z1] at z2 ⊢; rw [← h0]; exact z2, h6.2⟩
theorem Rel.unwipe {vs : List Nat} (h0 : 0 ∉ vs) (r : Rel K Y H0 io T t (wipeE e vs) (L2.wipe s vs) H) : Rel K Y H0 io T t (wipeE e vs) s H := by
  have hl := r.len
  rw [wipe_length, wipeE_length] at hl
  refine r.agree (by rw [wipe_length]) (fun i => ?_) (wipe_out s vs 0 h0)
  by_cases hi : i ∈ vs
  · by_cases hlt : i < e.length
    · exact .inl (wipeE_in e vs i hi hlt)
    · right
      rw [List.getElem?_eq_none (by rw [wipe_length]; omega), List.getElem?_eq_none (by omega)]
  · exact .inr (wipe_out s vs i hi)
theorem Rel.appT {A : List D} {va : List V} {acc : List D} {y : D} {vy u : V} (hl : va.length = A.length) (r : Rel K Y H0 io (y :: (A ++ .own acc :: T)) (vy :: (va ++ u :: t)) e s H) :
    ∃ a vs, u = V.ref a ∧ H a = some (.lst vs) ∧ vs.length = acc.length ∧ Rel K Y H0 io (A ++ .own (acc ++ [y]) :: T) (va ++ u :: t) e s (upd H a (.lst (vs ++ [vy]))) := by
  obtain ⟨a, vs, P, bs, aa, e1, ha, o1, o2, nd, g⟩ := Rel.mutT (A := y :: A) (va := vy :: va) (by simp [hl]) r
  unfold Owns at o2
  obtain ⟨v', r', b1, c1, ev, q1, q2, ea⟩ := o2
  cases ev; subst ea
  refine ⟨a, vs, e1, ha, o1.len, ?_⟩
  have pm : (c1 ++ (bs ++ b1)).Perm (b1 ++ c1 ++ bs) := by
    rw [List.perm_iff_count]
    intro x
    simp only [List.count_append]
    omega
  exact g (acc ++ [y]) (vs ++ [vy]) A va (bs ++ b1) c1 (Owns.join acc o1 (owns1 q1)) q2 (pm.nodup_iff.mpr nd) fun x hx => pm.mem_iff.mp hx
end

abbrev W0 : WX := fun _ _ _ _ => False
def mLcLoop (vs : List Nat) (g : MG) (tt : MT) (te : ME) : List D → List D → Env → Rs (D × Env)
  | [], acc, e => .ok (.own acc, e)
  | d :: ds, acc, e => match g d e with
    | none => .err
    | some e1 => match tt e1 with
      | .ok (true, e2) => match te e2 with
        | .ok (y, e3) => if acc.length < sizeLine then mLcLoop vs g tt te ds (acc ++ [y]) (wipeE e3 vs) else .err
        | _ => .err
      | .ok (false, e2) => mLcLoop vs g tt te ds acc (wipeE e2 vs)
      | _ => .err
def mLc (vs : List Nat) (mi : MA) (g : MG) (tt : MT) (te : ME) : ME := fun e => (mi e).bind fun p => mLcLoop vs g tt te p.1 [] (wipeE p.2 vs)
def mYes : MT := fun e => .ok (true, e)
section
variable {K : PySem.W.Frag} {mg : Str → Option Value} {W : WX}
theorem sim_lc {vs us : List Nat} {wi : TI} {mi : MA} {g : TG} {mgt : MG} {tt : TT} {mt : MT} {te : TE} {me : ME} (h0 : 0 ∉ vs) (hu : ∀ i ∈ us, i ∈ vs) (hi : SimI K mg W wi mi) (hg : SimG K [0] us g mgt) (ht : SimT K mg W0 tt mt) (he : SimE K mg W0 te me) :
    SimE K mg W (tLc wi g tt te vs) (mLc vs mi mgt mt me) := by
  intro Y H0 io T τ e s H Q r p
  refine hi Y H0 io T τ e s H _ r ?_
  unfold mLc at p
  cases q : mi e with
  | err => rw [q] at p; exact p
  | exc c fs e' => rw [q] at p; exact p
  | ok z =>
    obtain ⟨ds, e'⟩ := z
    rw [q] at p
    have p : PostE K mg W Y H0 io T τ s Q (mLcLoop vs mgt mt me ds [] (wipeE e' vs)) := p
    intro J A va H' hl rl wk D hD
    have r1 : Rel K Y H0 io (A ++ .own [] :: T) (va ++ V.ref D :: τ) (wipeE e' vs) (L2.wipe s vs) (upd H' D (.lst [])) :=
      ((Rel.list (A := []) (va := []) rfl rl hD).unmid hl).wipe vs h0
    refine ⟨fun i m H => m = ds.length - i ∧ i ≤ ds.length ∧ ∃ acc e0, Rel K Y H0 io (A ++ .own acc :: T) (va ++ V.ref D :: τ) (wipeE e0 vs) (L2.wipe s vs) H ∧ PostE K mg W Y H0 io T τ s Q (mLcLoop vs mgt mt me (ds.drop i) acc (wipeE e0 vs)),
      ⟨ds.length, by simp, Nat.zero_le _, [], e', r1, by simpa using p⟩, ?_⟩
    rintro i m H1 ⟨rfl, hle, acc, e0, rl1, p1⟩
    obtain ⟨wk1, wk2⟩ := wk Y H0 io (.own acc :: T) (V.ref D :: τ) _ _ H1 rl1
    by_cases hlt : i < ds.length
    · have ed : ds.drop i = ds[i] :: ds.drop (i + 1) := List.drop_eq_getElem_cons hlt
      obtain ⟨go, yl⟩ := wk1 i ds[i] (List.getElem?_eq_getElem hlt)
      rw [ed] at p1
      unfold mLcLoop at p1
      refine .inr ⟨go, fun H => ∃ acc e0, Rel K Y H0 io (A ++ .own acc :: T) (va ++ V.ref D :: τ) (wipeE e0 vs) (L2.wipe s vs) H ∧ PostE K mg W Y H0 io T τ s Q (mLcLoop vs mgt mt me (ds.drop (i + 1)) acc (wipeE e0 vs)), fun H' ⟨a2, e2, r2, p2⟩ => ⟨_, by omega, rfl, hlt, a2, e2, r2, p2⟩, fun x H2 hy => ?_⟩
      have r2 := yl x H2 hy
      have hio : IoIn io [0] := fun p hp z0 => by rw [z0]; simp
      cases q2 : mgt ds[i] (wipeE e0 vs) with
      | none => rw [q2] at p1; exact False.elim p1
      | some e3 =>
        rw [q2] at p1
        simp only at p1
        refine hg Y H0 io (A ++ .own acc :: T) (va ++ V.ref D :: τ) _ _ H2 ds[i] x e3 _ hio q2 r2 fun s3 H3 r3 w3 => ?_
        have w4 : L2.wipe s3 vs = L2.wipe s vs := by
          rw [w3 vs hu]
          -- wiped twice
          apply List.ext_getElem?
          intro j
          by_cases hj : j ∈ vs
          · have key : ∀ (us : St), j < us.length → (L2.wipe us vs)[j]? = some none := by
              intro us hlen
              have : ∀ ws : List Nat, j ∈ ws → (L2.wipe us ws)[j]? = some none := by
                intro ws
                induction ws with
                | nil => intro h; cases h
                | cons w ws ih =>
                  intro h
                  unfold L2.wipe
                  by_cases hw : w = j
                  · subst hw; rw [List.getElem?_set_self (by rw [wipe_length]; exact hlen)]
                  · rw [List.getElem?_set_ne hw]; exact ih ((List.mem_cons.mp h).resolve_left fun z => hw z.symm)
              exact this vs hj
            by_cases hlen : j < s.length
            · rw [key _ (by rw [wipe_length]; exact hlen), key _ hlen]
            · rw [List.getElem?_eq_none (by rw [wipe_length, wipe_length]; omega), List.getElem?_eq_none (by rw [wipe_length]; omega)]
          · rw [wipe_out _ vs j hj]
        refine ⟨w4, ?_⟩
        refine ht Y H0 io _ _ e3 s3 H3 _ r3 ?_
        cases q4 : mt e3 with
        | err => rw [q4] at p1; exact p1
        | exc c fs e' => rw [q4] at p1; exact False.elim p1
        | ok z =>
          obtain ⟨b, e4⟩ := z
          rw [q4] at p1
          intro H4 r4
          cases b with
          | false =>
            rw [if_neg Bool.false_ne_true]
            exact ⟨acc, e4, w4 ▸ r4.wipe vs h0, p1⟩
          | true =>
            rw [if_pos rfl]
            simp only at p1
            refine he Y H0 io _ _ e4 s3 H4 _ r4 ?_
            cases q5 : me e4 with
            | err => rw [q5] at p1; exact p1
            | exc c fs e' => rw [q5] at p1; exact False.elim p1
            | ok z =>
              obtain ⟨y, e5⟩ := z
              rw [q5] at p1
              simp only at p1
              intro vy H5 r5
              by_cases c : acc.length < sizeLine
              · rw [if_pos c] at p1
                obtain ⟨a, ws, ea, hD5, hlw, r6⟩ := r5.appT hl
                cases ea
                exact ⟨ws, hD5, by rw [hlw]; exact c, acc ++ [y], e5, w4 ▸ r6.wipe vs h0, p1⟩
              · rw [if_neg c] at p1; exact False.elim p1
    · have e2 : i = ds.length := by omega
      subst e2
      refine .inl ⟨wk2, ?_⟩
      rw [List.drop_length] at p1
      exact p1 _ H1 ((Rel.popA hl rl1).unwipe h0)
end
section
variable {X : Cx} {W : WX} {pos : Pos} {elt tg iter : Expr} {scope : Scope} {own : List (Str × Nat)} {us : List Nat} {mi : MA} {g : MG} {mt : MT} {me : ME}
theorem de_lc (hN : X.N.Nodup) (hi : DI X W tg iter mi) (hb : blkC X.N X.env.scope scope own = true) (h0 : 0 ∉ own.map (·.2)) (hu : ∀ i ∈ us, i ∈ own.map (·.2))
    (hg : ∀ (s : Shared) (H : Hp) (C : Addr) (cl : List (Str × Addr)) (fp : List Addr), DG (X.blk s H scope (compEnvC scope cl C X.env) fp) [0] us tg g)
    (he : ∀ (s : Shared) (H : Hp) (C : Addr) (cl : List (Str × Addr)) (fp : List Addr), DE (X.blk s H scope (compEnvC scope cl C X.env) fp) W0 elt me) (hc : X.calm = true := by rfl) (hs : ∀ x, foldedSetIterable iter X.env x = pure x := by intro _; rfl) :
    DE X W (.ListComp elt [⟨tg, iter, [], 0⟩] scope pos) (mLc (own.map (·.2)) mi g mYes me) := by
  obtain ⟨t, p, s⟩ := hi
  refine ⟨_, pe_lc (own := own) (g := canG X.K [0] us g) (te := canE X.K X.mg W0 me) hc hN p (blkOk_by hb) (fun s H C cl fp => (hg s H C cl fp).can) (fun _ _ _ _ _ => pts_nil) (fun s H C cl fp => (he s H C cl fp).can) hs, ?_⟩
  exact sim_lc h0 hu s sim_canG (fun Y H0 io T τ e s H Q r p => p H r) sim_canE
theorem de_lcIf {cond : Expr} (hN : X.N.Nodup) (hi : DI X W tg iter mi) (hb : blkC X.N X.env.scope scope own = true) (h0 : 0 ∉ own.map (·.2)) (hu : ∀ i ∈ us, i ∈ own.map (·.2))
    (hg : ∀ (s : Shared) (H : Hp) (C : Addr) (cl : List (Str × Addr)) (fp : List Addr), DG (X.blk s H scope (compEnvC scope cl C X.env) fp) [0] us tg g)
    (ht : ∀ (s : Shared) (H : Hp) (C : Addr) (cl : List (Str × Addr)) (fp : List Addr), DT (X.blk s H scope (compEnvC scope cl C X.env) fp) W0 cond mt)
    (he : ∀ (s : Shared) (H : Hp) (C : Addr) (cl : List (Str × Addr)) (fp : List Addr), DE (X.blk s H scope (compEnvC scope cl C X.env) fp) W0 elt me) (hc : X.calm = true := by rfl) (hs : ∀ x, foldedSetIterable iter X.env x = pure x := by intro _; rfl) :
    DE X W (.ListComp elt [⟨tg, iter, [cond], 0⟩] scope pos) (mLc (own.map (·.2)) mi g mt me) := by
  obtain ⟨t, p, s⟩ := hi
  refine ⟨_, pe_lc (own := own) (g := canG X.K [0] us g) (te := canE X.K X.mg W0 me) hc hN p (blkOk_by hb) (fun s H C cl fp => (hg s H C cl fp).can) (fun s H C cl fp => pts_one (t := canT X.K X.mg W0 mt) (ht s H C cl fp).can) (fun s H C cl fp => (he s H C cl fp).can) hs, ?_⟩
  exact sim_lc h0 hu s sim_canG sim_canT sim_canE
theorem ds_setLc {ios : List Nat} {i : Nat} {y : Str} {py spos : Pos} (hN : X.N.Nodup) (hi : DI X W tg iter mi) (hb : blkC X.N X.env.scope scope own = true) (h0 : 0 ∉ own.map (·.2)) (hu : ∀ i ∈ us, i ∈ own.map (·.2))
    (hg : ∀ (s : Shared) (H : Hp) (C : Addr) (cl : List (Str × Addr)) (fp : List Addr), DG (X.blk s H scope (compEnvC scope cl C X.env) fp) [0] us tg g)
    (he : ∀ (s : Shared) (H : Hp) (C : Addr) (cl : List (Str × Addr)) (fp : List Addr), DE (X.blk s H scope (compEnvC scope cl C X.env) fp) W0 elt me)
    (hsw : swapsWith (.ListComp elt [⟨tg, iter, [], 0⟩] scope pos) (some (.Name y py)) spos.line X.env = pure true)
    (hn : i ∉ ios := by decide) (hy : X.N[i]? = some y := by rfl) (hyl : X.env.scope.names.lookup y = some .local := by rfl) (hc : X.calm = true := by rfl) (hs : ∀ x, foldedSetIterable iter X.env x = pure x := by intro _; rfl) :
    DS X W ios (.Assign [.Name y py] (.ListComp elt [⟨tg, iter, [], 0⟩] scope pos) spos) (mAsg (mLc (own.map (·.2)) mi g mYes me) (mgName i)) := by
  obtain ⟨t, p, s⟩ := hi
  refine ⟨_, ps_setLc (own := own) (g := canG X.K [0] us g) (te := canE X.K X.mg W0 me) hc hN hy hyl hsw p (blkOk_by hb) (fun s H C cl fp => (hg s H C cl fp).can) (fun _ _ _ _ _ => pts_nil) (fun s H C cl fp => (he s H C cl fp).can) hs, ?_⟩
  exact sim_asg (sim_lc h0 hu s sim_canG (fun Y H0 io T τ e s H Q r p => p H r) sim_canE) (sim_gName hn)
theorem ds_setLcIf {ios : List Nat} {i : Nat} {y : Str} {py spos : Pos} {cond : Expr} (hN : X.N.Nodup) (hi : DI X W tg iter mi) (hb : blkC X.N X.env.scope scope own = true) (h0 : 0 ∉ own.map (·.2)) (hu : ∀ i ∈ us, i ∈ own.map (·.2))
    (hg : ∀ (s : Shared) (H : Hp) (C : Addr) (cl : List (Str × Addr)) (fp : List Addr), DG (X.blk s H scope (compEnvC scope cl C X.env) fp) [0] us tg g)
    (ht : ∀ (s : Shared) (H : Hp) (C : Addr) (cl : List (Str × Addr)) (fp : List Addr), DT (X.blk s H scope (compEnvC scope cl C X.env) fp) W0 cond mt)
    (he : ∀ (s : Shared) (H : Hp) (C : Addr) (cl : List (Str × Addr)) (fp : List Addr), DE (X.blk s H scope (compEnvC scope cl C X.env) fp) W0 elt me)
    (hsw : swapsWith (.ListComp elt [⟨tg, iter, [cond], 0⟩] scope pos) (some (.Name y py)) spos.line X.env = pure true)
    (hn : i ∉ ios := by decide) (hy : X.N[i]? = some y := by rfl) (hyl : X.env.scope.names.lookup y = some .local := by rfl) (hc : X.calm = true := by rfl) (hs : ∀ x, foldedSetIterable iter X.env x = pure x := by intro _; rfl) :
    DS X W ios (.Assign [.Name y py] (.ListComp elt [⟨tg, iter, [cond], 0⟩] scope pos) spos) (mAsg (mLc (own.map (·.2)) mi g mt me) (mgName i)) := by
  obtain ⟨t, p, s⟩ := hi
  refine ⟨_, ps_setLc (own := own) (g := canG X.K [0] us g) (te := canE X.K X.mg W0 me) hc hN hy hyl hsw p (blkOk_by hb) (fun s H C cl fp => (hg s H C cl fp).can) (fun s H C cl fp => pts_one (t := canT X.K X.mg W0 mt) (ht s H C cl fp).can) (fun s H C cl fp => (he s H C cl fp).can) hs, ?_⟩
  exact sim_asg (sim_lc h0 hu s sim_canG sim_canT sim_canE) (sim_gName hn)
end
end Mi

namespace Mi
open PySem PySem.Spec PyProof.Rows L2
variable [TabsC]

inductive Fr where
  | ok (d : D) | exc (c : Str) (fs : List (Str × Int)) | err
inductive Fo where
  | ok (d : D) (xs : List D) | err
abbrev MF := List D → Fr
abbrev MO := List D → List D → Fo
def SameA (a : Addr) (H H' : Hp) : Prop := (∀ b o, H b = some o → b ≠ a → ¬ tab b → H' b = some o) ∧ (∀ b o, H b = some o → ∃ o', H' b = some o') ∧ TabsOk H'
def Mut' (P : Addr → Prop) (H : Hp) : Prop := (∀ a, P a → ∃ o, H a = some o ∧ ∀ xs, o ≠ .tup xs) ∧ TabsOk H ∧ ∀ a, tab a → P a
def RetOk (K : PySem.W.Frag) (P : Addr → Prop) (H : Hp) (d : D) (v : V) (H' : Hp) : Prop := ∃ as : List Addr, as.Nodup ∧ (∀ a ∈ as, H a = none) ∧ Own K (inX P as) H' d v as
theorem mut_tab {H : Hp} (h : TabsOk H) : Mut' tab H := ⟨fun a t => let ⟨ps, q⟩ := tab_at h t; ⟨_, q, fun _ z => nomatch z⟩, h, fun _ t => t⟩
def spF (K : PySem.W.Frag) (mg : Str → Option Value) (n : Nat) (F : MF) : Sp := fun vs H Q E => ∃ ds P, ds.length = n ∧ Reps K P H ds vs ∧ Mut' P H ∧ match F ds with
  | .ok d => ∀ v H', SameT H H' → RetOk K P H d v H' → Q v H'
  | .exc c fs => ∀ cls dd H', SameT H H' → XR mg H' c fs cls dd → E cls dd H'
  | .err => False
def RetO (K : PySem.W.Frag) (P : Addr → Prop) (H : Hp) (d : D) (v : V) (ys : List D) (ws : List V) (H' : Hp) : Prop := ∃ as : List Addr, as.Nodup ∧ (∀ a ∈ as, H a = none) ∧ Own K (inX P as) H' d v as ∧ Reps K (inX P as) H' ys ws
def spO (K : PySem.W.Frag) (n : Nat) (F : MO) : Sp := fun vs H Q E => ∃ a ws us xs ds P, vs = V.ref a :: us ∧ ds.length + 1 = n ∧ H a = some (.lst ws) ∧ ¬ P a ∧ Reps K (fun b => b = a ∨ P b) H xs ws ∧ Reps K (fun b => b = a ∨ P b) H ds us ∧ Mut' P H ∧ match F xs ds with
  | .ok d xs' => ∀ v H' ws', SameA a H H' → H' a = some (.lst ws') → RetO K (fun b => b = a ∨ P b) H d v xs' ws' H' → Q v H'
  | .err => False
def envOf (n : Nat) (ds : List D) : Env := ds.map some ++ List.replicate (n - ds.length) none
def fnM (n : Nat) (body : MS) : MF := fun ds => match body (envOf n ds) with
  | .nx _ => .ok .non
  | .rt d _ => .ok d
  | .exc c fs _ => .exc c fs
  | _ => .err
def fnO (n : Nat) (body : MS) : MO := fun xs ds => match body (envOf n (.own xs :: ds)) with
  | .nx e => match (e : List (Option D))[0]? with
    | some (some (D.own ys)) => if plains ys = true then .ok .non ys else .err
    | _ => .err
  | .rt d e => match (e : List (Option D))[0]? with
    | some (some (D.own ys)) => if plains ys = true then .ok d ys else .err
    | _ => .err
  | _ => .err
section
variable {K : PySem.W.Frag} {mg : Str → Option Value} {Y P : Addr → Prop} {H0 H H' : Hp} {io : List (Nat × Addr)} {T : List D} {t : List V} {e : Env} {s : St} {d : D} {v : V}
theorem Cells.args : ∀ {ds : List D} {vs : List V} (k : Nat), Reps K P H ds vs → Cells K P H (ds.map some ++ List.replicate k none) (vs.map some ++ List.replicate k none) []
  | [], vs, 0, h => by unfold Reps at h; subst h; simp [Cells]
  | [], vs, k + 1, h => by
    have h' := h
    unfold Reps at h; subst h
    have := Cells.args (ds := []) (vs := []) k h'
    simp only [List.map_nil, List.nil_append, List.replicate_succ] at this ⊢
    unfold Cells
    exact ⟨none, _, rfl, this⟩
  | d :: ds, vs, k, h => by
    unfold Reps at h
    obtain ⟨v, r, e, h1, h2⟩ := h
    subst e
    rw [List.map_cons, List.map_cons, List.cons_append, List.cons_append]
    unfold Cells
    exact ⟨v, _, [], [], rfl, Own.of h1, Cells.args k h2, rfl⟩
theorem mono_to {P P' : Addr → Prop} (h : ∀ a, P' a → P a) : Mono P H P' H := ⟨fun a o e n => ⟨e, fun z => n (h a z)⟩, fun a o u e => e⟩
theorem Rel.start {ds : List D} {vs : List V} {N : List Str} (h : Reps K P H ds vs) (hm : Mut' P H) : Rel K P H [] [] [] (envOf N.length ds) (L2.start N vs) H := by
  refine ⟨[], [], by unfold Owns; exact ⟨rfl, rfl⟩, ?_, by simp, (fun _ z => nomatch z), Kept.refl hm.2.1 hm.2.2, (fun _ z => nomatch z), fun a ha => ⟨hm.1 a ha, by simp⟩⟩
  unfold envOf L2.start
  rw [h.len]
  exact Cells.args _ (Reps.mono (mono_to fun a z => z.elim (fun z => nomatch z) id) ds h)
theorem Rel.ret (r : Rel K Y H0 [] [d] [v] e s H) : SameT H0 H ∧ RetOk K Y H0 d v H := by
  obtain ⟨as, bs, h1, h2, h3, h4, h5, h6⟩ := r
  refine ⟨⟨fun b o e => (h5 b o e).1 (by simp), fun b o e => (h5 b o e).2, h5.tabs⟩, ?_⟩
  unfold Owns at h1
  obtain ⟨v', r', b1, c1, e1, o1, o2, ea⟩ := h1
  cases e1
  unfold Owns at o2
  rw [o2.2, List.append_nil] at ea
  subst ea
  refine ⟨as, (List.nodup_append.mp h3).1, fun a ha => (h4 a (List.mem_append_left _ ha)).resolve_right (by simp), Own.mono d ⟨mono_to fun a z => z.imp (fun z => List.mem_append_left _ z) id, fun _ _ => rfl⟩ o1⟩
theorem Rel.call {ds : List D} {vs : List V} (hl : vs.length = ds.length) (r : Rel K Y H0 io (ds ++ T) (vs ++ t) e s H) :
    ∃ P, Reps K P H (frzs ds) vs ∧ Mut' P H ∧ ∀ d v H', SameT H H' → RetOk K P H d v H' → Rel K Y H0 io (d :: T) (v :: t) e s H' := by
  obtain ⟨as, bs, h1, h2, h3, h4, h5, h6⟩ := r.frzA hl
  obtain ⟨v1, v2, a1, a2, e1, e2, e3, q1, q2⟩ := Owns.split (frzs ds) h1
  obtain ⟨e4, e5⟩ := List.append_inj e1 (by rw [hl, e3, frzs_length])
  subst e4 e5
  obtain ⟨q3, q4⟩ := Owns.reps (plains_frz ds) q1
  have e6 : as = a2 := by rw [e2, q4]; rfl
  subst e6
  have there : ∀ a ∈ as ++ bs, ∃ ws, H a = some ws ∧ ∀ xs, ws ≠ .tup xs := fun a ha => (List.mem_append.mp ha).elim (Owns.there _ h1 a) (Cells.there _ h2 a)
  refine ⟨inX Y (as ++ bs), q3, ⟨fun a ha => ?_, h5.tabs, fun a t => .inr (h5.tx a t)⟩, fun d v H' hs ⟨cs, c1, c2, c3⟩ => ?_⟩
  · rcases ha with ha | ha
    · obtain ⟨ws, q, nt⟩ := there a ha
      exact ⟨_, q, nt⟩
    · obtain ⟨⟨o, q, nt⟩, ni⟩ := h6.2 a ha
      exact h5.nt q nt ni
  · have m : Mono (inX Y (as ++ bs)) H (inX Y (cs ++ as ++ bs)) H' := ⟨fun a o e n => ⟨hs.1 a o e fun t => n (.inr (h5.tx a t)), fun z => by
      rcases z with z | z
      · rw [List.append_assoc] at z
        rcases List.mem_append.mp z with z | z
        · rw [c2 a z] at e; cases e
        · exact n (.inl z)
      · exact n (.inr z)⟩, fun a o u e => hs.1 a _ e (tab_no h5.tabs e fun _ z => nomatch z)⟩
    have st : ∀ a ∈ as ++ bs, H' a = H a := fun a ha => by
      obtain ⟨ws, q, nt⟩ := there a ha
      rw [q, hs.1 a _ q fun t => noX h4 h6.2 a ha (h5.tx a t)]
    refine ⟨cs ++ as, bs, ?_, Cells.mono e ⟨m, fun a ha => st a (List.mem_append_right _ ha)⟩ h2, ?_, fun a ha => ?_, h5.then hs, h6⟩
    · unfold Owns
      refine ⟨v, t, cs, as, rfl, Own.mono d ⟨mono_to fun a z => ?_, fun _ _ => rfl⟩ c3, Owns.mono T ⟨m, fun a ha => st a (List.mem_append_left _ ha)⟩ q2, rfl⟩
      rcases z with z | z
      · rw [List.append_assoc] at z
        rcases List.mem_append.mp z with z | z
        · exact .inl z
        · exact .inr (.inl z)
      · exact .inr (.inr z)
    · rw [List.append_assoc]
      refine List.nodup_append.mpr ⟨c1, h3, fun a ha b hb z => ?_⟩
      subst z
      obtain ⟨ws, q, nt⟩ := there a hb
      rw [c2 a ha] at q; cases q
    · rw [List.append_assoc] at ha
      rcases List.mem_append.mp ha with z | z
      · refine .inl ?_
        cases q : H0 a with
        | none => rfl
        | some o =>
          obtain ⟨o', q'⟩ := (h5 a o q).2
          rw [c2 a z] at q'; cases q'
      · exact h4 a z
end
theorem fn_ok {P : Program} {w : World} {K : PySem.W.Frag} {mg : Str → Option Value} {base : Heap} {x qual : Str} {st : Stmt} {f : Addr} {fd : FuncData} {N ps : List Str} {k : Nat} {m : MS} (F : Fun K x qual st f fd) (S : FnScope N ps (defScope st))
    (h : ∀ (cdv : Value) (A : Around) (outer : List PySem.Env) (s : Shared) (H : Hp) (E : XK), Room k (A.deeper (envOfC qual (defScope st) s.heap.objs.size f cdv)) →
      L2N.Takes (cxOf (L2N.CX P w) P w K mg base N qual (defScope st) f cdv A outer s H E) (fun cls d _ H => E cls d H) →
      DB (cxOf (L2N.CX P w) P w K mg base N qual (defScope st) f cdv A outer s H E) (fun cls d _ H => E cls d H) [] (defBody st) m) :
    FnOk P w K mg base (L2N.CX P w) (k + 1) f fd ps (spF K mg ps.length (fnM N.length m)) := by
  obtain ⟨oc, od, kV, doc, pm, an, cdv, ct, osl, rfl, lk, hcd⟩ := F.ex
  refine fn_of lk hcd S (fun vs H Q E ⟨ds, P, hl, hr, _⟩ => by rw [hr.len, hl]) fun A outer s H vs Q E hr ⟨ds, P', hl, hrep, hm, hF⟩ => ?_
  obtain ⟨t, p, sm⟩ := h cdv A outer s H E hr (L2N.takes_of rfl rfl rfl rfl)
  refine ⟨t, p, sm P' H [] [] [] (envOf N.length ds) (L2.start N vs) H _ (fun _ z => nomatch z) (Rel.start hrep hm) ?_⟩
  unfold fnM at hF
  cases q : m (envOf N.length ds) with
  | nx e' =>
    rw [q] at hF
    exact fun s' H' r => let ⟨h1, h2⟩ := r.non.ret; hF _ H' h1 h2
  | rt d e' =>
    rw [q] at hF
    exact fun v s' H' r => let ⟨h1, h2⟩ := r.ret; hF _ H' h1 h2
  | exc c fs e' =>
    rw [q] at hF
    exact fun cls dd s' H' x r => hF cls dd H' (let ⟨h1, h2⟩ := r.non.ret; h1) x
  | bk e' => rw [q] at hF; exact hF.elim
  | ct e' => rw [q] at hF; exact hF.elim
  | err => rw [q] at hF; exact hF.elim
def mCall (F : MF) (ma : MA) : ME := fun e => (ma e).bind fun p => match F (frzs p.1) with
  | .ok d => .ok (d, p.2)
  | .exc c fs => .exc c fs p.2
  | .err => .err
section
variable {X : Cx} {W : WX} {pos p : Pos} {a : Expr} {es : List Expr} {mas : MA}
theorem sim_call {K : PySem.W.Frag} {mg : Str → Option Value} {n : Nat} {F : MF} {t : TA} {ma : MA} (h : SimA K mg W t ma) (hn : ∀ e ds e', ma e = .ok (ds, e') → ds.length = n) : SimE K mg W (tCallS (spF K mg n F) (WE W) t) (mCall F ma) := by
  intro Y H0 io T τ e s H Q r q
  refine h Y H0 io T τ e s H _ r ?_
  unfold mCall at q
  cases c : ma e with
  | err => rw [c] at q; exact q
  | exc c fs e' => rw [c] at q; exact q
  | ok z =>
    obtain ⟨ds, e'⟩ := z
    rw [c] at q
    have q : PostE K mg W Y H0 io T τ s Q (match F (frzs ds) with | .ok d => .ok (d, e') | .exc c fs => .exc c fs e' | .err => .err) := q
    intro vs H' hl rl
    obtain ⟨P, h1, h2, h3⟩ := rl.call hl
    refine ⟨frzs ds, P, by rw [frzs_length]; exact hn e ds e' c, h1, h2, ?_⟩
    cases hf : F (frzs ds) with
    | err => rw [hf] at q; exact q
    | ok d => rw [hf] at q; exact fun v H2 hs hr => q v H2 (h3 d v H2 hs hr)
    | exc c fs =>
      rw [hf] at q
      refine fun cls dd H2 hs x => q cls dd H2 x ?_
      have r2 : Rel K Y H0 io T τ e' s H' := Rel.popA hl rl
      exact r2.sameT hs
theorem de_call {k n : Nat} {f : Addr} {fd : FuncData} {ps : List Str} {F : MF} {x : Str} (hF : FnOk X.prog X.w X.K X.mg X.base (L2N.CX X.prog X.w) k f fd ps (spF X.K X.mg n F)) (hr : Room k X.A) (hm : X.mg x = some (.ref f)) (hk : PySem.W.keepIn X.K (.ref f) = true) (hb : Binds X.K fd ps [])
    (tk : L2N.Takes X W) (ha : DA X W (a :: es) mas) (hn : ∀ e ds e', mas e = .ok (ds, e') → ds.length = n) (hg : Gl X x := by rfl)
    (hdb : (x == ("__debug__" : Str)) = false := by decide) (he : starEach (a :: es) X.env = (false, eval a X.env) :: starEach es X.env := by rfl) (hpl : (backTo pos (starEach es X.env)).any (·.1) = false := by rfl) :
    DE X W (.Call (.Name x p) (a :: es) [] pos) (mCall F mas) := by
  obtain ⟨t, pa, s⟩ := ha
  exact ⟨_, pe_callS hF hr hg hm hk hb (fun σ => L2N.passAt tk σ) pa hdb he hpl, sim_call s hn⟩
theorem cons_len {m : ME} {ms : MA} {n : Nat} (h : ∀ e ds e', ms e = .ok (ds, e') → ds.length = n) : ∀ e ds e', mCons m ms e = .ok (ds, e') → ds.length = n + 1 := fun e ds e' q => by
  unfold mCons at q
  cases q1 : m e with
  | err => rw [q1] at q; cases q
  | exc c fs e' => rw [q1] at q; cases q
  | ok z =>
    obtain ⟨d, e1⟩ := z
    rw [q1] at q
    have q : (ms e1).bind (fun q => Rs.ok (d :: q.1, q.2)) = .ok (ds, e') := q
    cases q2 : ms e1 with
    | err => rw [q2] at q; cases q
    | exc c fs e' => rw [q2] at q; cases q
    | ok z =>
      obtain ⟨ds2, e2⟩ := z
      rw [q2] at q
      cases q
      rw [List.length_cons, h e1 ds2 _ q2]
theorem nil_len : ∀ e ds e', mNil e = .ok (ds, e') → ds.length = 0 := fun e ds e' q => by unfold mNil at q; cases q; rfl
end
theorem takes0N {X : Cx} : L2N.Takes X W0 := fun _ _ x => by
  obtain ⟨_, _, _, _, _, _, _, _, _, _, _, _, _, _, _, _, z⟩ := x
  exact z.elim
end Mi

namespace Mi
open PySem PySem.Spec PyProof.Rows L2
variable [TabsC]
section
variable {K : PySem.W.Frag} {mg : Str → Option Value} {W : WX} {Y : Addr → Prop} {H0 H H' : Hp} {io : List (Nat × Addr)} {T : List D} {t : List V} {e : Env} {s : St} {d : D} {v : V}
theorem atI_any {α β : Type} {xs : List α} {i : Int} {x : α} (h : atI xs i = some x) : ∃ j : Nat, xs[j]? = some x ∧ ∀ ys : List β, ys.length = xs.length → ∀ y : β, ys[j]? = some y → atI ys i = some y := by
  unfold atI at h ⊢
  obtain ⟨j, h1, h2⟩ := Option.bind_eq_some_iff.mp h
  exact ⟨j, h2, fun ys hl y hy => by rw [hl, h1]; exact hy⟩
theorem Rel.item {i j : Nat} {ds : List D} {x : D} (r : Rel K Y H0 io T t e s H) (hi : e[i]? = some (some d)) (h : items d = some ds) (hj : ds[j]? = some x) (hp : x.plain = true) :
    ∃ a vs v, s[i]? = some (some (V.ref a)) ∧ (SqL K H a vs ∨ SqT K H a vs) ∧ vs.length = ds.length ∧ vs[j]? = some v ∧ Rel K Y H0 io (x :: T) (v :: t) e s H := by
  obtain ⟨as, bs, h1, h2, h3, h4, h5, h6⟩ := r
  obtain ⟨u, pre, b, post, q1, q2, q3, _⟩ := Cells.focus e i h2 hi
  obtain ⟨a, vs, cs, rfl, w1, w2⟩ := q2.seq h
  obtain ⟨y, b1, c1, z1, z2, _⟩ := Owns.at w2 hj
  obtain ⟨z3, _⟩ := z2.plain hp
  refine ⟨a, vs, y, q1, w1, w2.len, z1, as, bs, ?_, h2, h3, h4, h5, h6⟩
  unfold Owns
  exact ⟨y, t, [], as, rfl, Own.of z3, h1, rfl⟩
def dIxS (d k : D) : Option D := match d, k with
  | .own ds, .int k => (atI ds k).bind fun x => if x.plain = true then some x else none
  | d, k => if d.plain = true then dIx d k else none
def mSlotIx (i : Nat) (mb : ME) : ME := fun e => match e[i]? with
  | some (some _) => (mb e).bind fun p => match (p.2 : List (Option D))[i]? with
    | some (some d) => Rs.of ((dIxS d p.1).map fun x => (x, p.2))
    | _ => .err
  | _ => .err
theorem sim_slotIx {i : Nat} {tb : TE} {mb : ME} (hb : SimE K mg W tb mb) : SimE K mg W (tOp (rIx K) (tVar i) tb) (mSlotIx i mb) := by
  intro Y H0 io T τ e s H Q r p
  unfold mSlotIx at p
  cases c : e[i]? with
  | none => rw [c] at p; exact False.elim p
  | some o =>
    cases o with
    | none => rw [c] at p; exact False.elim p
    | some d0 =>
      rw [c] at p
      obtain ⟨u, hu, _⟩ := r.view c
      refine ⟨u, hu, ?_⟩
      refine hb.then r (P := PostE K mg W Y H0 io T τ s Q) p id postE_exc fun k e1 p v H1 r1 => ?_
      cases c1 : (e1 : List (Option D))[i]? with
      | none => simp only [c1] at p; exact False.elim p
      | some o =>
        cases o with
        | none => simp only [c1] at p; exact False.elim p
        | some d =>
          simp only [c1] at p
          cases c2 : dIxS d k with
          | none => rw [c2] at p; exact False.elim p
          | some x =>
            rw [c2] at p
            by_cases hp : d.plain = true
            · have hx : dIx d k = some x := by
                unfold dIxS at c2
                cases d <;> first | (simp only [hp, if_true] at c2; exact c2) | (unfold D.plain at hp; cases hp)
              obtain ⟨v2, q1, r2⟩ := r1.get c1 hp
              rw [hu] at q1; cases q1
              exact ok_ix Y H0 io T τ e1 s H1 d k u v x Q hx r2.swap p
            · obtain ⟨ds, rfl⟩ : ∃ ds, d = .own ds := by
                cases d <;> first | exact ⟨_, rfl⟩ | (simp only [dIxS, if_neg hp, reduceCtorEq] at c2)
              obtain ⟨j, rfl⟩ : ∃ j, k = .int j := by
                cases k <;> first | exact ⟨_, rfl⟩ | (simp [dIxS, D.plain] at c2)
              obtain rfl := r1.isInt
              obtain ⟨y, hy, c2⟩ := Option.bind_eq_some_iff.mp (show (atI ds j).bind (fun x => if x.plain = true then some x else none) = some x from c2)
              by_cases hyp : y.plain = true
              · rw [if_pos hyp] at c2; cases c2
                obtain ⟨m, hm, hv⟩ := atI_any (β := V) hy
                obtain ⟨a, vs, w, z1, z2, z3, z4, z5⟩ := r1.pop.item c1 rfl hm hyp
                rw [hu] at z1; cases z1
                rcases z2 with z2 | z2
                · exact .inl ⟨a, vs, j, w, rfl, rfl, z2, hv vs z3 w z4, p w H1 z5⟩
                · exact .inr (.inl ⟨a, vs, j, w, rfl, rfl, z2, hv vs z3 w z4, p w H1 z5⟩)
              · rw [if_neg hyp] at c2; cases c2


theorem Rel.takeOut {i j : Nat} {ds : List D} {x : D} (r : Rel K Y H0 io T t e s H) (hi : e[i]? = some (some (.own ds))) (hj : ds[j]? = some x) :
    ∃ a vs u, s[i]? = some (some (V.ref a)) ∧ H a = some (.lst vs) ∧ vs.length = ds.length ∧ vs[j]? = some u ∧ Rel K Y H0 io (x :: T) (u :: t) (e.set i (some (.own (ds.set j (.raw u))))) s H := by
  obtain ⟨as, cs, h1, h2, h3, h4, h5, h6⟩ := r
  obtain ⟨v, pre, b0, post, q1, q2, q3, q4⟩ := Cells.focus e i h2 hi
  subst q3
  unfold Own at q2
  obtain ⟨a, vs, bs0, ev, qa, qo, eb⟩ := q2
  subst ev eb
  obtain ⟨u, b1, c1, u1, u2, u3, u4, u5⟩ := Owns.at qo hj
  obtain ⟨es, x1, x2⟩ := u5 (.raw u) u [] (Own.of (by unfold Rep; rfl))
  rw [set_same u1] at x1
  have pm : (b1 ++ as ++ (pre ++ (a :: es) ++ post)).Perm (as ++ (pre ++ (a :: bs0) ++ post)) := by
    rw [List.perm_iff_count] at u4 x2 ⊢
    intro z
    have g1 := u4 z
    have g2 := x2 z
    simp only [List.count_append, List.count_cons, List.cons_append, List.nil_append] at g1 g2 ⊢
    omega
  have m : Mono (inX Y (as ++ (pre ++ (a :: bs0) ++ post))) H (inX Y (b1 ++ as ++ (pre ++ (a :: es) ++ post))) H := mono_sub fun z hz => pm.mem_iff.mp hz
  have q5 := (q4 _ _ m fun _ _ => rfl).2 (.own (ds.set j (.raw u))) (V.ref a) (a :: es) (by
    unfold Own
    exact ⟨a, vs, es, rfl, qa, Owns.mono _ ⟨m, fun _ _ => rfl⟩ x1, rfl⟩)
  rw [set_same q1] at q5
  refine ⟨a, vs, u, q1, qa, qo.len, u1, b1 ++ as, pre ++ (a :: es) ++ post, ?_, q5, pm.nodup_iff.mpr h3, fun z hz => h4 z (pm.mem_iff.mp hz), h5, h6⟩
  unfold Owns
  exact ⟨u, t, b1, as, rfl, Own.mono x ⟨m, fun _ _ => rfl⟩ u2, Owns.mono T ⟨m, fun _ _ => rfl⟩ h1, rfl⟩
theorem Rel.putBack {i j : Nat} {ds : List D} {x : D} {u : V} (r : Rel K Y H0 io (x :: T) (u :: t) e s H) (hi : e[i]? = some (some (.own ds))) (hj : ds[j]? = some (.raw u)) : Rel K Y H0 io T t (e.set i (some (.own (ds.set j x)))) s H := by
  obtain ⟨as0, cs, h1, h2, h3, h4, h5, h6⟩ := r
  unfold Owns at h1
  obtain ⟨v', r', b1, as, e1, o1, o2, ea⟩ := h1
  cases e1; subst ea
  obtain ⟨v, pre, b0, post, q1, q2, q3, q4⟩ := Cells.focus e i h2 hi
  subst q3
  unfold Own at q2
  obtain ⟨a, vs, bs0, ev, qa, qo, eb⟩ := q2
  subst ev eb
  obtain ⟨w, b2, c1, u1, u2, u3, u4, u5⟩ := Owns.at qo hj
  obtain ⟨u6, u7⟩ := u2.rep (fun _ z => nomatch z)
  unfold Rep at u6
  subst u6 u7
  obtain ⟨es, x1, x2⟩ := u5 x w b1 o1
  rw [set_same u1] at x1
  have pm : (as ++ (pre ++ (a :: es) ++ post)).Perm (b1 ++ as ++ (pre ++ (a :: bs0) ++ post)) := by
    rw [List.perm_iff_count] at u4 x2 ⊢
    intro z
    have g1 := u4 z
    have g2 := x2 z
    simp only [List.count_append, List.count_cons, List.cons_append, List.nil_append] at g1 g2 ⊢
    omega
  have m : Mono (inX Y (b1 ++ as ++ (pre ++ (a :: bs0) ++ post))) H (inX Y (as ++ (pre ++ (a :: es) ++ post))) H := mono_sub fun z hz => pm.mem_iff.mp hz
  have q5 := (q4 _ _ m fun _ _ => rfl).2 (.own (ds.set j x)) (V.ref a) (a :: es) (by
    unfold Own
    exact ⟨a, vs, es, rfl, qa, Owns.mono _ ⟨m, fun _ _ => rfl⟩ x1, rfl⟩)
  rw [set_same q1] at q5
  exact ⟨as, pre ++ (a :: es) ++ post, Owns.mono T ⟨m, fun _ _ => rfl⟩ o2, q5, pm.nodup_iff.mpr h3, fun z hz => h4 z (pm.mem_iff.mp hz), h5, h6⟩
theorem Rel.setAt {i j : Nat} {ds : List D} {y : D} {vy : V} (r : Rel K Y H0 io (y :: T) (vy :: t) e s H) (hi : e[i]? = some (some (.own ds))) (hj : j < ds.length) :
    ∃ a vs, s[i]? = some (some (V.ref a)) ∧ H a = some (.lst vs) ∧ vs.length = ds.length ∧ Rel K Y H0 io T t (e.set i (some (.own (ds.set j y)))) s (upd H a (.lst (vs.set j vy))) := by
  obtain ⟨a, vs, P, bs, aa, e1, ha, o1, o2, nd, g⟩ := Rel.mut (A := [y]) (va := [vy]) rfl r hi
  obtain ⟨w, ew, q1⟩ := owns1' o2
  cases ew
  obtain ⟨u, b1, c1, u1, u2, u3, u4, u5⟩ := Owns.at o1 (List.getElem?_eq_getElem hj)
  obtain ⟨es, x1, x2⟩ := u5 y vy aa q1
  have sub : ∀ x ∈ es, x ∈ aa ++ bs := fun x hx => by
    have := x2.mem_iff.mp hx
    simp at this ⊢
    rcases this with z | z
    · exact .inl z
    · exact .inr (u4.mem_iff.mpr (by simp [z]))
  have nd2 : es.Nodup := by
    refine x2.nodup_iff.mpr ?_
    obtain ⟨n1, n2, n3⟩ := List.nodup_append.mp nd
    have n4 := (List.nodup_append.mp (u4.nodup_iff.mp n2)).2.1
    exact List.nodup_append.mpr ⟨n1, n4, fun x hx z hz => n3 x hx z (u4.mem_iff.mpr (by simp [hz]))⟩
  exact ⟨a, vs, e1, ha, o1.len, g (ds.set j y) (vs.set j vy) [] [] es [] x1 (by unfold Owns; exact ⟨rfl, rfl⟩) (by simpa using nd2) fun x hx => by simp at hx; exact sub x hx⟩
theorem Rel.erase {i j : Nat} {ds : List D} {y : D} (r : Rel K Y H0 io T t e s H) (hi : e[i]? = some (some (.own ds))) (hj : ds[j]? = some y) :
    ∃ a vs vy, s[i]? = some (some (V.ref a)) ∧ H a = some (.lst vs) ∧ vs.length = ds.length ∧ vs[j]? = some vy ∧ Rel K Y H0 io (y :: T) (vy :: t) (e.set i (some (.own (ds.eraseIdx j)))) s (upd H a (.lst (vs.eraseIdx j))) := by
  obtain ⟨a, vs, P, bs, aa, e1, ha, o1, o2, nd, g⟩ := Rel.mut (A := []) (va := []) rfl r hi
  unfold Owns at o2
  rw [o2.2] at g nd
  obtain ⟨u, b1, c1, u1, u2, u3, u4, u5⟩ := Owns.at o1 hj
  exact ⟨a, vs, u, e1, ha, o1.len, u1, g (ds.eraseIdx j) (vs.eraseIdx j) [y] [u] c1 b1 u3 (owns1 u2) (u4.nodup_iff.mp (by simpa using nd)) fun x hx => by simpa using u4.mem_iff.mpr hx⟩
theorem Rel.ext {i : Nat} {ds zs : List D} {u : V} (r : Rel K Y H0 io (.own zs :: T) (u :: t) e s H) (hi : e[i]? = some (some (.own ds))) :
    ∃ a vs b ws, u = V.ref b ∧ H b = some (.lst ws) ∧ ws.length = zs.length ∧ s[i]? = some (some (V.ref a)) ∧ H a = some (.lst vs) ∧ vs.length = ds.length ∧ Rel K Y H0 io T t (e.set i (some (.own (ds ++ zs)))) s (upd H a (.lst (vs ++ ws))) := by
  obtain ⟨a, vs, P, bs, aa, e1, ha, o1, o2, nd, g⟩ := Rel.mut (A := [.own zs]) (va := [u]) rfl r hi
  obtain ⟨w, ew, q1⟩ := owns1' o2
  cases ew
  obtain ⟨b, ws, cs, rfl, hb, q2, rfl⟩ := q1.own
  refine ⟨a, vs, b, ws, rfl, hb, q2.len, e1, ha, o1.len, g (ds ++ zs) (vs ++ ws) [] [] (bs ++ cs) [] (Owns.join ds o1 q2) (by unfold Owns; exact ⟨rfl, rfl⟩) ?_ fun x hx => ?_⟩
  · rw [List.nil_append]
    rw [List.cons_append] at nd
    exact (List.perm_append_comm.nodup_iff).mp (List.nodup_cons.mp nd).2
  · simp at hx ⊢
    rcases hx with z | z <;> simp [z]
def ownAt (e : Env) (i : Nat) : Option (List D) := match e[i]? with
  | some (some (.own ds)) => some ds
  | _ => none
theorem ownAt_eq {i : Nat} {ds : List D} (h : ownAt e i = some ds) : e[i]? = some (some (.own ds)) := by
  unfold ownAt at h
  cases q : e[i]? with
  | none => rw [q] at h; cases h
  | some o =>
    cases o with
    | none => rw [q] at h; cases h
    | some d => cases d <;> rw [q] at h <;> first | (cases h; rfl) | cases h
theorem Rel.slotL {i : Nat} {ds : List D} (r : Rel K Y H0 io T t e s H) (h : ownAt e i = some ds) : ∃ a vs, s[i]? = some (some (V.ref a)) ∧ H a = some (.lst vs) ∧ vs.length = ds.length := by
  obtain ⟨a, vs, P, bs, aa, e1, ha, o1, _⟩ := Rel.mut (A := []) (va := []) rfl r (ownAt_eq h)
  exact ⟨a, vs, e1, ha, o1.len⟩
def mPopAt (i : Nat) (m : ME) : ME := fun e => match ownAt e i with
  | none => .err
  | some _ => (m e).bind fun p => match p.1, ownAt p.2 i with
    | .int k, some ds => match ixN ds.length k with
      | some j => match ds[j]? with
        | some y => if ds.length < 2 ^ 62 then .ok (y, p.2.set i (some (.own (ds.eraseIdx j)))) else .err
        | none => .err
      | none => .err
    | _, _ => .err
theorem sim_popAt {i : Nat} {te : TE} {m : ME} (h : SimE K mg W te m) : SimE K mg W (tBM K "list" rPopAt (tVar i) (tCons te tNil)) (mPopAt i m) := by
  intro Y H0 io T τ e s H Q r p
  unfold mPopAt at p
  cases c : ownAt e i with
  | none => rw [c] at p; exact False.elim p
  | some ds0 =>
    rw [c] at p
    obtain ⟨a, vs, hs, ha, _⟩ := r.slotL c
    refine ⟨V.ref a, hs, .inl ⟨rfl, vs, SqL.of ha⟩, ?_⟩
    refine h.then r (P := PostE K mg W Y H0 io T τ s Q) p id postE_exc fun d e1 p v H1 r1 => ?_
    obtain ⟨k, rfl⟩ : ∃ k, d = .int k := by cases d <;> first | exact ⟨_, rfl⟩ | exact False.elim p
    obtain rfl := r1.isInt
    cases c1 : ownAt e1 i with
    | none => simp only [c1] at p; exact False.elim p
    | some ds =>
      simp only [c1] at p
      cases c2 : ixN ds.length k with
      | none => simp only [c2] at p; exact False.elim p
      | some j =>
        simp only [c2] at p
        cases c3 : ds[j]? with
        | none => simp only [c3] at p; exact False.elim p
        | some y =>
          simp only [c3] at p
          by_cases z : ds.length < 2 ^ 62
          · rw [if_pos z] at p
            obtain ⟨a', vs', vy, hs', ha', hl, hy, r2⟩ := r1.pop.erase (ownAt_eq c1) c3
            rw [hs] at hs'; cases hs'
            obtain ⟨g1, g2, g3, g4⟩ := ixN_seq c2
            exact ⟨a, vs', k, j, vy, rfl, rfl, ha', by omega, by omega, by rw [hl]; exact g1, hy, p _ _ r2⟩
          · rw [if_neg z] at p; exact False.elim p
def mSetIx (i : Nat) (m mk : ME) : MS := fun e => match m e with
  | .ok (d, e1) => match ownAt e1 i with
    | none => .err
    | some _ => match mk e1 with
      | .ok (.int k, e2) => match ownAt e2 i with
        | some ds => match ixN ds.length k with
          | some j => if j < ds.length then .nx (e2.set i (some (.own (ds.set j d)))) else .err
          | none => .err
        | none => .err
      | .exc c fs e' => .exc c fs e'
      | _ => .err
  | .exc c fs e' => .exc c fs e'
  | .err => .err
theorem sim_setIx {ios : List Nat} {i : Nat} {te tk : TE} {m mk : ME} (h : SimE K mg W te m) (hk : SimE K mg W tk mk) : SimS K mg W ios (tAsg te (gSub (tVar i) tk rSetL)) (mSetIx i m mk) := by
  intro Y H0 io T τ e s H D hio r p
  refine h Y H0 io T τ e s H _ r ?_
  unfold mSetIx at p
  cases c : m e with
  | err => rw [c] at p; exact p
  | exc c fs e' => rw [c] at p; exact fun cls dd H' x rl => p cls dd s H' x rl
  | ok z =>
    obtain ⟨d, e1⟩ := z
    rw [c] at p
    simp only at p
    intro v H1 r1
    cases c0 : ownAt e1 i with
    | none => rw [c0] at p; exact False.elim p
    | some ds0 =>
      rw [c0] at p
      simp only at p
      obtain ⟨a, vs0, hs, _, _⟩ := r1.slotL c0
      refine ⟨V.ref a, hs, ?_⟩
      refine hk Y H0 io _ _ e1 s H1 _ r1 ?_
      cases c2 : mk e1 with
      | err => rw [c2] at p; exact False.elim p
      | exc c fs e' => rw [c2] at p; exact fun cls dd H' x rl => p cls dd s H' x rl.pop
      | ok z =>
        obtain ⟨k, e2⟩ := z
        rw [c2] at p
        obtain ⟨k, rfl⟩ : ∃ j, k = .int j := by cases k <;> first | exact ⟨_, rfl⟩ | exact False.elim p
        simp only at p
        intro vk H2 r2
        obtain rfl := r2.isInt
        cases c3 : ownAt e2 i with
        | none => rw [c3] at p; exact False.elim p
        | some ds =>
          rw [c3] at p
          simp only at p
          cases c4 : ixN ds.length k with
          | none => rw [c4] at p; exact False.elim p
          | some j =>
            rw [c4] at p
            simp only at p
            by_cases hj : j < ds.length
            · rw [if_pos hj] at p
              obtain ⟨a', vs, hs', ha', hl', r3⟩ := r2.pop.setAt (ownAt_eq c3) hj
              rw [hs] at hs'; cases hs'
              exact ⟨a, vs, k, j, rfl, rfl, ha', by rw [hl']; exact c4, p _ _ r3⟩
            · rw [if_neg hj] at p; exact False.elim p
end
section
variable {X : Cx} {W : WX} {ios : List Nat} {pos p p2 : Pos} {a b : Expr} {ma mb : ME} {x : Str}
theorem de_slotIx (i : Nat) (hb : DE X W b mb) (hs : PlainIx b := by exact fun _ _ => rfl) (hN : X.N[i]? = some x := by rfl) (hv : Vis X.env.scope x := by first | exact Or.inl rfl | exact Or.inr (Or.inl rfl) | exact Or.inr (Or.inr rfl)) (hd : (x == ("__debug__" : Str)) = false := by decide)
    (hcd : (x == ("__classdict__" : Str)) = false := by decide) : DE X W (.Subscript (.Name x p) b pos) (mSlotIx i mb) := by
  obtain ⟨t, pb, s⟩ := hb
  exact ⟨_, pe_ix ix_seq (pe_var hN hv hd hcd) pb hs, sim_slotIx s⟩
theorem de_popAt (i : Nat) {apos : Pos} (ha : DE X W a ma) (hN : X.N[i]? = some x := by rfl) (hv : Vis X.env.scope x := by first | exact Or.inl rfl | exact Or.inr (Or.inl rfl) | exact Or.inr (Or.inr rfl)) (hd : (x == ("__debug__" : Str)) = false := by decide)
    (hcd : (x == ("__classdict__" : Str)) = false := by decide)
    (hbase : attributeBase (.Name x p) "pop" X.env (eval (.Name x p) X.env) = eval (.Name x p) X.env := by rfl)
    (hfew : ((backTo pos (starEach (a :: []) X.env)).all (fun x => !x.1) && (backToKw pos (keywordEach [] X.env)).all (fun x => x.1.isSome)
      && decide ((a :: ([] : List Expr)).length + ([] : List Keyword).length + (if ([] : List Keyword).isEmpty then 0 else 1) < 30)) = true := by rfl)
    (hline : (apos.endLine == pos.line) = true := by rfl) (hs : starEach (a :: []) X.env = (false, eval a X.env) :: starEach [] X.env := by rfl) (hplain : (backTo pos (starEach [] X.env)).any (·.1) = false := by rfl) :
    DE X W (.Call (.Attribute (.Name x p) "pop" apos) [a] [] pos) (mPopAt i ma) := by
  obtain ⟨t, pa, s⟩ := ha
  exact ⟨_, pe_bm PySem.F.plainAttrs_list PySem.F.slot_list_pop PySem.F.type_list_pop mt_popAt (pe_var hN hv hd hcd) (pa_cons pa pa_nil hs) hbase hfew hline hs hplain, sim_popAt s⟩
theorem ds_setIx (i : Nat) (ha : DE X W a ma) (hb : DE X W b mb) (hN : X.N[i]? = some x := by rfl) (hv : Vis X.env.scope x := by first | exact Or.inl rfl | exact Or.inr (Or.inl rfl) | exact Or.inr (Or.inr rfl)) (hd : (x == ("__debug__" : Str)) = false := by decide)
    (hcd : (x == ("__classdict__" : Str)) = false := by decide)
    (hasg : ∀ v, assign (.Subscript (.Name x p) b p2) X.env v = (do
      let ov ← holding [v] (eval (.Name x p) X.env)
      let iv ← holding [v, ov] (eval b X.env)
      standAt p2
      holding [v, ov, iv] (setItem ov iv v)
      release [v, ov, iv] []) := by intro _; rfl)
    (hs : swapsWithSole [.Subscript (.Name x p) b p2] a pos.line X.env = pure false := by rfl) (hw : swappedStores [.Subscript (.Name x p) b p2] a X.env = pure none := by rfl)
    (h1 : (assignEach [.Subscript (.Name x p) b p2] X.env).map (·.2) = [assign (.Subscript (.Name x p) b p2) X.env] := by rfl) :
    DS X W ios (.Assign [.Subscript (.Name x p) b p2] a pos) (mSetIx i ma mb) := by
  obtain ⟨t, pa, s⟩ := ha
  obtain ⟨t2, pb, s2⟩ := hb
  exact ⟨_, ps_asg pa (pg_sub (pe_var hN hv hd hcd) pb set_list hasg) hs hw h1, sim_setIx s s2⟩
end
end Mi

namespace Mi
open PySem PySem.Spec PyProof.Rows L2
variable [TabsC]

section
variable {K : PySem.W.Frag} {mg : Str → Option Value} {W : WX} {Y P : Addr → Prop} {H0 H H' : Hp} {io : List (Nat × Addr)} {T : List D} {t : List V} {e : Env} {s : St} {d : D} {v : V}
theorem Rel.startO {a : Addr} {ws us : List V} {xs ds : List D} {N : List Str} (ha : H a = some (.lst ws)) (np : ¬ P a) (hx : Reps K (fun b => b = a ∨ P b) H xs ws) (h : Reps K (fun b => b = a ∨ P b) H ds us) (hm : Mut' P H) :
    Rel K P H [(0, a)] [] [] (envOf N.length (.own xs :: ds)) (L2.start N (V.ref a :: us)) H := by
  have m : Mono (fun b => b = a ∨ P b) H (inX P ([] ++ [a])) H := mono_to fun b z => z.imp (fun z => by simpa using z) id
  refine ⟨[], [a], by unfold Owns; exact ⟨rfl, rfl⟩, ?_, by simp, fun b hb => .inr (by simpa using hb), Kept.refl hm.2.1 hm.2.2, fun p hp => ?_, fun b hb => ⟨hm.1 b hb, fun z => ?_⟩⟩
  · unfold envOf L2.start
    rw [List.map_cons, List.map_cons, List.cons_append, List.cons_append]
    unfold Cells
    refine ⟨V.ref a, _, [a], [], rfl, ?_, ?_, by simp⟩
    · unfold Own
      exact ⟨a, ws, [], rfl, ha, Owns.of (Reps.mono m xs hx), rfl⟩
    · have e1 : N.length - (V.ref a :: us).length = N.length - (D.own xs :: ds).length := by rw [List.length_cons, List.length_cons, h.len]
      rw [e1]
      exact Cells.args _ (Reps.mono m ds h)
  · obtain rfl : p = (0, a) := by simpa using hp
    exact fun _ => by unfold L2.start; simp
  · obtain rfl : b = a := by simpa using z
    exact np hb
theorem Rel.retO {a : Addr} {ys : List D} (r : Rel K P H0 [(0, a)] [d] [v] e s H) (he : e[0]? = some (some (.own ys))) (hy : plains ys = true) :
    SameA a H0 H ∧ ∃ ws, H a = some (.lst ws) ∧ RetO K (fun b => b = a ∨ P b) H0 d v ys ws H := by
  obtain ⟨as, bs, h1, h2, h3, h4, h5, h6⟩ := r
  have hs := h6.1 (0, a) (by simp) rfl
  obtain ⟨u, pre, b, post, q1, q2, q3, _⟩ := Cells.focus e 0 h2 he
  rw [hs] at q1
  cases q1
  unfold Own at q2
  obtain ⟨a', ws, cs, ea, qa, qo, eb⟩ := q2
  cases ea
  obtain ⟨w1, w2⟩ := Owns.reps hy qo
  subst w2 eb
  have hab : a ∈ bs := by rw [q3]; simp
  unfold Owns at h1
  obtain ⟨v', r', b1, c1, e1, o1, o2, ea⟩ := h1
  cases e1
  unfold Owns at o2
  rw [o2.2, List.append_nil] at ea
  subst ea
  have m : Mono (inX P (as ++ bs)) H (inX (fun b => b = a ∨ P b) as) H := mono_to fun z hz => by
    rcases hz with z | z | z
    · exact .inl (List.mem_append_left _ z)
    · exact .inl (List.mem_append_right _ (z ▸ hab))
    · exact .inr z
  refine ⟨⟨fun b o eb nb => (h5 b o eb).1 (by simpa using nb), fun b o eb => (h5 b o eb).2, h5.tabs⟩, ws, qa, as, (List.nodup_append.mp h3).1, fun x hx => (h4 x (List.mem_append_left _ hx)).resolve_right fun z => ?_, Own.mono d ⟨m, fun _ _ => rfl⟩ o1, Reps.mono m ys w1⟩
  obtain rfl : x = a := by simpa using z
  exact (List.nodup_append.mp h3).2.2 x hx x hab rfl
theorem Rel.callO {i : Nat} {ds xs : List D} {us : List V} (hl : us.length = ds.length) (r : Rel K Y H0 io (ds ++ T) (us ++ t) e s H) (hi : e[i]? = some (some (.own xs))) (hx : plains xs = true) :
    ∃ a ws P, s[i]? = some (some (V.ref a)) ∧ H a = some (.lst ws) ∧ ¬ P a ∧ Reps K (fun b => b = a ∨ P b) H xs ws ∧ Reps K (fun b => b = a ∨ P b) H (frzs ds) us ∧ Mut' P H ∧
      ∀ d v H' ys ws', SameA a H H' → H' a = some (.lst ws') → RetO K (fun b => b = a ∨ P b) H d v ys ws' H' →
        Rel K Y H0 io (d :: T) (v :: t) (e.set i (some (.own ys))) s H' := by
  obtain ⟨as, bs, h1, h2, h3, h4, h5, h6⟩ := r.frzA hl
  obtain ⟨v1, v2, a1, a2, e1, e2, e3, q1, q2⟩ := Owns.split (frzs ds) h1
  obtain ⟨e4, e5⟩ := List.append_inj e1 (by rw [hl, e3, frzs_length])
  subst e4 e5
  obtain ⟨q3, q4⟩ := Owns.reps (plains_frz ds) q1
  have e6 : as = a2 := by rw [e2, q4]; rfl
  subst e6
  obtain ⟨u, pre, b, post, f1, f2, f3, f4⟩ := Cells.focus e i h2 hi
  subst f3
  unfold Own at f2
  obtain ⟨a, ws, cs, ea, qa, qo, eb⟩ := f2
  subst ea
  obtain ⟨w1, w2⟩ := Owns.reps hx qo
  subst w2 eb
  have there : ∀ x ∈ as ++ (pre ++ [a] ++ post), ∃ ws, H x = some ws ∧ ∀ xs, ws ≠ .tup xs := fun x hx => (List.mem_append.mp hx).elim (Owns.there _ h1 x) (Cells.there _ h2 x)
  have na : a ∉ as ++ (pre ++ post) := fun z => by
    have p0 : (as ++ (pre ++ [a] ++ post)).Perm (a :: (as ++ (pre ++ post))) := by
      rw [List.perm_iff_count]
      intro x
      simp only [List.count_append, List.count_cons, List.cons_append, List.count_nil]
      omega
    exact (List.nodup_cons.mp (p0.nodup_iff.mp h3)).1 z
  have iffP : ∀ x, inX Y (as ++ (pre ++ [a] ++ post)) x ↔ (x = a ∨ inX Y (as ++ (pre ++ post)) x) := fun x => by
    unfold inX
    simp only [List.mem_append, List.mem_singleton]
    constructor
    · rintro ((z | (z | z) | z) | z)
      · exact .inr (.inl (.inl z))
      · exact .inr (.inl (.inr (.inl z)))
      · exact .inl z
      · exact .inr (.inl (.inr (.inr z)))
      · exact .inr (.inr z)
    · rintro (z | (z | z | z) | z)
      · exact .inl (.inr (.inl (.inr z)))
      · exact .inl (.inl z)
      · exact .inl (.inr (.inl (.inl z)))
      · exact .inl (.inr (.inr z))
      · exact .inr z
  have m1 : Mono (inX Y (as ++ (pre ++ [a] ++ post))) H (fun b => b = a ∨ inX Y (as ++ (pre ++ post)) b) H := mono_to fun x z => (iffP x).mpr z
  refine ⟨a, ws, inX Y (as ++ (pre ++ post)), f1, qa, fun z => ?_, Reps.mono m1 xs w1, Reps.mono m1 _ q3, ⟨fun x hx => ?_, h5.tabs, fun x t => .inr (h5.tx x t)⟩, fun d v H' ys ws' hs ha' ⟨zs, c1, c2, c3, hy⟩ => ?_⟩
  · rcases z with z | z
    · exact na z
    · exact noX h4 h6.2 a (by simp) z
  · rcases hx with z | z
    · obtain ⟨ws, q, nt⟩ := there x (by simp at z ⊢; rcases z with z | z | z <;> simp [z])
      exact ⟨_, q, nt⟩
    · obtain ⟨⟨o, q, nt⟩, ni⟩ := h6.2 x z
      exact h5.nt q nt ni
  · have nz : ∀ x ∈ zs, ∀ y ∈ as ++ (pre ++ [a] ++ post), x ≠ y := fun x hx y hy e => by
      subst e
      obtain ⟨ws, q, nt⟩ := there x hy
      rw [c2 x hx] at q; cases q
    have m : Mono (inX Y (as ++ (pre ++ [a] ++ post))) H (inX Y (zs ++ as ++ (pre ++ [a] ++ post))) H' := ⟨fun x o ex nx => by
      have hxa : x ≠ a := fun z => nx (.inl (by rw [z]; simp))
      refine ⟨hs.1 x o ex hxa fun t => nx (.inr (h5.tx x t)), fun z => ?_⟩
      rcases z with z | z
      · rw [List.append_assoc] at z
        rcases List.mem_append.mp z with z | z
        · rw [c2 x z] at ex; cases ex
        · exact nx (.inl z)
      · exact nx (.inr z), fun x o u ex => hs.1 x _ ex (fun z => by rw [z, qa] at ex; cases ex) (tab_no h5.tabs ex fun _ z => nomatch z)⟩
    have st : ∀ x ∈ as ++ (pre ++ [a] ++ post), x ≠ a → H' x = H x := fun x hx hn => by
      obtain ⟨ws, q, nt⟩ := there x hx
      rw [q, hs.1 x _ q hn fun t => noX h4 h6.2 x hx (h5.tx x t)]
    have neA : ∀ x ∈ as ++ (pre ++ post), x ≠ a := fun x hx z => na (z ▸ hx)
    have iff2 : ∀ x, inX Y (zs ++ as ++ (pre ++ [a] ++ post)) x → inX (fun b => b = a ∨ inX Y (as ++ (pre ++ post)) b) zs x := fun x z => by
      rcases z with z | z
      · rw [List.append_assoc] at z
        rcases List.mem_append.mp z with z | z
        · exact .inl z
        · exact .inr ((iffP x).mp (.inl z))
      · exact .inr (.inr (.inr z))
    have q5 := (f4 _ _ m fun x hx => st x (by simp at hx ⊢; rcases hx with z | z <;> simp [z]) (neA x (List.mem_append_right _ hx))).2 (.own ys) (V.ref a) [a] (by
      unfold Own
      refine ⟨a, ws', [], rfl, ha', Owns.of (Reps.mono (mono_to iff2) ys hy), rfl⟩)
    rw [set_same f1] at q5
    refine ⟨zs ++ as, pre ++ [a] ++ post, ?_, q5, ?_, fun x hx => ?_, ⟨fun b o eb => ?_, hs.2.2, h5.tx⟩, h6⟩
    · unfold Owns
      exact ⟨v, t, zs, as, rfl, Own.mono d ⟨mono_to iff2, fun _ _ => rfl⟩ c3, Owns.mono T ⟨m, fun x hx => st x (List.mem_append_left _ hx) (neA x (List.mem_append_left _ hx))⟩ q2, rfl⟩
    · rw [List.append_assoc]
      exact List.nodup_append.mpr ⟨c1, h3, fun x hx y hy => nz x hx y hy⟩
    · rw [List.append_assoc] at hx
      rcases List.mem_append.mp hx with z | z
      · refine .inl ?_
        cases q : H0 x with
        | none => rfl
        | some o =>
          obtain ⟨o', q'⟩ := (h5 x o q).2
          rw [c2 x z] at q'; cases q'
      · exact h4 x z
    · obtain ⟨z1, o', z2⟩ := h5 b o eb
      by_cases hb : b = a
      · subst hb
        refine ⟨fun ni _ => ?_, _, ha'⟩
        rcases h4 b (by simp) with y | y
        · rw [y] at eb; cases eb
        · exact absurd y ni
      · exact ⟨fun ni nt => hs.1 b o (z1 ni nt) hb nt, hs.2.1 b o' z2⟩
end
theorem fnO_post {K : PySem.W.Frag} {mg : Str → Option Value} {P' : Addr → Prop} {H : Hp} {a : Addr} {N : List Str} {m : MS} {xs ds : List Mi.D} {Q : VK} {E : XK}
    (hF : match fnO N.length m xs ds with
      | .ok d xs' => ∀ v H' ws', SameA a H H' → H' a = some (.lst ws') → RetO K (fun b => b = a ∨ P' b) H d v xs' ws' H' → Q v H'
      | .err => False) :
    PostS K mg (fun cls d _ H => E cls d H) P' H [(0, a)] [] [] { nx := fun _ H' => Q .non H', rt := Q } (m (envOf N.length (.own xs :: ds))) := by
  have fin : ∀ (e' : Env) (d : D), (match (match (e' : List (Option D))[0]? with | some (some (D.own ys)) => if plains ys = true then Fo.ok d ys else .err | _ => .err) with
      | .ok d xs' => ∀ v H' ws', SameA a H H' → H' a = some (.lst ws') → RetO K (fun b => b = a ∨ P' b) H d v xs' ws' H' → Q v H'
      | .err => False) → ∀ v s' H', Rel K P' H [(0, a)] [d] [v] e' s' H' → Q v H' := fun e' d hq v s' H' r => by
    cases c : (e' : List (Option D))[0]? with
    | none => rw [c] at hq; exact hq.elim
    | some o =>
      cases o with
      | none => rw [c] at hq; exact hq.elim
      | some z =>
        cases z <;> rw [c] at hq <;> try exact hq.elim
        rename_i ys
        simp only at hq
        by_cases hy : plains ys = true
        · rw [if_pos hy] at hq
          obtain ⟨g1, ws', g2, g3⟩ := r.retO c hy
          exact hq v H' ws' g1 g2 g3
        · rw [if_neg hy] at hq; exact hq.elim
  unfold fnO at hF
  cases q : m (envOf N.length (.own xs :: ds)) with
  | nx e' =>
    rw [q] at hF
    exact fun s' H' r => fin e' .non hF _ s' H' r.non
  | rt d e' =>
    rw [q] at hF
    exact fun v s' H' r => fin e' d hF v s' H' r
  | exc c fs e' => rw [q] at hF; exact hF.elim
  | bk e' => rw [q] at hF; exact hF.elim
  | ct e' => rw [q] at hF; exact hF.elim
  | err => rw [q] at hF; exact hF.elim
theorem fn_okO {P : Program} {w : World} {K : PySem.W.Frag} {mg : Str → Option Value} {base : Heap} {x qual : Str} {st : Stmt} {f : Addr} {fd : FuncData} {N ps : List Str} {k : Nat} {m : MS} (F : Fun K x qual st f fd) (S : FnScope N ps (defScope st))
    (h : ∀ (cdv : Value) (A : Around) (outer : List PySem.Env) (s : Shared) (H : Hp) (E : XK), Room k (A.deeper (envOfC qual (defScope st) s.heap.objs.size f cdv)) →
      L2N.Takes (cxOf (L2N.CX P w) P w K mg base N qual (defScope st) f cdv A outer s H E) (fun cls d _ H => E cls d H) →
      DB (cxOf (L2N.CX P w) P w K mg base N qual (defScope st) f cdv A outer s H E) (fun cls d _ H => E cls d H) [0] (defBody st) m) :
    FnOk P w K mg base (L2N.CX P w) (k + 1) f fd ps (spO K ps.length (fnO N.length m)) := by
  obtain ⟨oc, od, kV, doc, pm, an, cdv, ct, osl, rfl, lk, hcd⟩ := F.ex
  refine fn_of lk hcd S (fun vs H Q E ⟨a, ws, us, xs, ds, P, e, hl, _, _, _, hr, _⟩ => by rw [e, List.length_cons, hr.len, hl]) fun A outer s H vs Q E hr ⟨a, ws, us, xs, ds, P', ev, hl, ha, np, hx, hrep, hm, hF⟩ => ?_
  subst ev
  obtain ⟨t, p, sm⟩ := h cdv A outer s H E hr (L2N.takes_of rfl rfl rfl rfl)
  refine ⟨t, p, sm P' H [(0, a)] [] [] (envOf N.length (.own xs :: ds)) (L2.start N (V.ref a :: us)) H _ (fun p hp _ => by simpa using congrArg Prod.fst (show p = (0, a) by simpa using hp)) (Rel.startO ha np hx hrep hm) ?_⟩
  exact fnO_post hF
def mCallO (F : MO) (i : Nat) (ma : MA) : ME := fun e => match ownAt e i with
  | none => .err
  | some _ => (ma e).bind fun p => match ownAt p.2 i with
    | none => .err
    | some xs => if plains xs = true then (match F xs (frzs p.1) with
      | .ok d ys => .ok (d, p.2.set i (some (.own ys)))
      | .err => .err) else .err
section
variable {K : PySem.W.Frag} {mg : Str → Option Value} {W : WX}
theorem sim_callO {i n : Nat} {F : MO} {t : TA} {ma : MA} (h : SimA K mg W t ma) (hn : ∀ e ds e', ma e = .ok (ds, e') → ds.length + 1 = n) : SimE K mg W (tCallS (spO K n F) (WE W) (tCons (tVar i) t)) (mCallO F i ma) := by
  intro Y H0 io T τ e s H Q r q
  unfold mCallO at q
  cases c : ownAt e i with
  | none => rw [c] at q; exact False.elim q
  | some xs0 =>
    rw [c] at q
    simp only at q
    obtain ⟨a, vs0, hs, _, _⟩ := r.slotL c
    refine ⟨V.ref a, hs, ?_⟩
    refine h Y H0 io T τ e s H _ r ?_
    cases c1 : ma e with
    | err => rw [c1] at q; exact q
    | exc c fs e' => rw [c1] at q; exact q
    | ok z =>
      obtain ⟨ds, e'⟩ := z
      rw [c1] at q
      intro us H' hl rl
      simp only [Rs.bind] at q
      cases c2 : ownAt e' i with
      | none => rw [c2] at q; exact False.elim q
      | some xs =>
        rw [c2] at q
        simp only at q
        by_cases hx : plains xs = true
        · rw [if_pos hx] at q
          obtain ⟨a', ws, P, g1, g2, g3, g4, g5, g6, g7⟩ := rl.callO hl (ownAt_eq c2) hx
          rw [hs] at g1; cases g1
          refine ⟨a, ws, us, xs, frzs ds, P, rfl, by rw [frzs_length]; exact hn e ds e' c1, g2, g3, g4, g5, g6, ?_⟩
          cases hf : F xs (frzs ds) with
          | err => rw [hf] at q; exact q
          | ok d ys =>
            rw [hf] at q
            exact fun v H2 ws' w1 w2 w3 => q v H2 (g7 d v H2 ys ws' w1 w2 w3)
        · rw [if_neg hx] at q; exact False.elim q
end
section
variable {X : Cx} {W : WX} {pos p p2 : Pos} {es : List Expr} {mas : MA}
theorem de_callO {k n : Nat} {f : Addr} {fd : FuncData} {ps : List Str} {F : MO} {x y : Str} (i : Nat) (hF : FnOk X.prog X.w X.K X.mg X.base (L2N.CX X.prog X.w) k f fd ps (spO X.K n F)) (hr : Room k X.A) (hm : X.mg x = some (.ref f)) (hk : PySem.W.keepIn X.K (.ref f) = true) (hb : Binds X.K fd ps [])
    (tk : L2N.Takes X W) (ha : DA X W es mas) (hn : ∀ e ds e', mas e = .ok (ds, e') → ds.length + 1 = n) (hN : X.N[i]? = some y := by rfl) (hv : Vis X.env.scope y := by first | exact Or.inl rfl | exact Or.inr (Or.inl rfl) | exact Or.inr (Or.inr rfl)) (hd : (y == ("__debug__" : Str)) = false := by decide)
    (hcd : (y == ("__classdict__" : Str)) = false := by decide) (hg : Gl X x := by rfl)
    (hdb : (x == ("__debug__" : Str)) = false := by decide) (he : starEach (.Name y p2 :: es) X.env = (false, eval (.Name y p2) X.env) :: starEach es X.env := by rfl) (hpl : (backTo pos (starEach es X.env)).any (·.1) = false := by rfl) :
    DE X W (.Call (.Name x p) (.Name y p2 :: es) [] pos) (mCallO F i mas) := by
  obtain ⟨t, pa, s⟩ := ha
  exact ⟨_, pe_callS hF hr hg hm hk hb (fun σ => L2N.passAt tk σ) (pa_cons (pe_var hN hv hd hcd) pa he) hdb he hpl, sim_callO s hn⟩
end
end Mi

namespace Mi
open PySem PySem.Spec PyProof.Rows L2
variable [TabsC]

structure ExC (K : PySem.W.Frag) (mg : Str → Option Value) (x : Str) (C : Addr) : Prop where
  g : mg x = some (.ref C)
  x : PySem.W.excIn K C [.type "ValueError", .type "Exception", .type "BaseException", .type "object"] "ValueError.__new__" = true
  k : PySem.W.keepIn K (.ref C) = true
  b : PySem.W.subIn K (.ref C) (.type "BaseException") = some true
  t : PySem.W.typeIn K (.ref C) = some (.type "type")
section
variable {X : Cx} {W : WX} {ios : List Nat}
theorem ds_raise {x m : Str} {j : Nat} {C : Addr} {p p2 pos pos' : Pos} (tk : L2N.Takes X W) (E : ExC X.K X.mg x C) (hc : X.calm = true := by rfl) (hg : Gl X x := by rfl) (hdb : (x == ("__debug__" : Str)) = false := by decide) :
    DS X W ios (.Raise (some (.Call (.Name x p) [.Constant (.str m) j p2] [] pos)) none pos') (fun e => .exc x [] e) := by
  refine ⟨_, L2N.ps_raise hc tk (L2N.pmk_own PySem.F.excBase_ValueError E.x E.g E.k (raises_own E.b E.t) hg hdb), fun Y H0 io T τ e s H D hi r q => ?_⟩
  exact q (.ref C) none s H ⟨C, E.g, rfl, .inl ⟨rfl, rfl⟩⟩ r
def DSu (X : Cx) (ios : List Nat) (i : Nat) (sts : List Stmt) (ms : Str → List (Str × Int) → MS) : Prop :=
  ∃ ts : Addr → Value → Option Addr → TS, (∀ (a : Addr) (oe : Obj) (cls : Value) (d : Option Addr) (pn : List (Addr × Obj)), L2N.Zn cls d oe → (∃ vs, oe.data = .fields vs) → PSs (X.suite a ((a, oe) :: pn)) sts (ts a cls d)) ∧
    ∀ a cls d c fs Y H0 io T τ e s H D, IoIn io ios → XR X.mg H c fs cls d → H a = none → e[i]? = some none → s[i]? = some (some (V.ref a)) → Rel X.K Y H0 io T τ e s H → PostS X.K X.mg W0 Y H0 io T τ D (ms c fs e) → ts a cls d D s H
def mTry (i : Nat) (names : List Str) (body : MS) (ms : Str → List (Str × Int) → MS) : MS := fun e => match body e with
  | .exc c fs e' => if names.contains c = true ∧ i < e'.length then (match ms c fs (e'.set i none) with
    | .nx e2 => .nx (e2.set i none)
    | .bk e2 => .bk (e2.set i none)
    | .ct e2 => .ct (e2.set i none)
    | .exc _ _ _ => .err
    | r => r) else .err
  | r => r
def CaughtBy (K : PySem.W.Frag) (mg : Str → Option Value) (c : Value) (names : List Str) : Prop := ∀ x ∈ names, ∀ C, mg x = some (.ref C) → PySem.W.exmOne K (.ref C) c = some true
theorem ds_try {i : Nat} {x n : Str} {c : Value} {names : List Str} {body suite : List Stmt} {b₀ : Stmt} {np pos pos' : Pos} {m : MS} {ms : Str → List (Str × Int) → MS} (hN : X.N.Nodup) (tk : L2N.Takes X W) (hc : Names X x c) (hC : CaughtBy X.K X.mg c names)
    (hb : ∀ (W : WX) (pn : List (Addr × Obj)) (xe : Value → Shared → Prop), L2N.Takes (X.tr pn xe) W → PassesOwn (model X.prog X.w) X.A X.env xe → DB (X.tr pn xe) W ios body m) (hsu : DSu X ios i (b₀ :: suite) ms)
    (hs : X.stack = X.env :: X.outer := by rfl) (hf : X.env.frame = some X.env.locals := by rfl) (h0 : i ≠ 0 := by decide) (hi : X.N[i]? = some n := by rfl) (hln : X.env.kindOf n = some .local := by rfl) :
    DS X W ios (.Try body [.ExceptHandler (some (.Name x np)) (some n) (b₀ :: suite) pos'] [] [] pos) (mTry i names m ms) := by
  obtain ⟨ts, t1, t2⟩ := hsu
  refine ⟨_, L2N.ps_try_as hs hf hN hi hln hc tk (tb := fun W => canS X.K X.mg W ios m) (fun W pn xe tk' ps => (hb W pn xe tk' ps).can) t1, fun Y H0 io T τ e s H D hio r q => ?_⟩
  refine ⟨Y, H0, io, T, τ, e, hio, r, ?_⟩
  unfold mTry at q
  cases c1 : m e with
  | nx e' => rw [c1] at q; exact q
  | rt d e' => rw [c1] at q; exact q
  | bk e' => rw [c1] at q; exact q
  | ct e' => rw [c1] at q; exact q
  | err => rw [c1] at q; exact q
  | exc k fs e' =>
    rw [c1] at q
    simp only at q
    by_cases z : names.contains k = true ∧ i < e'.length
    · rw [if_pos z] at q
      intro cls dd s' H' x r'
      obtain ⟨C, g1, g2, g3⟩ := id x
      refine ⟨true, by rw [g2]; exact hC k (by simpa using z.1) C g1, fun _ a ha => ?_, fun h => nomatch h⟩
      have r2 : Rel X.K Y H0 io T τ (e'.set i none) (s'.set i (some (V.ref a))) H' := r'.unset i _ fun p hp z0 z => by
        rw [z0] at z
        exact h0 z.symm
      have hlen : i < s'.length := by rw [r'.len]; exact z.2
      refine t2 a cls dd k fs Y H0 io T τ (e'.set i none) (s'.set i (some (V.ref a))) H' _ hio x ha (by rw [List.getElem?_set_self z.2]) (by rw [List.getElem?_set_self hlen]) r2 ?_
      have back : ∀ {e2 : Env} {s2 : St} {H2 : Hp} {T2 : List Mi.D} {t2 : List V}, Rel X.K Y H0 io T2 t2 e2 s2 H2 → Rel X.K Y H0 io T2 t2 (e2.set i none) (s2.set i none) H2 := fun r3 => r3.unset i none fun p hp z0 w => by
        rw [z0] at w
        exact h0 w.symm
      cases c2 : ms k fs (e'.set i none) with
      | nx e2 => rw [c2] at q; exact fun s2 H2 r3 => q _ _ (back r3)
      | bk e2 => rw [c2] at q; exact fun s2 H2 r3 => q _ _ (back r3)
      | ct e2 => rw [c2] at q; exact fun s2 H2 r3 => q _ _ (back r3)
      | rt d e2 => rw [c2] at q; exact q
      | exc c fs e2 => rw [c2] at q; exact q.elim
      | err => rw [c2] at q; exact q
    · rw [if_neg z] at q; exact q.elim
end

structure FnHx (P : Program) (w : World) (K : PySem.W.Frag) (mg : Str → Option Value) (base : Heap) (CX : CXT) (k : Nat) (f : Addr) (fd : FuncData) (ps : List Str) (sp : Addr → Value → Option Addr → Sp) : Prop where
  len : ∀ a c d vs H Q E, sp a c d vs H Q E → vs.length = ps.length
  run : ∀ (A : Around) (outer : List PySem.Env) (s : Shared) (H : Hp) (args : Args) (us : List Value) (vs : List V) (Q : VK) (E : XK) (p : Addr × Obj) (c : Value) (d : Option Addr), L2H.RoomH k A → L2H.Hot1 A p → L2H.PinOk outer H s p → L2N.Zn c d p.2 → (∃ vs, p.2.data = .fields vs) → Env0 P w K mg base A outer s H → BindsTo s fd args (ps.zip us) → Vals vs us → sp p.1 c d vs H Q E →
    codeAny (model P w) A (.call (.ref f) args) (CR CX outer P w H s Q E) s
theorem fn_ofHx {CX : CXT} {P : Program} {w : World} {K : PySem.W.Frag} {mg : Str → Option Value} {base : Heap} {k : Nat} {f : Addr} {name qual : Str} {params : Arguments} {body : List Stmt} {scope : Scope} {dV kV doc pm cdv ct oc : Value} {an od : Option Addr}
    {osl : Array (Option Value)} {N ps : List Str} {sp : Addr → Value → Option Addr → Sp} (lk : K.lookup f = some ⟨oc, od, .func (PySem.W.fnOf name qual params body scope dV kV doc pm an cdv ct), osl⟩) (hcd : PySem.W.codeIn K cdv qual = true) (S : FnScope N ps scope)
    (len : ∀ a c d vs H Q E, sp a c d vs H Q E → vs.length = ps.length)
    (hbody : ∀ (A : Around) (outer : List PySem.Env) (s : Shared) (H : Hp) (vs : List V) (Q : VK) (E : XK) (p : Addr × Obj) (c : Value) (d : Option Addr), L2H.Hot1 A p → L2N.Zn c d p.2 → (∃ vs, p.2.data = .fields vs) → L2H.RoomH k (A.deeper (envOfC qual scope s.heap.objs.size f cdv)) → sp p.1 c d vs H Q E →
      ∃ t, PSs (L2H.cxH CX P w K mg base N qual scope f cdv A outer s H E p) body t ∧ t { nx := fun _ H' => Q .non H', rt := Q } (L2.start N vs) H) :
    FnHx P w K mg base CX (k + 1) f (PySem.W.fnOf name qual params body scope dV kV doc pm an cdv ct) ps sp := by
  refine ⟨len, fun A outer s H args us vs Q E p c d hr hot hpin hz hf e0 hb r hsp => ?_⟩
  have hl := len _ _ _ _ _ _ _ hsp
  have KX : K.In s.heap := e0.mod.kin.keeps fun b o e => (e0.bs b o e).1
  have lim : s.heap.NoLimit := e0.mod.nolimit.keeps fun b o e => (e0.bs b o e).1
  have hkind : ∀ y ∈ ps.zip us, scope.names.lookup y.1 = some .local ∨ (scope.names.lookup y.1 = some .cell ∧ ((cellsFrom (s.heap.objs.size + 1) scope.names []).lookup y.1).isSome = true) := fun ⟨n, v⟩ hy => by
    rcases S.par n (List.of_mem_zip hy).1 with q | q
    · exact .inl q
    · exact .inr ⟨q, PySem.W.cellsFrom_some _ _ _ (.inl q)⟩
  refine codeAny_call_function hr.depth (KX _ _ lk) rfl S.co S.gen rfl (PySem.W.codeRec_of KX hcd) (hb _ _ _ _ ?_)
  refine wpAny_newFunctionEnv_cells S.kind hkind fun env he s1 x => ?_
  subst he
  refine ⟨lim.keeps x.toInCall.keep, codeAny_func ?_⟩
  obtain ⟨t, ht, hq⟩ := hbody A outer s H vs Q E p c d hot hz hf (hr.deeper _) hsp
  have I : Inv (L2H.cxH CX P w K mg base N qual scope f cdv A outer s H E p) [] (L2.start N vs) H s1 := L2H.inv_startH S hpin e0 hl r x
  refine wpAny_mono (ht.run [] s1 (L2.start N vs) H _ I hq) (fun fl s' hs => ?_) fun e s' hs => hs
  have fin : ∀ {σ' : L2.St} {H' : Hp} {v : V} {u : Value}, Inv (L2H.cxH CX P w K mg base N qual scope f cdv A outer s H E p) [] σ' H' s' → RelV v u → Q v H' → CE outer P w H s Q u s' :=
    fun {σ' H' v u} J rv q => ⟨v, H', J.os, J.bare, J.base, J.hok, rv, q⟩
  cases fl with
  | ret u =>
    obtain ⟨v, σ', H', J, rv, q⟩ := hs
    exact fin J rv q
  | next =>
    obtain ⟨σ', H', J, q⟩ := hs
    exact fin (v := V.non) (u := Value.none) J rfl q
  | brk =>
    obtain ⟨_, _, _, q⟩ := hs
    exact False.elim q
  | cont =>
    obtain ⟨_, _, _, q⟩ := hs
    exact False.elim q
section
variable {X : Cx} {CX : CXT} {k : Nat} {f C : Addr} {fd : FuncData} {ps : List Str} {sp : Addr → Value → Option Addr → Sp} {E : St → XK} {x m : Str} {q pos apos : Pos} {e o : Expr} {es : List Expr} {ta : TE} {t : TA}
theorem run_fnHx {pins : List (Addr × Obj)} {σ : L2.St} {H : Hp} {s : Shared} {Q : VK} {us : List Value} {vs : List V} {p : Addr × Obj} {c : Value} {d : Option Addr} (F : FnHx X.prog X.w X.K X.mg X.base CX k f fd ps sp) (hr : L2H.RoomH k X.A) (hot : L2H.Hot1 X.A p) (hp : p ∈ X.pn) (hz : L2N.Zn c d p.2) (hf : ∃ vs, p.2.data = .fields vs)
    (hb : Binds X.K fd ps []) (hx : PassesAt CX X σ (E σ))
    (I : Inv X pins σ H s) (r : Vals vs us) (h : sp p.1 c d vs H Q (E σ)) : wpAny (model X.prog X.w) X.A (call (.ref f) us) (EP X pins σ Q) X.xe s := by
  have hl : us.length = ps.length := by rw [← r.length]; exact F.len _ _ _ _ _ _ _ h
  have b := hb s us I.kIn (by rw [List.append_nil]; exact hl)
  rw [List.append_nil] at b
  have P1 := I.pin p (List.mem_append_left _ hp)
  have hpin : L2H.PinOk X.stack H s p := ⟨P1.1, P1.2.1, fun hm => (List.mem_cons.mp (I.stkSub p.1 hm)).elim P1.2.2.1 P1.2.2.2.1, P1.2.2.2.2⟩
  refine wpAny_call (codeAny_mono (F.run X.A X.stack s H ⟨us, []⟩ us vs Q (E σ) p c d hr hot hpin hz hf I.env0 b r h) fun r s' hq => ?_)
  cases r with
  | error e => exact hx pins H s e s' I hq
  | ok fl =>
    cases fl with
    | ret u => exact I.after hq
    | next => exact False.elim hq
    | brk => exact False.elim hq
    | cont => exact False.elim hq
theorem pe_callHx {p : Addr × Obj} {c : Value} {d : Option Addr} (F : FnHx X.prog X.w X.K X.mg X.base CX k f fd ps sp) (hr : L2H.RoomH k X.A) (hot : L2H.Hot1 X.A p) (hp : p ∈ X.pn) (hz : L2N.Zn c d p.2) (hf : ∃ vs, p.2.data = .fields vs) (hg : Gl X x) (hm : X.mg x = some (.ref f)) (hk : PySem.W.keepIn X.K (.ref f) = true) (hb : Binds X.K fd ps []) (hx : ∀ σ, PassesAt CX X σ (E σ))
    (ha : PA X (e :: es) t) (hdb : (x == ("__debug__" : Str)) = false := by decide) (he : starEach (e :: es) X.env = (false, eval e X.env) :: starEach es X.env := by rfl) (hpl : (backTo pos (starEach es X.env)).any (·.1) = false := by rfl) :
    PE X (.Call (.Name x q) (e :: es) [] pos) (tCallS (sp p.1 c d) E t) := by
  refine ⟨fun pins s σ H Q I h => ?_⟩
  refine wpAny_Call_Name_kw (ld_glob I hg hm ?_ hdb)
  refine PySem.W.callWith_K (h₀ := X.base) I.ok.mod.kin hk (thn (ha.run pos pins s σ H _ I h) fun us s1 ⟨vs, H1, I1, r, q⟩ => ⟨I1.kIn, ?_⟩) he hpl
  exact run_fnHx F hr hot hp hz hf hb (hx σ) I1 r q
end
def spK (K : PySem.W.Frag) (mg : Str → Option Value) (kd : Str → Option Str) : Addr → Value → Option Addr → Sp := fun a cls d vs H Q _ => vs = [V.ref a] ∧ ∃ c C r, mg c = some (.ref C) ∧ cls = .ref C ∧ d = none ∧ kd c = some r ∧ TabsOk H ∧ ∀ H', SameT H H' → Q (.str r) H'
theorem fn_okK {P : Program} {w : World} {K : PySem.W.Frag} {mg : Str → Option Value} {base : Heap} {x qual : Str} {st : Stmt} {f : Addr} {fd : FuncData} {N ps : List Str} {k : Nat} {kd : Str → Option Str} (F : Fun K x qual st f fd) (S : FnScope N ps (defScope st)) (h1 : ps.length = 1)
    (m : Str → Addr → MS) (hm : ∀ c r a, kd c = some r → fnM N.length (m c a) [.raw (V.ref a)] = .ok (.str r))
    (h : ∀ (cdv : Value) (A : Around) (outer : List PySem.Env) (s : Shared) (H : Hp) (E : XK) (p : Addr × Obj) (c : Str) (C : Addr), L2H.RoomH k (A.deeper (envOfC qual (defScope st) s.heap.objs.size f cdv)) → L2H.Hot1 A p → mg c = some (.ref C) → (kd c).isSome = true → L2N.Zn (.ref C) none p.2 → (∃ vs, p.2.data = .fields vs) →
      DB (L2H.cxH (L2N.CX P w) P w K mg base N qual (defScope st) f cdv A outer s H E p) W0 [] (defBody st) (m c p.1)) :
    FnHx P w K mg base (L2N.CX P w) (k + 1) f fd ps (spK K mg kd) := by
  obtain ⟨oc, od, kV, doc, pm, an, cdv, ct, osl, rfl, lk, hcd⟩ := F.ex
  refine fn_ofHx lk hcd S (fun a c d vs H Q E ⟨e, _⟩ => by rw [e, h1]; rfl) fun A outer s H vs Q E p c d hot hz hf hr ⟨ev, cn, C, r, g1, g2, g3, g4, g5, q⟩ => ?_
  subst ev g2 g3
  obtain ⟨t, pt, sm⟩ := h cdv A outer s H E p cn C hr hot g1 (by rw [g4]; rfl) hz hf
  have rp : Reps K tab H [D.raw (V.ref p.1)] [V.ref p.1] := by
    unfold Reps
    exact ⟨_, _, rfl, by unfold Rep; rfl, by unfold Reps; rfl⟩
  refine ⟨t, pt, sm tab H [] [] [] (envOf N.length [D.raw (V.ref p.1)]) (L2.start N [V.ref p.1]) H _ (fun _ z => nomatch z) (Rel.start rp (mut_tab g5)) ?_⟩
  have hm1 := hm cn r p.1 g4
  unfold fnM at hm1
  cases c1 : m cn p.1 (envOf N.length [D.raw (V.ref p.1)]) with
  | nx e' => rw [c1] at hm1; cases hm1
  | rt d e' =>
    rw [c1] at hm1
    cases hm1
    intro v s' H' rl
    obtain ⟨h2, _⟩ := rl.ret
    rw [rl.isStr]
    exact q H' h2
  | exc c fs e' => rw [c1] at hm1; cases hm1
  | bk e' => rw [c1] at hm1; cases hm1
  | ct e' => rw [c1] at hm1; cases hm1
  | err => rw [c1] at hm1; cases hm1
theorem call_isEp {X : Cx} {p : Addr × Obj} {D : Addr} (hp : p ∈ X.pn) (C : L2.ExcC X.K D) (hz : Zc (.ref D) none p.2) (hf : ∃ vs, p.2.data = .fields vs) : CallR X (.builtin "isinstance") (rIsE X.K D p.1) := by
  intro pins s σ H xs us Q I r h
  obtain ⟨c, cv, b, rfl, hcv, e, q⟩ := h
  cases r with
  | cons rx rr =>
    cases rr with
    | cons rt rr =>
      cases rr
      cases rx
      have ec := hcv _ rt
      subst ec
      obtain ⟨hget, _⟩ := I.pin p (List.mem_append.mpr (.inl hp))
      obtain ⟨vs, hv⟩ := hf
      have J : PySem.W.InstAt s.heap p.1 p.2 D none := by
        obtain ⟨a, oe⟩ := p
        obtain ⟨oc, od, oda, osl⟩ := oe
        obtain ⟨h1, h2⟩ := hz
        dsimp only at h1 h2 hv
        subst h1 h2 hv
        exact ⟨hget, rfl, rfl, trivial⟩
      exact PySem.W.kia_one (PySem.W.handS_kitx_exc C.hg C.hk C.hs C.hd C.ha C.hn C.ht C.hm) I.kIn J e (fun z => nomatch z) fun tk => ⟨.bl b, H, I.kept (t' := tk) fun _ _ z => z, rfl, q⟩
def mIsE (i : Nat) (a : Addr) (b : Bool) : ME := fun e => match e[i]? with
  | some (some (.raw v)) => if v = V.ref a then .ok (.bl b, e) else .err
  | _ => .err
theorem de_isE {X : Cx} {W : WX} {pos q q2 : Pos} {p : Addr × Obj} {D : Addr} {c : Expr} {cv : Value} {cV : V} {b : Bool} {x : Str} (i : Nat) (B : BI X.mg) (hp : p ∈ X.pn) (C : L2.ExcC X.K D) (hz : Zc (.ref D) none p.2) (hf : ∃ vs, p.2.data = .fields vs)
    (hc : PE X c (tC cV)) (hcv : ∀ u, RelV cV u → u = cv) (hk : PySem.W.kitOne X.K (.ref D) cv = some b)
    (hN : X.N[i]? = some x := by rfl) (hv : Vis X.env.scope x := by first | exact Or.inl rfl | exact Or.inr (Or.inl rfl) | exact Or.inr (Or.inr rfl)) (hd : (x == ("__debug__" : Str)) = false := by decide)
    (hcd : (x == ("__classdict__" : Str)) = false := by decide) (hg : Gl X "isinstance" := by rfl) (he : starEach (.Name x q2 :: [c]) X.env = (false, eval (.Name x q2) X.env) :: starEach [c] X.env := by rfl) (he2 : starEach (c :: []) X.env = (false, eval c X.env) :: starEach [] X.env := by rfl)
    (hpl : (backTo pos (starEach [c] X.env)).any (·.1) = false := by rfl) : DE X W (.Call (.Name "isinstance" q) [.Name x q2, c] [] pos) (mIsE i p.1 b) := by
  refine ⟨_, pe_callB (call_isEp hp C hz hf) hg B.isi PyProof.Rows.boot_isinstance (pa_cons (pe_var hN hv hd hcd) (pa_cons hc pa_nil he2) he) (by decide) (by decide) he hpl, fun Y H0 io T τ e s H Q r q => ?_⟩
  unfold mIsE at q
  cases c1 : e[i]? with
  | none => rw [c1] at q; exact q.elim
  | some o =>
    cases o with
    | none => rw [c1] at q; exact q.elim
    | some z =>
      cases z <;> rw [c1] at q <;> try exact q.elim
      rename_i v
      simp only at q
      by_cases hv : v = V.ref p.1
      · rw [if_pos hv] at q
        obtain ⟨u, hu, r2⟩ := r.get c1 rfl
        obtain rfl := r2.isRaw
        subst hv
        exact ⟨_, hu, cV, cv, b, rfl, hcv, hk, q _ _ r.bl⟩
      · rw [if_neg hv] at q; exact q.elim
end Mi

namespace Mi
open PySem PySem.Spec PyProof.Rows L2
variable [TabsC]
def mFrz (i : Nat) : ME := fun e => match e[i]? with
  | some (some d) => .ok (d.frz, e.set i (some d.frz))
  | _ => .err
theorem sim_frz {K : PySem.W.Frag} {mg : Str → Option Value} {W : WX} (i : Nat) : SimE K mg W (tVar i) (mFrz i) := by
  intro Y H0 io T τ e s H Q r p
  unfold mFrz at p
  cases q : e[i]? with
  | none => rw [q] at p; exact p.elim
  | some o =>
    cases o with
    | none => rw [q] at p; exact p.elim
    | some d =>
      rw [q] at p
      have r2 := r.freeze q
      obtain ⟨v, h1, h2⟩ := r2.get (List.getElem?_set_self (List.getElem?_eq_some_iff.mp q).1) (plain_frz d)
      exact ⟨v, h1, p v H h2⟩
theorem de_frz {X : Cx} {W : WX} {pos : Pos} (i : Nat) {x : Str} (hN : X.N[i]? = some x := by rfl) (hv : Vis X.env.scope x := by first | exact Or.inl rfl | exact Or.inr (Or.inl rfl) | exact Or.inr (Or.inr rfl)) (hd : (x == ("__debug__" : Str)) = false := by decide)
    (hcd : (x == ("__classdict__" : Str)) = false := by decide) : DE X W (.Name x pos) (mFrz i) := ⟨_, pe_var hN hv hd hcd, sim_frz i⟩
def dCountB : D → D → Option D := fun a b => match b with
  | .bl y => (litems a).bind fun ds => (blsD ds).map fun bs => .int ((bs.countP fun z => z == y : Nat))
  | .int y => (litems a).bind fun ds => (intsD ds).map fun bs => .int ((bs.countP fun z => z == y : Nat))
  | _ => none
def dIndexB : D → D → Option D := fun a b => match b with
  | .bl y => (litems a).bind fun ds => (blsD ds).bind fun bs => (bs.findIdx? fun z => z == y).map fun j => .int (j : Nat)
  | _ => none
def OkM (K : PySem.W.Frag) (r : V → List V → Hp → VK → Prop) (f : D → D → Option D) : Prop := ∀ Y H0 io T τ e s H a b va vb d Q, f a b = some d → Rel K Y H0 io (b :: a :: T) (vb :: va :: τ) e s H → (∀ v H', Rel K Y H0 io (d :: T) (v :: τ) e s H' → Q v H') → r va [vb] H Q
theorem all_bls (bs : List Bool) : (bs.map V.bl).all flatV = true := by
  rw [List.all_map]
  exact List.all_eq_true.mpr fun _ _ => rfl
theorem ok_indexB {K : PySem.W.Frag} : OkM K (rIndex K) dIndexB := by
  intro Y H0 io T τ e s H a b va vb d Q hf r q
  obtain ⟨P, as, bs, nd, o1, o2, g⟩ := r.swap2
  unfold dIndexB at hf
  obtain ⟨y, rfl⟩ : ∃ y, b = .bl y := by cases b <;> first | exact ⟨_, rfl⟩ | cases hf
  simp only at hf
  obtain rfl := o1.bl
  obtain ⟨ds, h1, hf⟩ := Option.bind_eq_some_iff.mp hf
  obtain ⟨ys, h2, hf⟩ := Option.bind_eq_some_iff.mp hf
  obtain ⟨j, h3, rfl⟩ := Option.map_eq_some_iff.mp hf
  obtain ⟨p1, v1, a1, rfl, t1, w1⟩ := o2.lseq h1
  obtain rfl := bls_eq h2
  obtain rfl := owns_bls w1
  obtain ⟨hj, hz, hno⟩ := List.findIdx?_eq_some_iff_getElem.mp h3
  refine ⟨p1, _, _, j, .bl ys[j], rfl, rfl, t1, rfl, all_bls ys, by rw [List.getElem?_map, List.getElem?_eq_getElem hj]; rfl, hz, fun m z' hm hz' => ?_, q _ _ r.pop.pop.int⟩
  rw [List.getElem?_map] at hz'
  have hm' : m < ys.length := Nat.lt_trans hm hj
  rw [List.getElem?_eq_getElem hm'] at hz'
  cases hz'
  have := hno m hm
  have : ys[m] ≠ y := by simpa using this
  show (ys[m] == y) = false
  simpa using this
def mMeth (f : D → D → Option D) (ma mb : ME) : ME := fun e => (ma e).bind fun p => match litems p.1 with
  | some _ => (mb p.2).bind fun q => Rs.of ((f p.1 q.1).map fun d => (d, q.2))
  | none => .err
theorem sim_meth {K : PySem.W.Frag} {mg : Str → Option Value} {W : WX} {r : V → List V → Hp → VK → Prop} {f : D → D → Option D} (ok : OkM K r f) {ta tb : TE} {ma mb : ME} (ha : SimE K mg W ta ma) (hb : SimE K mg W tb mb) : SimE K mg W (tBM K "list" r ta (tCons tb tNil)) (mMeth f ma mb) := by
  intro Y H0 io T τ e s H Q rl p
  refine ha.then rl (P := PostE K mg W Y H0 io T τ s Q) p id postE_exc fun a e1 p v H1 r1 => ?_
  cases c : litems a with
  | none => simp only [c] at p; exact False.elim p
  | some ds =>
    simp only [c] at p
    obtain ⟨x, vs, rfl, hs, _⟩ := r1.lref c
    refine ⟨.inl ⟨rfl, vs, hs⟩, ?_⟩
    refine hb.then r1 (P := PostE K mg W Y H0 io T τ s Q) p id (fun c fs e' h cls dd H' x r => h cls dd H' x r.pop) fun b e2 p vb H2 r2 => ?_
    cases c2 : f a b with
    | none => simp only [c2] at p; exact False.elim p
    | some d =>
      simp only [c2] at p
      exact ok _ _ _ _ _ _ _ _ _ _ _ _ _ _ c2 r2 p
section
variable {X : Cx} {W : WX} {pos apos : Pos} {a o : Expr} {ma mo : ME}
theorem de_index (ho : DE X W o mo) (ha : DE X W a ma)
    (hbase : attributeBase o "index" X.env (eval o X.env) = eval o X.env := by rfl)
    (hfew : ((backTo pos (starEach (a :: []) X.env)).all (fun x => !x.1) && (backToKw pos (keywordEach [] X.env)).all (fun x => x.1.isSome)
      && decide ((a :: ([] : List Expr)).length + ([] : List Keyword).length + (if ([] : List Keyword).isEmpty then 0 else 1) < 30)) = true := by rfl)
    (hline : (apos.endLine == pos.line) = true := by rfl) (hs : starEach (a :: []) X.env = (false, eval a X.env) :: starEach [] X.env := by rfl) (hplain : (backTo pos (starEach [] X.env)).any (·.1) = false := by rfl) :
    DE X W (.Call (.Attribute o "index" apos) [a] [] pos) (mMeth dIndexB mo ma) := by
  obtain ⟨t, pa, s⟩ := ha
  obtain ⟨u, po, s2⟩ := ho
  exact ⟨_, pe_bm PySem.F.plainAttrs_list PySem.F.slot_list_index PySem.F.type_list_index mt_index po (pa_cons pa pa_nil hs) hbase hfew hline hs hplain, sim_meth ok_indexB s2 s⟩
end
section
variable {X : Cx} {k : Nat} {f : Addr} {fd : FuncData} {ps : List Str} {kd : Str → Option Str} {x y z : Str} {i j : Nat} {ios : List Nat} {p1 p2 p3 p4 p5 : Pos}
theorem hot_suite {a : Addr} {oe : Obj} {cls : Value} {d : Option Addr} {pn : List (Addr × Obj)} (hz : L2N.Zn cls d oe) (hf : ∃ vs, oe.data = .fields vs) : L2H.Hot1 (X.suite a pn).A (a, oe) := by
  obtain ⟨vs, hv⟩ := hf
  exact ⟨rfl, vs, hv, hz.2.2 vs hv⟩
end
end Mi

namespace Mi
open PySem PySem.Spec PyProof.Rows L2
variable [TabsC]
theorem hu64 {k : Nat} {A : Around} (hr : Room k A) : A.units + 64 < cLine := by have := hr.un; omega
theorem hu65 {k : Nat} {A : Around} (hr : Room k A) : A.units + 65 < cLine := by have := hr.un; omega
theorem huH {k : Nat} {A : Around} (hr : L2H.RoomH k A) : A.units + 64 < cLine := by have := hr.un; omega
theorem only_cst {K : PySem.W.Frag} {H : Hp} {a : Addr} {vs : List V} (h : Only H) (s : SqL K H a vs) : CqL K H a vs := by
  rcases s with (s | ⟨o, s⟩) | s
  · rcases h a with e | ⟨o, xs, e⟩
    · rw [e] at s; cases s
    · rw [e] at s; cases s
  · exact .inl ⟨o, s⟩
  · exact .inr s
theorem reps_ints {K : PySem.W.Frag} {P : Addr → Prop} {H : Hp} : ∀ ns : List Int, Reps K P H (ns.map D.int) (ns.map V.int)
  | [] => by unfold Reps; rfl
  | n :: ns => by
    rw [List.map_cons]
    unfold Reps
    exact ⟨_, _, rfl, by unfold Rep; rfl, reps_ints ns⟩
end Mi
namespace Mi
theorem len1 {m : MA} {n : Nat} (h : ∀ e ds e', m e = .ok (ds, e') → ds.length = n) : ∀ e ds e', m e = .ok (ds, e') → ds.length + 1 = n + 1 := fun e ds e' q => by rw [h e ds e' q]
end Mi

namespace Mi
open PySem PySem.Spec PyProof.Rows L2
variable [TabsC]
section
variable {α : Type} {e e' : Env} {d d2 : D} {ds : List D} {c : Str} {fs : List (Str × Int)} {i j : Nat} {b : Bool} {f : D → Option D} {f2 : D → D → Option D} {fl : List D → Option D} {ma mb mc : ME} {mr : MA} {t n : MT} {s u : MS}
def kof : Option D → Env → Rs (D × Env)
  | some d, e => .ok (d, e)
  | none, _ => .err
theorem kof_some : kof (some d) e = .ok (d, e) := rfl
theorem kof_none : kof none e = .err := rfl
def k1 (f : D → Option D) : Rs (D × Env) → Rs (D × Env)
  | .ok p => kof (f p.1) p.2
  | .exc c fs e => .exc c fs e
  | .err => .err
theorem mOp1_ap : mOp1 f ma e = k1 f (ma e) := by
  unfold mOp1 k1 Rs.bind
  cases ma e with
  | ok p => simp only; cases f p.1 <;> rfl
  | exc _ _ _ => rfl
  | err => rfl
theorem k1_ok : k1 f (.ok (d, e)) = kof (f d) e := rfl
theorem k1_exc : k1 f (.exc c fs e) = .exc c fs e := rfl
def k2b (f : D → D → Option D) (d : D) : Rs (D × Env) → Rs (D × Env)
  | .ok p => kof (f d p.1) p.2
  | .exc c fs e => .exc c fs e
  | .err => .err
def k2a (f : D → D → Option D) (mb : ME) : Rs (D × Env) → Rs (D × Env)
  | .ok p => k2b f p.1 (mb p.2)
  | .exc c fs e => .exc c fs e
  | .err => .err
theorem mOp2_ap : mOp2 f2 ma mb e = k2a f2 mb (ma e) := by
  unfold mOp2 k2a Rs.bind
  cases ma e with
  | ok p =>
    simp only [k2b]
    cases mb p.2 with
    | ok q => simp only; cases f2 p.1 q.1 <;> rfl
    | exc _ _ _ => rfl
    | err => rfl
  | exc _ _ _ => rfl
  | err => rfl
theorem k2a_ok : k2a f2 mb (.ok (d, e)) = k2b f2 d (mb e) := rfl
theorem k2a_exc : k2a f2 mb (.exc c fs e) = .exc c fs e := rfl
theorem k2b_ok : k2b f2 d (.ok (d2, e)) = kof (f2 d d2) e := rfl
theorem k2b_exc : k2b f2 d (.exc c fs e) = .exc c fs e := rfl
def kL (f : List D → Option D) : Rs (List D × Env) → Rs (D × Env)
  | .ok p => kof (f p.1) p.2
  | .exc c fs e => .exc c fs e
  | .err => .err
theorem mOpL_ap : mOpL fl mr e = kL fl (mr e) := by
  unfold mOpL kL Rs.bind
  cases mr e with
  | ok p => simp only; cases fl p.1 <;> rfl
  | exc _ _ _ => rfl
  | err => rfl
theorem kL_ok : kL fl (.ok (ds, e)) = kof (fl ds) e := rfl
theorem kL_exc : kL fl (.exc c fs e) = .exc c fs e := rfl
def kcb (d : D) : Rs (List D × Env) → Rs (List D × Env)
  | .ok p => .ok (d :: p.1, p.2)
  | .exc c fs e => .exc c fs e
  | .err => .err
def kca (mr : MA) : Rs (D × Env) → Rs (List D × Env)
  | .ok p => kcb p.1 (mr p.2)
  | .exc c fs e => .exc c fs e
  | .err => .err
theorem mCons_ap : mCons ma mr e = kca mr (ma e) := by
  unfold mCons kca Rs.bind
  cases ma e with
  | ok p => simp only [kcb]; cases mr p.2 <;> rfl
  | exc _ _ _ => rfl
  | err => rfl
theorem kca_ok : kca mr (.ok (d, e)) = kcb d (mr e) := rfl
theorem kca_exc : kca mr (.exc c fs e) = .exc c fs e := rfl
theorem kcb_ok : kcb d (.ok (ds, e)) = .ok (d :: ds, e) := rfl
theorem kcb_exc : kcb d (.exc c fs e) = .exc c fs e := rfl
theorem mNil_ap : mNil e = .ok ([], e) := rfl
theorem mC_ap : mC d e = .ok (d, e) := rfl
def kLst : Rs (List D × Env) → Rs (D × Env)
  | .ok p => if p.1.length ≤ sizeLine then .ok (.own p.1, p.2) else .err
  | .exc c fs e => .exc c fs e
  | .err => .err
def kTup : Rs (List D × Env) → Rs (D × Env)
  | .ok p => if p.1.length ≤ sizeLine then .ok (.tup (frzs p.1), p.2) else .err
  | .exc c fs e => .exc c fs e
  | .err => .err
theorem mLst_ap : mLst mr e = kLst (mr e) := by unfold mLst kLst Rs.bind; cases mr e <;> rfl
theorem mTup_ap : mTup mr e = kTup (mr e) := by unfold mTup kTup Rs.bind; cases mr e <;> rfl
theorem kLst_ok : kLst (.ok (ds, e)) = if ds.length ≤ sizeLine then .ok (.own ds, e) else .err := rfl
theorem kTup_ok : kTup (.ok (ds, e)) = if ds.length ≤ sizeLine then .ok (.tup (frzs ds), e) else .err := rfl
def kV (e : Env) : Option (Option D) → Rs (D × Env)
  | some (some d) => if d.plain then .ok (d, e) else .err
  | _ => .err
theorem mVar_ap : mVar i e = kV e e[i]? := by unfold mVar kV; rcases e[i]? with _ | _ | _ <;> rfl
theorem kV_some : kV e (some (some d)) = if d.plain then .ok (d, e) else .err := rfl
def kF (i : Nat) (e : Env) : Option (Option D) → Rs (D × Env)
  | some (some d) => .ok (d.frz, e.set i (some d.frz))
  | _ => .err
theorem mFrz_ap : mFrz i e = kF i e e[i]? := by unfold mFrz kF; rcases e[i]? with _ | _ | _ <;> rfl
theorem kF_some : kF i e (some (some d)) = .ok (d.frz, e.set i (some d.frz)) := rfl
theorem at0 {x : α} {l : List α} : (x :: l)[0]? = some x := rfl
theorem atS {x : α} {l : List α} {k : Nat} : (x :: l)[k + 1]? = l[k]? := rfl
theorem set0 {x y : α} {l : List α} : (x :: l).set 0 y = y :: l := rfl
theorem setS {x y : α} {l : List α} {k : Nat} : (x :: l).set (k + 1) y = x :: l.set k y := rfl
def kT : Rs (D × Env) → Rs (Bool × Env)
  | .ok (.bl b, e) => .ok (b, e)
  | .ok _ => .err
  | .exc c fs e => .exc c fs e
  | .err => .err
theorem mT_ap : mT ma e = kT (ma e) := by
  unfold mT kT Rs.bind
  cases ma e with
  | ok p => obtain ⟨d, e1⟩ := p; cases d <;> rfl
  | exc _ _ _ => rfl
  | err => rfl
theorem kT_ok : kT (.ok (.bl b, e)) = .ok (b, e) := rfl
theorem kT_exc : kT (.exc c fs e) = .exc c fs e := rfl
def kN : Rs (Bool × Env) → Rs (Bool × Env)
  | .ok p => .ok (!p.1, p.2)
  | .exc c fs e => .exc c fs e
  | .err => .err
theorem mNotT_ap : mNotT t e = kN (t e) := by unfold mNotT kN Rs.bind; cases t e <;> rfl
theorem kN_ok : kN (.ok (b, e)) = .ok (!b, e) := rfl
theorem kN_exc : kN (.exc c fs e) = .exc c fs e := rfl
def kA (n : MT) : Rs (Bool × Env) → Rs (Bool × Env)
  | .ok p => if p.1 = true then n p.2 else .ok (false, p.2)
  | .exc c fs e => .exc c fs e
  | .err => .err
theorem mAndT_ap : mAndT t n e = kA n (t e) := by unfold mAndT kA Rs.bind; cases t e <;> rfl
theorem kA_ok : kA n (.ok (b, e)) = if b = true then n e else .ok (false, e) := rfl
theorem kA_exc : kA n (.exc c fs e) = .exc c fs e := rfl
def kO (n : MT) : Rs (Bool × Env) → Rs (Bool × Env)
  | .ok p => if p.1 = true then .ok (true, p.2) else n p.2
  | .exc c fs e => .exc c fs e
  | .err => .err
theorem mOrT_ap : mOrT t n e = kO n (t e) := by unfold mOrT kO Rs.bind; cases t e <;> rfl
theorem kO_ok : kO n (.ok (b, e)) = if b = true then .ok (true, e) else n e := rfl
theorem kO_exc : kO n (.exc c fs e) = .exc c fs e := rfl
def kAV (n : ME) : Rs (D × Env) → Rs (D × Env)
  | .ok (.bl b, e) => if b = true then n e else .ok (.bl false, e)
  | .ok _ => .err
  | .exc c fs e => .exc c fs e
  | .err => .err
theorem mAndV_ap : mAndV ma mb e = kAV mb (ma e) := by
  unfold mAndV kAV Rs.bind
  cases ma e with
  | ok p => obtain ⟨d, e1⟩ := p; cases d <;> first | rfl | (rename_i b; cases b <;> rfl)
  | exc _ _ _ => rfl
  | err => rfl
theorem kAV_ok : kAV mb (.ok (.bl b, e)) = if b = true then mb e else .ok (.bl false, e) := rfl
def kCh2 (g : D → D → Option D) (mc : ME) (d : D) (e : Env) : Option D → Rs (D × Env)
  | some (.bl b) => if b = true then k2b g d (mc e) else .ok (.bl false, e)
  | _ => .err
def kCh1 (f g : D → D → Option D) (mc : ME) (d : D) : Rs (D × Env) → Rs (D × Env)
  | .ok (.int j, e) => (match d with
    | .int i => kCh2 g mc (.int j) e (f (.int i) (.int j))
    | _ => .err)
  | .ok _ => .err
  | .exc c fs e => .exc c fs e
  | .err => .err
def kCh (f g : D → D → Option D) (mb mc : ME) : Rs (D × Env) → Rs (D × Env)
  | .ok (d, e) => kCh1 f g mc d (mb e)
  | .exc c fs e => .exc c fs e
  | .err => .err
theorem mChain_ap {f g : D → D → Option D} : mChain f g ma mb mc e = kCh f g mb mc (ma e) := by
  unfold mChain kCh Rs.bind
  cases ma e with
  | ok p =>
    obtain ⟨d, e1⟩ := p
    simp only [kCh1]
    cases mb e1 with
    | ok q =>
      obtain ⟨d2, e2⟩ := q
      simp only
      cases d <;> cases d2 <;> try rfl
      rename_i i j
      simp only [kCh2]
      cases f (.int i) (.int j) with
      | none => rfl
      | some z =>
        cases z <;> try rfl
        rename_i b
        cases b
        · rfl
        · simp only [if_true]
          unfold k2b
          cases mc e2 with
          | ok p => simp only; cases g (.int j) p.1 <;> rfl
          | exc _ _ _ => rfl
          | err => rfl
    | exc _ _ _ => rfl
    | err => rfl
  | exc _ _ _ => rfl
  | err => rfl
theorem kCh_ok {f g : D → D → Option D} : kCh f g mb mc (.ok (d, e)) = kCh1 f g mc d (mb e) := rfl
theorem kCh1_ok {f g : D → D → Option D} {x y : Int} : kCh1 f g mc (.int x) (.ok (.int y, e)) = kCh2 g mc (.int y) e (f (.int x) (.int y)) := rfl
theorem kCh2_ok {g : D → D → Option D} : kCh2 g mc d e (some (.bl b)) = if b = true then k2b g d (mc e) else .ok (.bl false, e) := rfl
def kS (n : MS) : Sr → Sr
  | .nx e => n e
  | r => r
theorem mSeq_ap : mSeq s u e = kS u (s e) := by unfold mSeq kS; cases s e <;> rfl
theorem kS_nx : kS u (.nx e) = u e := rfl
theorem kS_rt : kS u (.rt d e) = .rt d e := rfl
theorem kS_exc : kS u (.exc c fs e) = .exc c fs e := rfl
theorem kS_bk : kS u (.bk e) = .bk e := rfl
theorem kS_ct : kS u (.ct e) = .ct e := rfl
theorem mNext_ap : mNext e = .nx e := rfl
def kD : Rs (D × Env) → Sr
  | .ok p => .nx p.2
  | .exc c fs e' => .exc c fs e'
  | .err => .err
theorem mDrop_ap : mDrop ma e = kD (ma e) := by unfold mDrop kD; cases ma e <;> rfl
theorem kD_ok : kD (.ok (d, e)) = .nx e := rfl
theorem kD_exc : kD (.exc c fs e) = .exc c fs e := rfl
def kR : Rs (D × Env) → Sr
  | .ok p => .rt p.1 p.2
  | .exc c fs e' => .exc c fs e'
  | .err => .err
theorem mRet_ap : mRet ma e = kR (ma e) := by unfold mRet kR; cases ma e <;> rfl
theorem kR_ok : kR (.ok (d, e)) = .rt d e := rfl
theorem kR_exc : kR (.exc c fs e) = .exc c fs e := rfl
def kI (m n : MS) : Rs (Bool × Env) → Sr
  | .ok p => if p.1 = true then m p.2 else n p.2
  | .exc c fs e' => .exc c fs e'
  | .err => .err
theorem mIfS_ap : mIfS t s u e = kI s u (t e) := by unfold mIfS kI; cases t e <;> rfl
theorem kI_ok : kI s u (.ok (b, e)) = if b = true then s e else u e := rfl
theorem kI_exc : kI s u (.exc c fs e) = .exc c fs e := rfl
def kG2 : Option Env → Sr
  | some e => .nx e
  | none => .err
def kG (g : MG) : Rs (D × Env) → Sr
  | .ok p => kG2 (g p.1 p.2)
  | .exc c fs e' => .exc c fs e'
  | .err => .err
theorem mAsg_ap {g : MG} : mAsg ma g e = kG g (ma e) := by
  unfold mAsg kG
  cases ma e with
  | ok p => simp only; cases g p.1 p.2 <;> rfl
  | exc _ _ _ => rfl
  | err => rfl
theorem kG_ok {g : MG} : kG g (.ok (d, e)) = kG2 (g d e) := rfl
theorem kG_exc {g : MG} : kG g (.exc c fs e) = .exc c fs e := rfl
theorem kG2_some : kG2 (some e) = .nx e := rfl
theorem mgName_ap : mgName i d e = if i < e.length then some (e.set i (some d)) else none := rfl
def kgs (gs : MGs) (ds : List D) : Option Env → Option Env
  | some e => gs ds e
  | none => none
theorem mgTup_ap {n : Nat} {gs : MGs} : mgTup n gs (.tup ds) e = if ds.length = n then gs ds e else none := rfl
theorem mgCons_ap {g : MG} {gs : MGs} : mgCons g gs (d :: ds) e = kgs gs ds (g d e) := by
  show (g d e).bind (fun e' => gs ds e') = kgs gs ds (g d e)
  cases g d e <;> rfl
theorem kgs_some {gs : MGs} : kgs gs ds (some e) = gs ds e := rfl
theorem mgNil_ap : mgNil [] e = some e := rfl
def kw : Option (Option D) → Option (List D)
  | some (some (.own ds)) => some ds
  | _ => none
theorem ownAt_ap : ownAt e i = kw e[i]? := by unfold ownAt kw; rcases e[i]? with _ | _ | d <;> first | rfl | (cases d <;> rfl)
theorem kw_own : kw (some (some (.own ds))) = some ds := rfl
def kX2 (i : Nat) : Rs (D × Env) → Rs (D × Env)
  | .ok p => (match (p.2 : List (Option D))[i]? with
    | some (some d) => kof (dIxS d p.1) p.2
    | _ => .err)
  | .exc c fs e => .exc c fs e
  | .err => .err
def kX (i : Nat) (mb : ME) (e : Env) : Option (Option D) → Rs (D × Env)
  | some (some _) => kX2 i (mb e)
  | _ => .err
def kX3 (k : D) (e : Env) : Option (Option D) → Rs (D × Env)
  | some (some d) => kof (dIxS d k) e
  | _ => .err
theorem mSlotIx_ap : mSlotIx i mb e = kX i mb e e[i]? := by
  unfold mSlotIx kX
  rcases e[i]? with _ | _ | d
  · rfl
  · rfl
  · simp only [Rs.bind, kX2]
    cases mb e with
    | ok p =>
      simp only
      rcases (p.2 : List (Option D))[i]? with _ | _ | d
      · rfl
      · rfl
      · simp only; cases dIxS d p.1 <;> rfl
    | exc _ _ _ => rfl
    | err => rfl
theorem kX_some : kX i mb e (some (some d)) = kX2 i (mb e) := rfl
theorem kX2_ok : kX2 i (.ok (d, e)) = kX3 d e (e[i]? : Option (Option D)) := by
  show (match (e : List (Option D))[i]? with
    | some (some d') => kof (dIxS d' d) e
    | _ => .err) = kX3 d e _
  rcases (e : List (Option D))[i]? with _ | _ | _ <;> rfl
theorem kX3_some : kX3 d2 e (some (some d)) = kof (dIxS d d2) e := rfl
def kf : Fr → Env → Rs (D × Env)
  | .ok d, e => .ok (d, e)
  | .exc c fs, e => .exc c fs e
  | .err, _ => .err
def kc (F : MF) : Rs (List D × Env) → Rs (D × Env)
  | .ok p => kf (F (frzs p.1)) p.2
  | .exc c fs e => .exc c fs e
  | .err => .err
theorem mCall_ap {F : MF} : mCall F mr e = kc F (mr e) := by
  unfold mCall kc Rs.bind
  cases mr e with
  | ok p => simp only; cases F (frzs p.1) <;> rfl
  | exc _ _ _ => rfl
  | err => rfl
theorem kc_ok {F : MF} : kc F (.ok (ds, e)) = kf (F (frzs ds)) e := rfl
theorem kf_ok : kf (.ok d) e = .ok (d, e) := rfl
theorem kf_exc : kf (.exc c fs) e = .exc c fs e := rfl
def kq4 (i : Nat) (e : Env) : Fo → Rs (D × Env)
  | .ok d ys => .ok (d, e.set i (some (.own ys)))
  | .err => .err
def kq3 (F : MO) (i : Nat) (ds : List D) (e : Env) : Option (List D) → Rs (D × Env)
  | some xs => if plains xs = true then kq4 i e (F xs (frzs ds)) else .err
  | none => .err
def kq2 (F : MO) (i : Nat) : Rs (List D × Env) → Rs (D × Env)
  | .ok p => kq3 F i p.1 p.2 (ownAt p.2 i)
  | .exc c fs e => .exc c fs e
  | .err => .err
def kq (F : MO) (i : Nat) (mr : MA) (e : Env) : Option (List D) → Rs (D × Env)
  | some _ => kq2 F i (mr e)
  | none => .err
theorem mCallO_ap {F : MO} : mCallO F i mr e = kq F i mr e (ownAt e i) := by
  unfold mCallO kq
  cases ownAt e i with
  | none => rfl
  | some xs =>
    simp only [Rs.bind, kq2]
    cases mr e with
    | ok p =>
      simp only
      cases ownAt p.2 i with
      | none => rfl
      | some xs =>
        simp only [kq3]
        by_cases z : plains xs = true
        · rw [if_pos z, if_pos z]; cases F xs (frzs p.1) <;> rfl
        · rw [if_neg z, if_neg z]
    | exc _ _ _ => rfl
    | err => rfl
theorem kq_some {F : MO} : kq F i mr e (some ds) = kq2 F i (mr e) := rfl
theorem kq2_ok {F : MO} : kq2 F i (.ok (ds, e)) = kq3 F i ds e (ownAt e i) := rfl
theorem kq3_some {F : MO} {xs : List D} : kq3 F i ds e (some xs) = if plains xs = true then kq4 i e (F xs (frzs ds)) else .err := rfl
theorem kq4_ok {ys : List D} : kq4 i e (.ok d ys) = .ok (d, e.set i (some (.own ys))) := rfl
def ky4 (i : Nat) (d : D) (e : Env) (k : Int) : Option (List D) → Sr
  | some ds => (match ixN ds.length k with
    | some j => if j < ds.length then .nx (e.set i (some (.own (ds.set j d)))) else .err
    | none => .err)
  | none => .err
def ky3 (i : Nat) (d : D) : Rs (D × Env) → Sr
  | .ok (.int k, e2) => ky4 i d e2 k (ownAt e2 i)
  | .ok _ => .err
  | .exc c fs e' => .exc c fs e'
  | .err => .err
def ky2 (mk : ME) (i : Nat) (d : D) (e : Env) : Option (List D) → Sr
  | some _ => ky3 i d (mk e)
  | none => .err
def ky (mk : ME) (i : Nat) : Rs (D × Env) → Sr
  | .ok p => ky2 mk i p.1 p.2 (ownAt p.2 i)
  | .exc c fs e' => .exc c fs e'
  | .err => .err
theorem mSetIx_ap : mSetIx i ma mb e = ky mb i (ma e) := by
  unfold mSetIx ky
  cases ma e with
  | ok p =>
    obtain ⟨d, e1⟩ := p
    simp only
    cases ownAt e1 i with
    | none => rfl
    | some xs =>
      simp only [ky2]
      unfold ky3
      cases mb e1 with
      | ok q =>
        obtain ⟨k, e2⟩ := q
        cases k <;> rfl
      | exc _ _ _ => rfl
      | err => rfl
  | exc _ _ _ => rfl
  | err => rfl
theorem ky_ok : ky mb i (.ok (d, e)) = ky2 mb i d e (ownAt e i) := rfl
theorem ky2_some : ky2 mb i d e (some ds) = ky3 i d (mb e) := rfl
theorem ky3_ok {k : Int} : ky3 i d (.ok (.int k, e)) = ky4 i d e k (ownAt e i) := rfl
theorem ky4_some {k : Int} : ky4 i d e k (some ds) = match ixN ds.length k with
    | some j => if j < ds.length then .nx (e.set i (some (.own (ds.set j d)))) else .err
    | none => .err := rfl
def kRs : Option (List D) → Env → Rs (List D × Env)
  | some ds, e => .ok (ds, e)
  | none, _ => .err
def kIL : Rs (D × Env) → Rs (List D × Env)
  | .ok p => kRs ((litems p.1).map frzs) p.2
  | .exc c fs e => .exc c fs e
  | .err => .err
theorem mItL_ap : mItL ma e = kIL (ma e) := by
  unfold mItL kIL Rs.bind
  cases ma e with
  | ok p => simp only; cases litems p.1 <;> rfl
  | exc _ _ _ => rfl
  | err => rfl
theorem kIL_ok : kIL (.ok (d, e)) = kRs ((litems d).map frzs) e := rfl
theorem kRs_some : kRs (some ds) e = .ok (ds, e) := rfl
def kIT : Rs (D × Env) → Rs (List D × Env)
  | .ok (.tup ds, e) => if plains ds = true then .ok (ds, e) else .err
  | .ok _ => .err
  | .exc c fs e => .exc c fs e
  | .err => .err
theorem mItT_ap : mItT ma e = kIT (ma e) := by
  unfold mItT kIT Rs.bind
  cases ma e with
  | ok p => obtain ⟨d, e1⟩ := p; cases d <;> rfl
  | exc _ _ _ => rfl
  | err => rfl
theorem kIT_ok : kIT (.ok (.tup ds, e)) = if plains ds = true then .ok (ds, e) else .err := rfl
def kr1 : Rs (List D × Env) → Rs (List D × Env)
  | .ok ([.int j], e) => if small62 j then .ok (rangeD 0 j.toNat, e) else .err
  | .ok _ => .err
  | .exc c fs e => .exc c fs e
  | .err => .err
theorem mRng1_ap : mRng1 mr e = kr1 (mr e) := by
  unfold mRng1 kr1 Rs.bind
  cases mr e with
  | ok p =>
    obtain ⟨ds, e1⟩ := p
    rcases ds with _ | ⟨d, _ | ⟨d2, r⟩⟩
    · rfl
    · cases d <;> rfl
    · cases d <;> rfl
  | exc _ _ _ => rfl
  | err => rfl
theorem kr1_ok {j : Int} : kr1 (.ok ([.int j], e)) = if small62 j then .ok (rangeD 0 j.toNat, e) else .err := rfl
def kr2 : Rs (List D × Env) → Rs (List D × Env)
  | .ok ([.int i, .int j], e) => if small62 i ∧ small62 j then .ok (rangeD i (j - i).toNat, e) else .err
  | .ok _ => .err
  | .exc c fs e => .exc c fs e
  | .err => .err
theorem mRng2_ap : mRng2 mr e = kr2 (mr e) := by
  unfold mRng2 kr2 Rs.bind
  cases mr e with
  | ok p =>
    obtain ⟨ds, e1⟩ := p
    rcases ds with _ | ⟨d, _ | ⟨d2, _ | ⟨d3, r⟩⟩⟩
    · rfl
    · cases d <;> rfl
    · cases d <;> first | rfl | (cases d2 <;> rfl)
    · cases d <;> first | rfl | (cases d2 <;> rfl)
  | exc _ _ _ => rfl
  | err => rfl
theorem kr2_ok {i j : Int} : kr2 (.ok ([.int i, .int j], e)) = if small62 i ∧ small62 j then .ok (rangeD i (j - i).toNat, e) else .err := rfl
def kFo (g : MG) (body : MS) : Rs (List D × Env) → Sr
  | .ok p => mLoop g body p.1 p.2
  | .exc c fs e' => .exc c fs e'
  | .err => .err
theorem mFor_ap {g : MG} : mFor mr g s e = kFo g s (mr e) := by unfold mFor kFo; cases mr e <;> rfl
theorem kFo_ok {g : MG} : kFo g s (.ok (ds, e)) = mLoop g s ds e := rfl
def kl2 (g : MG) (body : MS) (ds : List D) : Sr → Sr
  | .nx e2 => mLoop g body ds e2
  | .ct e2 => mLoop g body ds e2
  | .bk e2 => .nx e2
  | r => r
def kl1 (g : MG) (body : MS) (ds : List D) : Option Env → Sr
  | some e => kl2 g body ds (body e)
  | none => .err
theorem mLoop_nil {g : MG} : mLoop g s [] e = .nx e := rfl
theorem mLoop_cons {g : MG} : mLoop g s (d :: ds) e = kl1 g s ds (g d e) := by
  unfold kl1
  show (match g d e with
    | none => Sr.err
    | some e1 => match s e1 with
      | .nx e2 => mLoop g s ds e2
      | .ct e2 => mLoop g s ds e2
      | .bk e2 => .nx e2
      | r => r) = _
  cases g d e with
  | none => rfl
  | some e1 => cases s e1 <;> rfl
theorem kl1_some {g : MG} : kl1 g s ds (some e) = kl2 g s ds (s e) := rfl
theorem kl2_nx {g : MG} : kl2 g s ds (.nx e) = mLoop g s ds e := rfl
theorem kl2_ct {g : MG} : kl2 g s ds (.ct e) = mLoop g s ds e := rfl
theorem kl2_bk {g : MG} : kl2 g s ds (.bk e) = .nx e := rfl
theorem kl2_rt {g : MG} : kl2 g s ds (.rt d e) = .rt d e := rfl
theorem kl2_exc {g : MG} : kl2 g s ds (.exc c fs e) = .exc c fs e := rfl
def kLc (vs : List Nat) (g : MG) (tt : MT) (te : ME) : Rs (List D × Env) → Rs (D × Env)
  | .ok p => mLcLoop vs g tt te p.1 [] (wipeE p.2 vs)
  | .exc c fs e => .exc c fs e
  | .err => .err
theorem mLc_ap {vs : List Nat} {g : MG} : mLc vs mr g t ma e = kLc vs g t ma (mr e) := by unfold mLc kLc Rs.bind; cases mr e <;> rfl
theorem kLc_ok {vs : List Nat} {g : MG} : kLc vs g t ma (.ok (ds, e)) = mLcLoop vs g t ma ds [] (wipeE e vs) := rfl
def kz3 (vs : List Nat) (g : MG) (tt : MT) (te : ME) (ds acc : List D) : Rs (D × Env) → Rs (D × Env)
  | .ok p => if acc.length < sizeLine then mLcLoop vs g tt te ds (acc ++ [p.1]) (wipeE p.2 vs) else .err
  | _ => .err
def kz2 (vs : List Nat) (g : MG) (tt : MT) (te : ME) (ds acc : List D) : Rs (Bool × Env) → Rs (D × Env)
  | .ok p => if p.1 = true then kz3 vs g tt te ds acc (te p.2) else mLcLoop vs g tt te ds acc (wipeE p.2 vs)
  | _ => .err
def kz1 (vs : List Nat) (g : MG) (tt : MT) (te : ME) (ds acc : List D) : Option Env → Rs (D × Env)
  | some e => kz2 vs g tt te ds acc (tt e)
  | none => .err
theorem lc_nil {vs : List Nat} {g : MG} {acc : List D} : mLcLoop vs g t ma [] acc e = .ok (.own acc, e) := rfl
theorem lc_cons {vs : List Nat} {g : MG} {acc : List D} : mLcLoop vs g t ma (d :: ds) acc e = kz1 vs g t ma ds acc (g d e) := by
  unfold kz1
  show (match g d e with
    | none => Rs.err
    | some e1 => match t e1 with
      | .ok (true, e2) => match ma e2 with
        | .ok (y, e3) => if acc.length < sizeLine then mLcLoop vs g t ma ds (acc ++ [y]) (wipeE e3 vs) else .err
        | _ => .err
      | .ok (false, e2) => mLcLoop vs g t ma ds acc (wipeE e2 vs)
      | _ => .err) = _
  cases g d e with
  | none => rfl
  | some e1 =>
    simp only [kz2]
    cases t e1 with
    | ok p =>
      obtain ⟨b, e2⟩ := p
      cases b
      · rfl
      · simp only [kz3]; cases ma e2 <;> rfl
    | exc _ _ _ => rfl
    | err => rfl
theorem kz1_some {vs : List Nat} {g : MG} {acc : List D} : kz1 vs g t ma ds acc (some e) = kz2 vs g t ma ds acc (t e) := rfl
theorem kz2_ok {vs : List Nat} {g : MG} {acc : List D} : kz2 vs g t ma ds acc (.ok (b, e)) = if b = true then kz3 vs g t ma ds acc (ma e) else mLcLoop vs g t ma ds acc (wipeE e vs) := rfl
theorem kz3_ok {vs : List Nat} {g : MG} {acc : List D} : kz3 vs g t ma ds acc (.ok (d, e)) = if acc.length < sizeLine then mLcLoop vs g t ma ds (acc ++ [d]) (wipeE e vs) else .err := rfl
theorem mYes_ap : mYes e = .ok (true, e) := rfl
def kTr (i : Nat) (names : List Str) (ms : Str → List (Str × Int) → MS) : Sr → Sr
  | .exc c fs e' => if names.contains c = true ∧ i < e'.length then (match ms c fs (e'.set i none) with
    | .nx e2 => .nx (e2.set i none)
    | .bk e2 => .bk (e2.set i none)
    | .ct e2 => .ct (e2.set i none)
    | .exc _ _ _ => .err
    | r => r) else .err
  | r => r
theorem mTry_ap {ns : List Str} {ms : Str → List (Str × Int) → MS} : mTry i ns s ms e = kTr i ns ms (s e) := by unfold mTry kTr; cases s e <;> rfl
theorem kTr_nx {ns : List Str} {ms : Str → List (Str × Int) → MS} : kTr i ns ms (.nx e) = .nx e := rfl
theorem kTr_rt {ns : List Str} {ms : Str → List (Str × Int) → MS} : kTr i ns ms (.rt d e) = .rt d e := rfl
def kMe (f : D → D → Option D) (mb : ME) : Rs (D × Env) → Rs (D × Env)
  | .ok p => (match litems p.1 with
    | some _ => k2b f p.1 (mb p.2)
    | none => .err)
  | .exc c fs e => .exc c fs e
  | .err => .err
theorem mMeth_ap : mMeth f2 ma mb e = kMe f2 mb (ma e) := by
  unfold mMeth kMe Rs.bind
  cases ma e with
  | ok p =>
    simp only
    cases litems p.1 with
    | none => rfl
    | some _ =>
      simp only [k2b]
      cases mb p.2 with
      | ok q => simp only; cases f2 p.1 q.1 <;> rfl
      | exc _ _ _ => rfl
      | err => rfl
  | exc _ _ _ => rfl
  | err => rfl
theorem kMe_lst {f : D → D → Option D} : kMe f mb (.ok (.lst ds, e)) = k2b f (.lst ds) (mb e) := rfl
theorem kMe_own {f : D → D → Option D} : kMe f mb (.ok (.own ds, e)) = k2b f (.own ds) (mb e) := rfl
theorem mIsE_ap {a : Addr} (h : (e : List (Option D))[i]? = some (some (.raw (V.ref a)))) : mIsE i a b e = .ok (.bl b, e) := by
  unfold mIsE
  rw [h]
  simp
end
section
variable {i j : Int} {x y : List D} {a b : Str} {d : D} {ds : List D}
theorem dAdd_int : dAdd (.int i) (.int j) = some (.int (i + j)) := rfl
theorem dAdd_str (h : a.length + b.length ≤ sizeLine) : dAdd (.str a) (.str b) = some (.str (a ++ b)) := by
  show ((none.or (if a.length + b.length ≤ sizeLine then some (D.str (a ++ b)) else none)).or none).or _ = _
  rw [if_pos h]; rfl
theorem dAdd_tup (h : x.length + y.length ≤ sizeLine) : dAdd (.tup x) (.tup y) = some (.tup (x ++ y)) := by
  show ((none.or none).or (if x.length + y.length ≤ sizeLine then some (D.tup (x ++ y)) else none)).or _ = _
  rw [if_pos h]; rfl
theorem dAdd_ll (h : x.length + y.length ≤ sizeLine) : dAdd (.lst x) (.lst y) = some (.own (x ++ y)) := by
  show (if x.length + y.length ≤ sizeLine then some (D.own (x ++ y)) else none) = _
  rw [if_pos h]
theorem dAdd_lo (h : x.length + y.length ≤ sizeLine) : dAdd (.lst x) (.own y) = some (.own (x ++ y)) := by
  show (if x.length + y.length ≤ sizeLine then some (D.own (x ++ y)) else none) = _
  rw [if_pos h]
theorem dAdd_ol (h : x.length + y.length ≤ sizeLine) : dAdd (.own x) (.lst y) = some (.own (x ++ y)) := by
  show (if x.length + y.length ≤ sizeLine then some (D.own (x ++ y)) else none) = _
  rw [if_pos h]
theorem dAdd_oo (h : x.length + y.length ≤ sizeLine) : dAdd (.own x) (.own y) = some (.own (x ++ y)) := by
  show (if x.length + y.length ≤ sizeLine then some (D.own (x ++ y)) else none) = _
  rw [if_pos h]
theorem dSub_int : dSub (.int i) (.int j) = some (.int (i - j)) := rfl
theorem dMul_int (h : CMulX i j) : dMul (.int i) (.int j) = some (.int (i * j)) := by
  show (if CMulX i j then some (D.int (i * j)) else none).or _ = _
  rw [if_pos h]; rfl
theorem dMod_int (h : 0 < j) : dMod (.int i) (.int j) = some (.int (i % j)) := by
  show (if 0 < j then some (D.int (i % j)) else none) = _
  rw [if_pos h]
theorem dFdiv_int (h : CDivW i j) : dFdiv (.int i) (.int j) = some (.int (i / j)) := by
  show (if CDivW i j then some (D.int (i / j)) else none) = _
  rw [if_pos h]
theorem dPow_int (h : CPow i j) : dPow (.int i) (.int j) = some (.int (i ^ j.toNat)) := by
  show (if CPow i j then some (D.int (i ^ j.toNat)) else none) = _
  rw [if_pos h]
theorem dNeg_int : dNeg (.int i) = some (.int (-i)) := rfl
theorem dLe_int : dLe (.int i) (.int j) = some (.bl (decide (i ≤ j))) := rfl
theorem dLtI_int : dLtI (.int i) (.int j) = some (.bl (decide (i < j))) := rfl
theorem dLt_int : dLt (.int i) (.int j) = some (.bl (decide (i < j))) := rfl
theorem dEq_int : dEq (.int i) (.int j) = some (.bl (decide (i = j))) := by
  show some (D.bl (PyData.eqv (.int i) (.int j))) = _
  rfl
theorem dNe_int : dNe (.int i) (.int j) = some (.bl (!decide (i = j))) := by
  show some (D.bl (!PyData.eqv (.int i) (.int j))) = _
  rfl
theorem dMax2_int : dMax2 (.int i) (.int j) = some (.int (if j > i then j else i)) := rfl
theorem dMin2_int : dMin2 (.int i) (.int j) = some (.int (if j < i then j else i)) := rfl
theorem fn1_ap {f : D → Option D} : fn1 f [d] = f d := rfl
theorem fn2_ap {f : D → D → Option D} {d2 : D} : fn2 f [d, d2] = f d d2 := rfl
theorem dLen_tup : dLen (.tup ds) = some (.int ds.length) := rfl
theorem dLen_lst : dLen (.lst ds) = some (.int ds.length) := rfl
theorem dLen_cst : dLen (.cst ds) = some (.int ds.length) := rfl
theorem dLen_own : dLen (.own ds) = some (.int ds.length) := rfl
theorem cmulx_of {m n : Nat} (hi : i.natAbs < 2 ^ m) (hj : j.natAbs < 2 ^ n) (h : m + n ≤ 134217728) : CMulX i j := by
  have x := PyProof.Rows.intBits_le hi
  have y := PyProof.Rows.intBits_le hj
  unfold CMulX
  omega
theorem cmulx64 (hi : i.natAbs < 2 ^ 64) (hj : j.natAbs < 2 ^ 64) : CMulX i j := cmulx_of hi hj (by decide)
end
end Mi

namespace Mi
open PySem PySem.Spec PyProof.Rows L2
variable [TabsC]
section
variable {e : Env} {d : D} {ds ys : List D} {c : Str} {fs : List (Str × Int)} {b : MS} {n : Nat}
def kfn : Sr → Fr
  | .nx _ => .ok .non
  | .rt d _ => .ok d
  | .exc c fs _ => .exc c fs
  | _ => .err
theorem fnM_ap : fnM n b ds = kfn (b (envOf n ds)) := by unfold fnM kfn; cases b (envOf n ds) <;> rfl
theorem kfn_nx : kfn (.nx e) = .ok .non := rfl
theorem kfn_rt : kfn (.rt d e) = .ok d := rfl
theorem kfn_exc : kfn (.exc c fs e) = .exc c fs := rfl
def kfo1 (d : D) : Option (Option D) → Fo
  | some (some (.own ys)) => if plains ys = true then .ok d ys else .err
  | _ => .err
def kfo : Sr → Fo
  | .nx e => kfo1 .non (e[0]? : Option (Option D))
  | .rt d e => kfo1 d (e[0]? : Option (Option D))
  | _ => .err
theorem fnO_ap {xs : List D} : fnO n b xs ds = kfo (b (envOf n (.own xs :: ds))) := by
  unfold fnO kfo
  cases b (envOf n (.own xs :: ds)) with
  | nx e => simp only; rcases (e : List (Option D))[0]? with _ | _ | d <;> first | rfl | (cases d <;> rfl)
  | rt d e => simp only; rcases (e : List (Option D))[0]? with _ | _ | d <;> first | rfl | (cases d <;> rfl)
  | exc _ _ _ => rfl
  | bk _ => rfl
  | ct _ => rfl
  | err => rfl
theorem kfo_nx : kfo (.nx (some (.own ys) :: e)) = if plains ys = true then .ok .non ys else .err := rfl
theorem kfo_rt : kfo (.rt d (some (.own ys) :: e)) = if plains ys = true then .ok d ys else .err := rfl
theorem env0 : envOf 0 [] = [] := rfl
theorem envN {n : Nat} : envOf (n + 1) [] = none :: envOf n [] := by
  unfold envOf
  simp [List.replicate_succ]
theorem envS {n : Nat} : envOf (n + 1) (d :: ds) = some d :: envOf n ds := by
  unfold envOf
  simp
theorem wipeN : wipeE e [] = e := rfl
theorem wipeS {i : Nat} {vs : List Nat} : wipeE e (i :: vs) = (wipeE e vs).set i none := rfl
theorem lit_own : litems (.own ds) = some ds := rfl
theorem lit_lst : litems (.lst ds) = some ds := rfl
theorem lit_cst : litems (.cst ds) = some ds := rfl
theorem ix_own {k : Int} : dIxS (.own ds) (.int k) = (atI ds k).bind fun x => if x.plain = true then some x else none := rfl
theorem ix_lst {k : Int} : dIxS (.lst ds) (.int k) = if plains ds = true then atI ds k else none := rfl
theorem ix_cst {k : Int} : dIxS (.cst ds) (.int k) = if plains ds = true then atI ds k else none := rfl
theorem ix_tup {k : Int} : dIxS (.tup ds) (.int k) = if plains ds = true then atI ds k else none := rfl
theorem dix_own {k : Int} : dIx (.own ds) (.int k) = atI ds k := rfl
theorem dix_lst {k : Int} : dIx (.lst ds) (.int k) = atI ds k := rfl
theorem dix_cst {k : Int} : dIx (.cst ds) (.int k) = atI ds k := rfl
theorem dix_tup {k : Int} : dIx (.tup ds) (.int k) = atI ds k := rfl
theorem rng0 {lo : Int} : rangeD lo 0 = [] := rfl
theorem rngS {lo : Int} {n : Nat} : rangeD lo (n + 1) = .int lo :: rangeD (lo + 1) n := by
  unfold rangeD
  rw [List.range_succ_eq_map, List.map_cons, List.map_map]
  congr 1
  · simp
  · refine List.map_congr_left fun i _ => ?_
    simp only [Function.comp]
    congr 1
    push_cast
    omega
end
def spL (K : PySem.W.Frag) (F : MF) : Sp := fun vs H Q _ => ∃ ds P, ds.length = 1 ∧ Reps K P H ds vs ∧ Mut' P H ∧ ∃ d, F ds = .ok d ∧ ∀ v H', SameT H H' → RetOk K P H d v H' → Q v H'
theorem toL {P : Program} {w : World} {K : PySem.W.Frag} {mg : Str → Option Value} {base : Heap} {CX : CXT} {k : Nat} {f : Addr} {fd : FuncData} {ps : List Str} {F : MF} (h : FnOk P w K mg base CX k f fd ps (spF K mg 1 F)) : FnOk P w K mg base CX k f fd ps (spL K F) :=
  h.imp fun vs H Q E ⟨ds, P, a, b, c, d, e, g⟩ => ⟨ds, P, a, b, c, by rw [e]; exact g⟩
theorem end_lawL {K : PySem.W.Frag} {F : MF} {H : Hp} {a : Addr} {ns : List Int} (hF : F [.cst (ns.map D.int)] = .ok (.bl true)) (hT : TabsOk H) (hO : Only H) (hS : SqL K H a (ns.map V.int)) :
    spL K F [.ref a] H (fun v _ => v = .bl true) (fun _ _ _ => False) := by
  refine ⟨[.cst (ns.map D.int)], tab, rfl, ?_, mut_tab hT, _, hF, ?_⟩
  · unfold Reps
    refine ⟨_, _, rfl, ?_, by unfold Reps; rfl⟩
    unfold Rep
    exact ⟨a, _, rfl, only_cst hO hS, reps_ints ns⟩
  · intro v H' hs ⟨as, _, _, o⟩
    exact o.bl
end Mi

namespace Mi
open PySem PySem.Spec PyProof.Rows L2
variable [TabsC]
theorem atI_pos {α : Type} {xs : List α} {i : Int} (h0 : 0 ≤ i) (h1 : i.toNat < xs.length) : atI xs i = xs[i.toNat]? := by
  unfold atI ixN
  rw [if_pos h0, if_pos (by omega)]
  rfl
theorem plains_ints : ∀ ns : List Int, plains (ns.map D.int) = true
  | [] => rfl
  | n :: ns => by
    show ((D.int n).plain && plains (ns.map D.int)) = true
    rw [plains_ints ns]
    rfl
theorem frzs_ints (ns : List Int) : frzs (ns.map D.int) = ns.map D.int := frzs_plain _ (plains_ints ns)
theorem cdivw_small {i j : Int} (h : 0 < j) (h2 : j < 2 ^ 64) : CDivW i j := by
  refine ⟨h, ?_⟩
  have hl : j.natAbs.log2 < 64 := (Nat.log2_lt (by omega)).mpr (by omega)
  omega
theorem natAbs_of_bits {z : Int} {n : Nat} (h : Builtin.Int.intBits z ≤ n) : z.natAbs < 2 ^ n := by
  exact PySem.intBits_le_iff.mp h
theorem natAbs_mul_lt {i j : Int} {m n : Nat} (hi : i.natAbs < 2 ^ m) (hj : j.natAbs < 2 ^ n) : (i * j).natAbs < 2 ^ (m + n) := by
  rw [Int.natAbs_mul, Nat.pow_add]
  exact Nat.mul_lt_mul'' hi hj
theorem natAbs_add_lt {i j : Int} {m n : Nat} (hi : i.natAbs < 2 ^ m) (hj : j.natAbs < 2 ^ n) (h : n ≤ m) : (i + j).natAbs < 2 ^ (m + 1) := by
  have : (2 : Nat) ^ n ≤ 2 ^ m := Nat.pow_le_pow_right (by decide) h
  have e : (2 : Nat) ^ (m + 1) = 2 ^ m * 2 := Nat.pow_succ ..
  generalize (2 : Nat) ^ (m + 1) = q at *
  generalize (2 : Nat) ^ m = p at *
  generalize (2 : Nat) ^ n = r at *
  omega
theorem natAbs_mono {i : Int} {m n : Nat} (hi : i.natAbs < 2 ^ m) (h : m ≤ n) : i.natAbs < 2 ^ n := Nat.lt_of_lt_of_le hi (Nat.pow_le_pow_right (by decide) h)
def dat : D → Bool
  | .raw _ => false | .dic => true | .dct _ => false | .odc _ => false | .odt _ => false | .odu _ => false | .odn _ => false | .odp _ => false | .dsk _ _ => false | .clo _ _ _ _ _ _ => false | .ownA _ _ => false | .cob _ _ _ _ _ _ _ _ => false
  | .non => true | .bl _ => true | .int _ => true | .str _ => true | .own _ => false
  | .tup ds => plains ds | .lst ds => plains ds | .cst ds => plains ds
theorem dat_plain {d : D} (h : dat d = true) : d.plain = true := by cases d <;> first | exact h | rfl | cases h
theorem dat_frz {d : D} (h : dat d = true) : d.frz = d := frz_plain d (dat_plain h)
def isW : D → Bool
  | .int _ => true
  | _ => false
def btw (d : D) (lo hi : Int) : Bool := match d with
  | .int n => decide (lo ≤ n) && decide (n ≤ hi)
  | _ => false
theorem isW_int {d : D} : isW d = true → ∃ n, d = .int n := by cases d <;> intro h <;> first | exact ⟨_, rfl⟩ | cases h
theorem isi_tup {d : D} (h : dat d = true) : fn2 dIsi [d, .raw (.ty "tuple")] = some (.bl (match d with | .tup _ => true | _ => false)) := by
  cases d <;> first | rfl | cases h
theorem kit_of {K : PySem.W.Frag} {A B : Addr} {b : Bool} (c : PySem.W.isClsIn K B = true) (t : PySem.W.typeIn K (.ref B) = some (.type "type")) (s : PySem.W.subIn K (.ref A) (.ref B) = some b) (i : PySem.W.subIn K (.ref A) (.ref A) = some true) : PySem.W.kitOne K (.ref A) (.ref B) = some b := by
  unfold PySem.W.kitOne
  by_cases z : ((Value.ref A) == (Value.ref B)) = true
  · rw [if_pos z]
    have e : Value.ref A = Value.ref B := by simpa using z
    cases e
    rw [i] at s
    exact s
  · rw [if_neg z]
    have c' : (PySem.W.clsIn K B).isSome = true := c
    have e2 : ((PySem.W.clsIn K B).isSome && PySem.W.typeIn K (.ref B) == some (.type "type")) = true := by rw [c', t] <;> rfl
    show (if ((PySem.W.clsIn K B).isSome && PySem.W.typeIn K (.ref B) == some (.type "type")) = true then PySem.W.subIn K (.ref A) (.ref B) else none) = _
    rw [if_pos e2]
    exact s
theorem kit_verr {K : PySem.W.Frag} {A : Addr} (s : PySem.W.subIn K (.ref A) (.type "ValueError") = some true) : PySem.W.kitOne K (.ref A) (.type "ValueError") = some true := by
  unfold PySem.W.kitOne
  have z : ((Value.ref A) == (Value.type "ValueError")) = false := rfl
  rw [z, if_neg Bool.false_ne_true]
  have e2 : PySem.W.kitMeta "ValueError" = true := by decide +kernel
  show (if PySem.W.kitMeta "ValueError" = true then PySem.W.subIn K (.ref A) (.type "ValueError") else none) = _
  rw [if_pos e2]
  exact s
theorem exm_of {K : PySem.W.Frag} {A B : Addr} (h1 : PySem.W.subIn K (.ref B) (.type "BaseException") = some true) (c : PySem.W.isClsIn K B = true) (t : PySem.W.typeIn K (.ref B) = some (.type "type")) (s : PySem.W.subIn K (.ref A) (.ref B) = some true) : PySem.W.exmOne K (.ref A) (.ref B) = some true := by
  have e1 : (PySem.W.subIn K (.ref B) (.type "BaseException") == some true) = true := by rw [h1] <;> rfl
  have c' : (PySem.W.clsIn K B).isSome = true := c
  have e2 : ((PySem.W.clsIn K B).isSome && PySem.W.typeIn K (.ref B) == some (.type "type")) = true := by rw [c', t] <;> rfl
  show (if (PySem.W.subIn K (.ref B) (.type "BaseException") == some true) = true then (if ((PySem.W.clsIn K B).isSome && PySem.W.typeIn K (.ref B) == some (.type "type")) = true then PySem.W.subIn K (.ref A) (.ref B) else none) else none) = some true
  rw [if_pos e1, if_pos e2]
  exact s
end Mi

namespace Mi
open PySem PySem.Spec PyProof.Rows L2
variable [TabsC]
theorem loop_inv {g : MG} {body : MS} (P : Env → Prop) : ∀ (ds : List D), (∀ d ∈ ds, ∀ e, P e → ∃ e1 e2, g d e = some e1 ∧ body e1 = .nx e2 ∧ P e2) → ∀ e, P e → ∃ e', mLoop g body ds e = .nx e' ∧ P e'
  | [], h, e, p => ⟨e, rfl, p⟩
  | d :: ds, h, e, p => by
    obtain ⟨e1, e2, h1, h2, h3⟩ := h d List.mem_cons_self e p
    obtain ⟨e', h4, h5⟩ := loop_inv P ds (fun d hd => h d (List.mem_cons_of_mem _ hd)) e2 h3
    refine ⟨e', ?_, h5⟩
    rw [mLoop_cons, h1, kl1_some, h2, kl2_nx, h4]
theorem mem_range {lo : Int} {n : Nat} {d : D} (h : d ∈ rangeD lo n) : ∃ i : Nat, i < n ∧ d = .int (lo + i) := by
  unfold rangeD at h
  obtain ⟨i, h1, rfl⟩ := List.mem_map.mp h
  exact ⟨i, List.mem_range.mp h1, rfl⟩
theorem btw_int {n lo hi : Int} : btw (.int n) lo hi = (decide (lo ≤ n) && decide (n ≤ hi)) := rfl
theorem btw_bl {b : Bool} {lo hi : Int} : btw (.bl b) lo hi = false := rfl
theorem btw_non {lo hi : Int} : btw .non lo hi = false := rfl
theorem btw_str {s : Str} {lo hi : Int} : btw (.str s) lo hi = false := rfl
theorem is_non_int  : dIsi .non (.raw (.ty "int")) = some (.bl false) := rfl
theorem is_bl_int {b : Bool} : dIsi (.bl b) (.raw (.ty "int")) = some (.bl true) := rfl
theorem is_int_int {i : Int} : dIsi (.int i) (.raw (.ty "int")) = some (.bl true) := rfl
theorem is_str_int {s : Str} : dIsi (.str s) (.raw (.ty "int")) = some (.bl false) := rfl
theorem is_tup_int {ds : List D} : dIsi (.tup ds) (.raw (.ty "int")) = some (.bl false) := rfl
theorem is_lst_int {ds : List D} : dIsi (.lst ds) (.raw (.ty "int")) = some (.bl false) := rfl
theorem is_cst_int {ds : List D} : dIsi (.cst ds) (.raw (.ty "int")) = some (.bl false) := rfl
theorem is_dic_int : dIsi .dic (.raw (.ty "int")) = some (.bl false) := rfl
theorem is_own_int {ds : List D} : dIsi (.own ds) (.raw (.ty "int")) = some (.bl false) := rfl
theorem is_non_bool  : dIsi .non (.raw (.ty "bool")) = some (.bl false) := rfl
theorem is_bl_bool {b : Bool} : dIsi (.bl b) (.raw (.ty "bool")) = some (.bl true) := rfl
theorem is_int_bool {i : Int} : dIsi (.int i) (.raw (.ty "bool")) = some (.bl false) := rfl
theorem is_str_bool {s : Str} : dIsi (.str s) (.raw (.ty "bool")) = some (.bl false) := rfl
theorem is_tup_bool {ds : List D} : dIsi (.tup ds) (.raw (.ty "bool")) = some (.bl false) := rfl
theorem is_lst_bool {ds : List D} : dIsi (.lst ds) (.raw (.ty "bool")) = some (.bl false) := rfl
theorem is_cst_bool {ds : List D} : dIsi (.cst ds) (.raw (.ty "bool")) = some (.bl false) := rfl
theorem is_dic_bool : dIsi .dic (.raw (.ty "bool")) = some (.bl false) := rfl
theorem is_own_bool {ds : List D} : dIsi (.own ds) (.raw (.ty "bool")) = some (.bl false) := rfl
theorem is_non_tuple  : dIsi .non (.raw (.ty "tuple")) = some (.bl false) := rfl
theorem is_bl_tuple {b : Bool} : dIsi (.bl b) (.raw (.ty "tuple")) = some (.bl false) := rfl
theorem is_int_tuple {i : Int} : dIsi (.int i) (.raw (.ty "tuple")) = some (.bl false) := rfl
theorem is_str_tuple {s : Str} : dIsi (.str s) (.raw (.ty "tuple")) = some (.bl false) := rfl
theorem is_tup_tuple {ds : List D} : dIsi (.tup ds) (.raw (.ty "tuple")) = some (.bl true) := rfl
theorem is_lst_tuple {ds : List D} : dIsi (.lst ds) (.raw (.ty "tuple")) = some (.bl false) := rfl
theorem is_cst_tuple {ds : List D} : dIsi (.cst ds) (.raw (.ty "tuple")) = some (.bl false) := rfl
theorem is_dic_tuple : dIsi .dic (.raw (.ty "tuple")) = some (.bl false) := rfl
theorem is_own_tuple {ds : List D} : dIsi (.own ds) (.raw (.ty "tuple")) = some (.bl false) := rfl
theorem is_non_list  : dIsi .non (.raw (.ty "list")) = some (.bl false) := rfl
theorem is_bl_list {b : Bool} : dIsi (.bl b) (.raw (.ty "list")) = some (.bl false) := rfl
theorem is_int_list {i : Int} : dIsi (.int i) (.raw (.ty "list")) = some (.bl false) := rfl
theorem is_str_list {s : Str} : dIsi (.str s) (.raw (.ty "list")) = some (.bl false) := rfl
theorem is_tup_list {ds : List D} : dIsi (.tup ds) (.raw (.ty "list")) = some (.bl false) := rfl
theorem is_lst_list {ds : List D} : dIsi (.lst ds) (.raw (.ty "list")) = some (.bl true) := rfl
theorem is_cst_list {ds : List D} : dIsi (.cst ds) (.raw (.ty "list")) = some (.bl true) := rfl
theorem is_dic_list : dIsi .dic (.raw (.ty "list")) = some (.bl false) := rfl
theorem is_own_list {ds : List D} : dIsi (.own ds) (.raw (.ty "list")) = some (.bl true) := rfl
theorem is_non_str  : dIsi .non (.raw (.ty "str")) = some (.bl false) := rfl
theorem is_bl_str {b : Bool} : dIsi (.bl b) (.raw (.ty "str")) = some (.bl false) := rfl
theorem is_int_str {i : Int} : dIsi (.int i) (.raw (.ty "str")) = some (.bl false) := rfl
theorem is_str_str {s : Str} : dIsi (.str s) (.raw (.ty "str")) = some (.bl true) := rfl
theorem is_tup_str {ds : List D} : dIsi (.tup ds) (.raw (.ty "str")) = some (.bl false) := rfl
theorem is_lst_str {ds : List D} : dIsi (.lst ds) (.raw (.ty "str")) = some (.bl false) := rfl
theorem is_cst_str {ds : List D} : dIsi (.cst ds) (.raw (.ty "str")) = some (.bl false) := rfl
theorem is_dic_str : dIsi .dic (.raw (.ty "str")) = some (.bl false) := rfl
theorem is_own_str {ds : List D} : dIsi (.own ds) (.raw (.ty "str")) = some (.bl false) := rfl
theorem cast_lit {n : Nat} : ((no_index (@OfNat.ofNat Nat n _) : Nat) : Int) = @OfNat.ofNat Int n _ := rfl
end Mi

namespace Mi
open PySem PySem.Spec PyProof.Rows L2
variable [TabsC]
def cutL {α : Type} (xs : List α) (lo hi : Option Int) : List α := (xs.drop (HT.sIx xs.length 0 lo)).take (HT.sIx xs.length xs.length hi - HT.sIx xs.length 0 lo)
section
variable {K : PySem.W.Frag} {mg : Str → Option Value} {W : WX} {P : Addr → Prop} {H : Hp}
theorem Reps.drop : ∀ (n : Nat) {ds : List D} {vs : List V}, Reps K P H ds vs → Reps K P H (ds.drop n) (vs.drop n)
  | 0, ds, vs, h => h
  | n + 1, [], vs, h => by have h' := h; unfold Reps at h'; subst h'; exact h
  | n + 1, d :: ds, vs, h => by
    unfold Reps at h
    obtain ⟨v, r, rfl, _, h2⟩ := h
    exact Reps.drop n h2
theorem Reps.take : ∀ (n : Nat) {ds : List D} {vs : List V}, Reps K P H ds vs → Reps K P H (ds.take n) (vs.take n)
  | 0, ds, vs, h => by unfold Reps; rfl
  | n + 1, [], vs, h => by have h' := h; unfold Reps at h'; subst h'; exact h
  | n + 1, d :: ds, vs, h => by
    unfold Reps at h
    obtain ⟨v, r, rfl, h1, h2⟩ := h
    show Reps K P H (d :: ds.take n) (v :: r.take n)
    unfold Reps
    exact ⟨_, _, rfl, h1, Reps.take n h2⟩
theorem Reps.cut {ds : List D} {vs : List V} (lo hi : Option Int) (h : Reps K P H ds vs) : Reps K P H (cutL ds lo hi) (cutV vs lo hi) := by
  unfold cutL cutV
  rw [h.len]
  exact Reps.take _ (Reps.drop _ h)
def dSl : D → Option Int → Option Int → Option D
  | .tup ds, lo, hi => some (.tup (cutL ds lo hi))
  | .lst ds, lo, hi => some (.own (cutL ds lo hi))
  | .cst ds, lo, hi => some (.own (cutL ds lo hi))
  | .str z, lo, hi => if z.length ≤ sizeLine then some (.str (cutS z lo hi)) else none
  | _, _, _ => none
abbrev rSlM (K : PySem.W.Frag) : V → Option Int → Option Int → Hp → VK → Prop := fun x lo hi H Q => (rSlA K x lo hi H Q ∨ rSlL K x lo hi H Q) ∨ rSlS x lo hi H Q
theorem ok_sl {Y H0 io T τ e s H a va lo hi d} {Q : VK} (hf : dSl a lo hi = some d) (r : Rel K Y H0 io (a :: T) (va :: τ) e s H) (q : ∀ v H', Rel K Y H0 io (d :: T) (v :: τ) e s H' → Q v H') : rSlM K va lo hi H Q := by
  cases a <;> simp only [dSl, reduceCtorEq] at hf
  case str z =>
    by_cases c : z.length ≤ sizeLine
    · rw [if_pos c] at hf
      cases hf
      obtain ⟨P, as, o⟩ := r.top
      obtain rfl := o.str
      exact .inr ⟨z, rfl, c, q _ _ r.pop.str⟩
    · rw [if_neg c] at hf; cases hf
  case tup ds =>
    cases hf
    obtain ⟨P, as, nd, o, g⟩ := r.swap1
    obtain ⟨p1, v1, rfl, t1, r1⟩ := o.tup
    refine .inl (.inl ⟨p1, v1, rfl, t1.sq, fun hw => ?_, fun _ p hp => ?_⟩)
    · have e1 : cutL ds lo hi = ds := by
        unfold cutL
        rw [← r1.len, hw.1, hw.2, r1.len]
        simp
      rw [e1] at q
      exact q _ _ r
    · have hs : Same H (upd H p (.tup (cutV v1 lo hi))) := same_new hp
      refine q _ _ (g _ (.tup (cutL ds lo hi)) _ [] hs List.nodup_nil (fun _ z => nomatch z) fun P' hP hT _ => Own.of ?_)
      have m := swap_plain (as := []) hs hP
      unfold Rep
      exact ⟨p, _, rfl, .inl (.inl ⟨upd_same, fun z => hT p _ z upd_same⟩), Reps.mono m _ (r1.cut lo hi)⟩
  case lst ds =>
    cases hf
    obtain ⟨P, as, nd, o, g⟩ := r.swap1
    obtain ⟨p1, v1, rfl, t1, r1⟩ := o.lst
    refine .inl (.inr ⟨p1, v1, rfl, SqL.of t1, fun l hl => ?_⟩)
    have hs : Same H (upd H l (.lst (cutV v1 lo hi))) := same_new hl
    refine q _ _ (g _ (.own (cutL ds lo hi)) _ [l] hs (by simp) (fun z hz => ?_) fun P' hP hT _ => ?_)
    · rw [List.mem_singleton] at hz
      subst hz
      exact ⟨.inr hl, _, upd_same, fun _ z => nomatch z⟩
    · unfold Own
      have m := swap_plain (as := [l]) hs hP
      exact ⟨l, _, [], rfl, upd_same, Owns.of (Reps.mono m _ (r1.cut lo hi)), rfl⟩
  case cst ds =>
    cases hf
    obtain ⟨P, as, nd, o, g⟩ := r.swap1
    obtain ⟨p1, v1, rfl, t1, r1⟩ := o.cst
    refine .inl (.inr ⟨p1, v1, rfl, t1.sq, fun l hl => ?_⟩)
    have hs : Same H (upd H l (.lst (cutV v1 lo hi))) := same_new hl
    refine q _ _ (g _ (.own (cutL ds lo hi)) _ [l] hs (by simp) (fun z hz => ?_) fun P' hP hT _ => ?_)
    · rw [List.mem_singleton] at hz
      subst hz
      exact ⟨.inr hl, _, upd_same, fun _ z => nomatch z⟩
    · unfold Own
      have m := swap_plain (as := [l]) hs hP
      exact ⟨l, _, [], rfl, upd_same, Owns.of (Reps.mono m _ (r1.cut lo hi)), rfl⟩
abbrev MO2 := Env → Rs (Option Int × Env)
def mPart (m : ME) : MO2 := fun e => (m e).bind fun p => match p.1 with
  | .int i => .ok (some i, p.2)
  | _ => .err
def mNoPart : MO2 := fun e => .ok (none, e)
section
variable (K : PySem.W.Frag) (mg : Str → Option Value) (W : WX) (Y : Addr → Prop) (H0 : Hp) (io : List (Nat × Addr)) (T : List D) (t : List V) (s : St)
def PostO (Q : Option Int → Hp → Prop) : Rs (Option Int × Env) → Prop
  | .ok p => ∀ H', Rel K Y H0 io T t p.2 s H' → Q p.1 H'
  | .exc c fs e' => ∀ cls dd H', XR mg H' c fs cls dd → Rel K Y H0 io T t e' s H' → W cls dd s H'
  | .err => False
end
def SimO (K : PySem.W.Frag) (mg : Str → Option Value) (W : WX) (t : TO) (m : MO2) : Prop := ∀ Y H0 io T τ e s H Q, Rel K Y H0 io T τ e s H → PostO K mg W Y H0 io T τ s Q (m e) → t s H Q
theorem sim_part {te : TE} {m : ME} (h : SimE K mg W te m) : SimO K mg W (tPart te) (mPart m) := by
  intro Y H0 io T τ e s H Q r p
  refine h.then r (P := PostO K mg W Y H0 io T τ s Q) p id (fun c fs e' h => h) fun d e1 p v H1 r1 => ?_
  cases d <;> try exact False.elim p
  rename_i i
  obtain rfl := r1.isInt
  exact ⟨i, rfl, p H1 r1.pop⟩
theorem sim_noPart : SimO K mg W tNoPart mNoPart := fun Y H0 io T τ e s H Q r p => p H r
def mSl (ma : ME) (ml mh : MO2) : ME := fun e => (ma e).bind fun p => (ml p.2).bind fun q => (mh q.2).bind fun r => Rs.of ((dSl p.1 q.1 r.1).map fun d => (d, r.2))
theorem sim_sl {te : TE} {tl th : TO} {ma : ME} {ml mh : MO2} (ha : SimE K mg W te ma) (hl : SimO K mg W tl ml) (hh : SimO K mg W th mh) : SimE K mg W (tSl (rSlM K) te tl th) (mSl ma ml mh) := by
  intro Y H0 io T τ e s H Q r p
  refine ha.then r (P := PostE K mg W Y H0 io T τ s Q) p id postE_exc fun d e1 p v H1 r1 => ?_
  refine hl Y H0 io _ _ e1 s H1 _ r1 ?_
  simp only at p
  cases c1 : ml e1 with
  | err => rw [c1] at p; exact False.elim p
  | exc c fs e' => rw [c1] at p; exact fun cls dd H' x rl => p cls dd H' x rl.pop
  | ok z =>
    obtain ⟨lo, e2⟩ := z
    rw [c1] at p
    intro H2 r2
    refine hh Y H0 io _ _ e2 s H2 _ r2 ?_
    simp only [Rs.bind] at p
    cases c2 : mh e2 with
    | err => rw [c2] at p; exact False.elim p
    | exc c fs e' => rw [c2] at p; exact fun cls dd H' x rl => p cls dd H' x rl.pop
    | ok z =>
      obtain ⟨hi, e3⟩ := z
      rw [c2] at p
      intro H3 r3
      simp only at p
      cases c3 : dSl d lo hi with
      | none => rw [c3] at p; exact False.elim p
      | some x => rw [c3] at p; exact ok_sl c3 r3 p
end
def DO (X : Cx) (W : WX) (o : Option Expr) (m : MO2) : Prop := ∃ t, PO X o t ∧ SimO X.K X.mg W t m
section
variable {X : Cx} {W : WX} {pos p2 : Pos} {a : Expr} {lo hi : Option Expr} {ma : ME} {ml mh : MO2}
theorem do_none : DO X W none mNoPart := ⟨_, po_none, sim_noPart⟩
theorem do_some (h : DE X W a ma) : DO X W (some a) (mPart ma) := by
  obtain ⟨t, p, s⟩ := h
  exact ⟨_, po_some p, sim_part s⟩
theorem de_sl (ha : DE X W a ma) (hl : DO X W lo ml) (hh : DO X W hi mh) : DE X W (.Subscript a (.Slice lo hi none p2) pos) (mSl ma ml mh) := by
  obtain ⟨t, p, s⟩ := ha
  obtain ⟨tl, pl, sl⟩ := hl
  obtain ⟨th, ph, sh⟩ := hh
  exact ⟨_, pe_slice ((sl_tupA.or sl_list).or sl_str) p pl ph, sim_sl s sl sh⟩
end
end Mi

namespace Mi
open PySem PySem.Spec PyProof.Rows L2
variable [TabsC]
structure FnE (X : Cx) (F : MF) (n : Nat) (f : Addr) : Prop where
  ex : ∃ (k : Nat) (fd : FuncData) (ps : List Str), FnOk X.prog X.w X.K X.mg X.base (L2N.CX X.prog X.w) k f fd ps (spF X.K X.mg n F) ∧ Room k X.A ∧ Binds X.K fd ps []
  kp : PySem.W.keepIn X.K (.ref f) = true
end Mi

namespace Mi
open PySem PySem.Spec PyProof.Rows L2
variable [TabsC]
section
variable {prog : Program} {w : World} {A : Around} {E : Value → Shared → Prop} {s : Shared}
theorem next_end_hot {it l x1 : Addr} {i : Nat} {items : Array Value} {Q : Option Value → Shared → Prop} (hot : HotX.HotAt A x1 s.heap) (hit : s.heap.IsListIter it l i) (hl : s.heap.IsList l items) (hx : items[i]? = none) (hn : it ≠ x1)
    (hQ : ∀ h', Heap.ExtBut it s.heap h' → Q none { s with heap := h' }) : wpAny (model prog w) A (pyNext (.ref it)) Q E s := by
  obtain ⟨o, ho, hc, hd⟩ := id hit
  obtain ⟨ol, hol, _, nl, hdl⟩ := hl
  obtain ⟨hh, o1, vs1, h1, d1, c1⟩ := hot
  unfold pyNext
  refine wpAny_bind (wpAny_attempt (wpAny_callSpecial?_slot (name := Str.ofString "__next__") hit.typeIs slot_listiter_next
    (wpAny_call_entry slot_listiter_next hit.typeIs entry_listiter_next ?_ (args_listiter_next _))))
  show wpAny _ _ (field (.ref it) 0 >>= _) _ _ s
  refine wpAny_bind (wpAny_field ho hd (x := .ref l) rfl ?_)
  show wpAny _ _ (if (Value.ref l == Value.none) = true then _ else _) _ _ s
  rw [if_neg (show ¬ ((Value.ref l == Value.none) = true) from Bool.false_ne_true)]
  show wpAny _ _ (field (.ref it) 1 >>= _) _ _ s
  refine wpAny_bind (wpAny_field ho hd (x := .int i 0) rfl ?_)
  show wpAny _ _ (seqItems? (.ref l) >>= _) _ _ s
  refine wpAny_bind (wpAny_seqItems hol hdl ?_)
  simp only [Int.toNat_natCast, hx]
  refine wpAny_bind (wpAny_rule (wpAny_bind (wpAny_setField ho hd (by simp) ?_)))
  show wpAny _ _ (newExc (.type "StopIteration") [] >>= _) _ _ _
  refine wpAny_bind ?_
  simp only [newExc, newTuple]
  refine wpAny_bind (wpAny_newObj_type ?_ (by size_fits))
  refine wpAny_bind (m := firstArgMember _ _) (wpAny_of_eq (a := Value.none) (by first | rfl | (simp only [firstArgMember]; rfl)) ?_)
  refine wpAny_newObj_type ?_ (by size_fits)
  have k0 : ∀ b o, b ≠ it → s.heap.get? b = some o → (((s.heap.update it (Obj.mapFields (·.setIfInBounds 0 Value.none))).push { cls := .type "tuple", data := .seq ([] : List Value).toArray })).get? b = some o := fun b o hb e => Heap.get?_push_of_some _ (by rw [Heap.get?_update_other _ _ (Ne.symm hb)]; exact e)
  have h1' := k0 x1 o1 hn.symm h1
  refine HotX.raiseNew_hot ⟨hh, o1, vs1, Heap.get?_push_of_some _ h1', d1, c1⟩ (Nat.ne_of_lt (Heap.lt_size h1')) (Heap.get?_push_size _ rfl) rfl (by first | (simp; done) | (simp; omega) | (simp only [Array.size_append]; simp; omega)) ?_
  refine wpAny_bind (wpAny_isInstance (T := "StopIteration") (b := true) ⟨_, Heap.get?_update_self _ (Heap.get?_push_size _ rfl) rfl, rfl⟩ isSubtype_stop ?_)
  refine wpAny_pure (hQ _ fun b o hb e => ?_)
  have k1 := k0 b o hb e
  refine (Heap.get?_update_other _ _ (Nat.ne_of_gt (Heap.lt_size k1))).trans ?_
  exact Heap.get?_push_of_some _ k1
def Pend (x1 : Addr) (h : Heap) : Prop := ∃ (o : Obj) (vs : Array Value), h.get? x1 = some o ∧ o.data = .fields vs ∧ vs[2]? = some .none
theorem Pend.at {x1 : Addr} {h h' : Heap} (p : Pend x1 h) (k : ∀ o, h.get? x1 = some o → h'.get? x1 = some o) : Pend x1 h' := by
  obtain ⟨o, vs, e, r⟩ := p
  exact ⟨o, vs, k o e, r⟩
theorem walks_hot (I ax x1 : Addr) (hh : A.handled = some (.ref x1)) (hne : ax ≠ I) (hx : x1 ≠ I) (items : Array Value) :
    PySem.Walks prog w A I [I, ax, x1] [I] items.size (fun i v => items[i]? = some v) (fun i h => (h.IsListIter I ax i ∧ h.IsList ax items) ∧ Pend x1 h) where
  sub := fun b hb => by simp at hb; simp [hb]
  frame := fun _ _ _ st hk => ⟨⟨st.1.1.at fun o e => hk I (by simp) o e, st.1.2.at fun o e => hk ax (by simp) o e⟩, st.2.at fun o e => hk x1 (by simp) o e⟩
  item := fun i s Q E hi st hQ => by
    refine wpAny_pyNext_list_item st.1.1 st.1.2 (x := items[i]) (by simp [hi]) fun h' hit' hs' => ?_
    exact hQ _ h' s.toks (by simp [hi]) ⟨⟨hit', st.1.2.extBut hs'.extBut hne⟩, st.2.at fun o e => hs'.extBut x1 o hx e⟩ fun b o hb e => hs'.extBut b o (fun h => hb (by simp [h])) e
  done := fun s Q E st hQ => next_end_hot ⟨hh, st.2⟩ st.1.1 st.1.2 (by simp) (Ne.symm hx) fun h' he' => hQ h' s.toks fun b o hb e => he' b o (fun h => hb (by simp [h])) e
  self := fun _ _ _ _ st hQ => wpAny_pyIter_listiter st.1.1 hQ
theorem sum_rawH {x1 l : Addr} {its : List Value} {ns : List Int} {Q : Value → Shared → Prop} (hot : HotX.HotAt A x1 s.heap) (hl : s.heap.IsList l its.toArray) (hi : IntsAre its ns)
    (h : ∀ h' tk t', (∀ b o, s.heap.get? b = some o → h'.get? b = some o) → Q (.int ns.sum t') { s with heap := h', toks := tk }) : wpAny (model prog w) A (call (.builtin "sum") [.ref l]) Q E s := by
  obtain ⟨xs, e⟩ := hi.allInts.items
  have hn : numsOf (intItems xs).toList = ns := by rw [← e]; exact hi.numsOf
  rw [nums_intItems] at hn
  rw [e] at hl
  obtain ⟨hh, pe⟩ := hot
  refine call_sum_walkG (iter_intList hl fun s₂ e st hfp hlI => ?_)
  subst e
  have hx : x1 ≠ s.heap.objs.size := by obtain ⟨_, _, e, _⟩ := pe; exact Nat.ne_of_lt (Heap.lt_size e)
  refine ⟨_, _, _, _, _, _, numAt xs, rfl, walks_hot (A := A.in1) _ l x1 hh hlI hx (intItems xs), ⟨st, Pend.at pe fun o e => Heap.get?_push_of_some _ e⟩, fun b hb => ?_, (fun _ _ => intItems_at), fun h' tk t' hk => ?_⟩
  · rcases List.mem_cons.mp hb with rfl | hb
    · exact hfp _ (by simp)
    · rcases List.mem_cons.mp hb with rfl | hb
      · exact hfp _ (by simp)
      · have : b = x1 := by simpa using hb
        subst this
        obtain ⟨_, _, e, _⟩ := pe
        show b < (s.heap.push _).objs.size
        rw [Heap.size_push]
        exact Nat.lt_succ_of_lt (Heap.lt_size e)
  · have := h h' tk t' (old_kept hk)
    rw [show (intItems xs).size = xs.size by simp [intItems], preSum_eq, List.take_of_length_le (by simp), hn]
    exact this
end
theorem cr_sumH {X : Cx} (hc : L2H.HotC X) : CallR X (.builtin "sum") (rSum X.K) := by
  intro pins s σ H vs us Q I r h
  obtain ⟨a, ns, rfl, hs, q⟩ := h
  obtain ⟨its, rv, hl, _⟩ := I.list hs
  obtain ⟨x1, hot⟩ := hc.at I
  rw [Vals.ref1 r]
  exact sum_rawH hot hl.isList rv.ints fun h' tk t' hk => ⟨.int _, H, I.kept hk, ⟨_, rfl⟩, q⟩
end Mi

namespace Mi
open PySem PySem.Spec PyProof.Rows L2
variable [TabsC]
section
variable {X : Cx} {pins : List (Addr × Obj)} {σ : L2.St} {H : Hp} {s : Shared} {elt tg iter : Expr} {scope : Scope} {own : List (Str × Nat)} {pos : Pos} {tl : TE} {g : TG} {te : TE}
theorem hot_back {H0 H' : Hp} {s0 s' : Shared} {ce : PySem.Env} {fp : List Addr} {σb : L2.St} (I3 : Inv X pins σ H0 s0) (f3 : ∀ b ∈ fp, FpOk X pins H0 b) (I : Inv (X.blk s0 H0 scope ce fp) [] σb H' s') : Inv X pins σ H' s' :=
  I3.call' (ch := fp) I.os I.base I.hok I.bare fun b hb => let ⟨_, a1, _, a3, a4, a5⟩ := f3 b hb; ⟨a3, a1, a4, a5⟩
theorem pe_lcH (hot : L2H.HotC X) (hN : X.N.Nodup) (hl : PE X iter tl) (ok : BlkOk X.N X.env.scope scope own)
    (hg : ∀ (s : Shared) (H : Hp) (C : Addr) (cl : List (Str × Addr)) (fp : List Addr), PG (X.blk s H scope (compEnvC scope cl C X.env) fp) tg g)
    (he : ∀ (s : Shared) (H : Hp) (C : Addr) (cl : List (Str × Addr)) (fp : List Addr), PE (X.blk s H scope (compEnvC scope cl C X.env) fp) elt te)
    (hs : ∀ x, foldedSetIterable iter X.env x = pure x := by intro _; rfl) : PE X (.ListComp elt [⟨tg, iter, [], 0⟩] scope pos) (tLc (iList X.K tl) g tYes te (own.map (·.2))) := by
  refine ⟨fun pins s σ H Q I h => ?_⟩
  rw [eval_ListComp]
  have clo : closureFor scope X.env = pure (cloFrom X.env.cells scope.names []) := closure_ok fun y hy e => (ok.free y hy e).elim (fun k => I.ok.has _ (.inl k)) fun k => I.ok.has _ (.inr k)
  refine wpAny_comprehension_free (use := none) rfl hs clo ok.kind (fun y hy e => by rw [ok.uniq y hy, e]) ?_
  refine thn (hl.run pins s σ H _ I h) fun xv s1 ⟨x, H1, I1, rx, a, ex, ⟨xs, hxs⟩, q⟩ => ?_
  subst ex
  cases rx
  obtain ⟨its, rv, pl, hz⟩ := I1.list hxs
  refine wpAny_pyIter_list pl.isList ?_
  -- the iterator, then the new list
  generalize hit : s1.heap.objs.size = it
  generalize hs2 : ({ s1 with heap := s1.heap.push { cls := .type "list_iterator", data := .fields #[.ref a, .int 0 0] } } : Shared) = s2
  have I2 : Inv X pins σ H1 s2 := by
    rw [← hs2]
    exact I1.kept (t' := s1.toks) fun b o e => Heap.get?_push_of_some _ e
  have st2 : s2.heap.IsListIter it a 0 := by
    rw [← hs2, ← hit]
    exact ⟨_, Heap.get?_push_size _ rfl, rfl, rfl⟩
  have n2 : H1 it = none := I1.hok.fresh (Nat.le_of_eq hit)
  have lt2 : it < s2.heap.objs.size := by
    obtain ⟨o, e, _⟩ := st2
    exact Heap.lt_size e
  have f2 : FpOk X pins H1 it := I1.fpOk (Nat.le_of_eq hit) n2
  refine wpAny_newObj_type (newEnv_comp ?_) (by show 0 ≤ sizeLine; decide)
  generalize hD : s2.heap.objs.size = D
  have nD : H1 D = none := I2.hok.fresh (Nat.le_of_eq hD)
  obtain ⟨W, ⟨m0, w0⟩, turn⟩ := q D nD
  generalize hs3 : ({ s2 with heap := s2.heap.push { cls := .type "list", data := .seq ([] : List Value).toArray } } : Shared) = s3
  have up : ∀ b o, s2.heap.get? b = some o → s3.heap.get? b = some o := fun b o e => by rw [← hs3]; exact Heap.get?_push_of_some _ e
  have I3 : Inv X pins σ (upd H1 D (.lst [])) s3 := by
    rw [← hs3]
    refine I2.laid (t' := s2.toks) (fun b o e => Heap.get?_push_of_some _ e) (Nat.le_of_eq hD) ⟨Nat.zero_le _, [], 0, .nil, ?_⟩
    rw [← hD]
    exact Heap.get?_push_size _ rfl
  have itD : it ≠ D := by rw [← hD]; exact Nat.ne_of_lt lt2
  have n3 : (upd H1 D (.lst [])) it = none := by rw [upd_ne itD]; exact n2
  have f3 : ∀ b ∈ [it], FpOk X pins (upd H1 D (.lst [])) b := fun b hb => by
    obtain rfl : b = it := by simpa using hb
    exact ⟨n3, f2.2⟩
  have st3 : s3.heap.IsListIter it a 0 := st2.at fun o e => up it o e
  have sz3 : it < s3.heap.objs.size := by
    obtain ⟨o, e, _⟩ := st3
    exact Heap.lt_size e
  have I4 := block_start (fp := [it]) I3 ok hN fun b hb => ⟨f3 b hb, by obtain rfl : b = it := by simpa using hb
                                                                        exact sz3⟩
  have pg := hg s3 (upd H1 D (.lst [])) s3.heap.objs.size (cellsFrom (s3.heap.objs.size + 1) scope.names (cloFrom X.env.cells scope.names [])) [it]
  have pe := he s3 (upd H1 D (.lst [])) s3.heap.objs.size (cellsFrom (s3.heap.objs.size + 1) scope.names (cloFrom X.env.cells scope.names [])) [it]
  show codeAny _ _ (.compStart (.ListComp elt [⟨tg, iter, [], 0⟩] scope pos) 0 (.ref it) (.ref D) (compEnvC scope (cellsFrom (s3.heap.objs.size + 1) scope.names (cloFrom X.env.cells scope.names [])) s3.heap.objs.size X.env)) (compPost (model X.prog X.w) X.A X.xe none (EP X pins σ Q) (.ref D) s3.heap.objs.size) { s3 with heap := pushCells (s3.heap.push { cls := .type "dict", data := .dict #[] }) scope.names }
  generalize hce : compEnvC scope (cellsFrom (s3.heap.objs.size + 1) scope.names (cloFrom X.env.cells scope.names [])) s3.heap.objs.size X.env = ce at I4 pg pe ⊢
  have cL : ce.locals = s3.heap.objs.size := by subst hce; rfl
  generalize upd H1 D (.lst []) = H3 at I3 I4 pg pe w0 n3 f3
  have st4 : (pushCells (s3.heap.push { cls := .type "dict", data := .dict #[] }) scope.names).IsListIter it a 0 := st3.at fun o e => pushCells_keeps _ _ _ _ (Heap.get?_push_of_some _ e)
  generalize hs4 : ({ s3 with heap := pushCells (s3.heap.push { cls := .type "dict", data := .dict #[] }) scope.names } : Shared) = s4 at I4 ⊢
  have st4 : s4.heap.IsListIter it a 0 := by rw [← hs4]; exact st4
  obtain ⟨p, ⟨hh, vs, hdat, hv2⟩, hp⟩ := hot
  have itp : it ≠ p.1 := fun z => (f3 it (by simp)).2.2.2.2.2 p (List.mem_append_left _ hp) z.symm
  have blkOk : ∀ {σ' : L2.St} {H' : Hp} {s' : Shared}, Inv (X.blk s3 H3 scope ce [it]) [] σ' H' s' → H' it = none → FpOk (X.blk s3 H3 scope ce [it]) [] H' it := fun {σ' H' s'} J hn =>
    ⟨hn, (J.ok.exf it (by simp)).1, J.ok.exfs it (by simp), .inl (by simp), fun x c e => (J.ok.exf it (by simp)).2 x c e, fun p hp => absurd (show p ∈ ([] : List (Addr × Obj)) ++ [] from hp) (by simp)⟩
  have loop : codeAny (model X.prog X.w) X.A (.compLoop (.ListComp elt [⟨tg, iter, [], 0⟩] scope pos) 0 (.ref it) (.ref D) ce) (compPost (model X.prog X.w) X.A X.xe none (EP X pins σ Q) (.ref D) s3.heap.objs.size) s4 := by
    refine compLoop_any (fun n s' => ∃ i H', Inv (X.blk s3 H3 scope ce [it]) [] (wipe σ (own.map (·.2))) H' s' ∧ s'.heap.IsListIter it a i ∧ H' it = none ∧ W i n H') ?_ m0 ⟨0, H3, I4, st4, n3, w0⟩
    rintro n s5 ⟨i, H5, I5, st5, n5, w5⟩
    have I7 : Inv X pins σ H5 s5 := hot_back I3 f3 I5
    obtain ⟨f0, f1, f2', f3', f4, f5⟩ : FpOk (X.blk s3 H3 scope ce [it]) [] H5 it := blkOk I5 n5
    have F5 : FpOk X pins H5 it := ⟨n5, (f3 it (by simp)).2⟩
    rcases turn i n H5 w5 with ⟨⟨ys, hy, hle⟩, qq⟩ | ⟨⟨ys, y, hy, hat⟩, Nx, hNx, step⟩
    · obtain ⟨its', rv', pl', _⟩ := I5.list hy
      have hlen := rv'.length
      refine next_end_hot ⟨hh, p.2, vs, (I7.pin p (List.mem_append_left _ hp)).1, hdat, hv2⟩ st5 pl'.isList (by simp; omega) itp fun h' eb => ?_
      have J1 : Inv (X.blk s3 H3 scope ce [it]) [] (wipe σ (own.map (·.2))) H5 { s5 with heap := h' } := I5.turned (t' := s5.toks) (fun b o hb e => eb b o hb e) f0 f1 f3' f4 f5
      have J2 : Inv X pins σ H5 { s5 with heap := h' } := hot_back I3 f3 J1
      have nC : H5 s3.heap.objs.size = none := by
        have z : H5 ce.locals = none := J1.free
        rw [cL] at z
        exact z
      obtain ⟨m, hn, _⟩ := J1.loc
      have hn : h'.Ns ce.locals m := hn
      rw [cL] at hn
      refine ⟨m, hn, fun h2 sb => ?_⟩
      obtain ⟨g0, g1, _, g3, g4, g5⟩ : FpOk X pins H5 s3.heap.objs.size := I3.fpOk (Nat.le_refl _) nC
      exact ⟨.ref D, H5, J2.turned (t' := s5.toks) (fun b o hb e => (sb.2 b hb).trans e) g0 g1 g3 g4 g5, rfl, qq⟩
    · obtain ⟨its', rv', pl', _⟩ := I5.list hy
      obtain ⟨u, hu, ru⟩ := rv'.get hat
      refine wpAny_pyNext_list_item st5 pl'.isList (x := u) (by simpa using hu) fun h' st' sb => ?_
      have J1 : Inv (X.blk s3 H3 scope ce [it]) [] (wipe σ (own.map (·.2))) H5 { s5 with heap := h' } := I5.turned (t' := s5.toks) (fun b o hb e => (sb.2 b hb).trans e) f0 f1 f3' f4 f5
      obtain ⟨o, eo, co, do_⟩ := id st'
      refine go_of (s := { s5 with heap := h' }) eo co do_ (by decide) ?_
      have J2 := J1.pinned (fp := [it]) (fun b hb => by obtain rfl : b = it := by simpa using hb
                                                        exact blkOk J1 n5) (fun b hb => by
        obtain rfl : b = it := by simpa using hb
        exact ⟨o, eo, fun v z => by rw [do_] at z; cases z⟩)
      refine thnF (pg.run _ _ _ H5 y u _ J2 ru (step y H5 ⟨rfl, fun zs hz => by rw [I5.list_inj hz hy]; exact hat⟩)) fun _ s8 ⟨σ8, H8, I8, hw8, q8⟩ => ?_
      refine thnF ((pts_nil (X := X.blk s3 H3 scope ce [it])).run _ s8 σ8 H8 _ I8 q8) fun b s9 ⟨H9, I9, q9⟩ => ?_
      have fin : ∀ {s' : Shared} {H' : Hp}, Inv (X.blk s3 H3 scope ce [it]) ([] ++ pinsAt [it] h') σ8 H' s' → Nx H' → ∃ m, m < n ∧ ∃ i H', Inv (X.blk s3 H3 scope ce [it]) [] (wipe σ (own.map (·.2))) H' s' ∧ s'.heap.IsListIter it a i ∧ H' it = none ∧ W i m H' := fun {s' H'} J nx => by
        obtain ⟨m', hm, w'⟩ := hNx H' nx
        have z := J.pin (it, o) (List.mem_append_right _ (List.mem_append_right _ (mem_pinsAt (by simp) eo)))
        refine ⟨m', hm, i + 1, H', (J.unpinned (pins := [])).weak (by rw [← hw8, wipe_length]) (fun j v e => ?_), st'.at fun o2 e2 => ?_, z.2.1, w'⟩
        · rw [← hw8] at e
          exact (wipe_some e).1
        · have e3 : h'.get? it = some o2 := e2
          rw [eo] at e3
          cases e3
          exact z.1
      cases b with
      | false => exact fin I9 q9
      | true =>
        refine thnF (pe.run _ s9 σ8 H9 _ I9 q9) fun z s10 ⟨yv, H10, I10, r10, acc, hD10, hz10, nx⟩ => ?_
        exact app_ok (X := X.blk s3 H3 scope ce [it]) I10 hD10 hz10 r10 fun s11 I11 => fin I11 nx
  exact codeAny_compStart_list loop (wpAny_pyIter_listiter st4 loop)
end
end Mi

namespace Mi
open PySem PySem.Spec PyProof.Rows L2
variable [TabsC]
section
variable {X : Cx} {W : WX} {pos : Pos} {elt tg iter : Expr} {scope : Scope} {own : List (Str × Nat)} {us : List Nat} {ma : ME} {g : MG} {me : ME}
theorem de_lcH (hot : L2H.HotC X) (hN : X.N.Nodup) (hi : DE X W iter ma) (hb : blkC X.N X.env.scope scope own = true) (h0 : 0 ∉ own.map (·.2)) (hu : ∀ i ∈ us, i ∈ own.map (·.2))
    (hg : ∀ (s : Shared) (H : Hp) (C : Addr) (cl : List (Str × Addr)) (fp : List Addr), DG (X.blk s H scope (compEnvC scope cl C X.env) fp) [0] us tg g)
    (he : ∀ (s : Shared) (H : Hp) (C : Addr) (cl : List (Str × Addr)) (fp : List Addr), DE (X.blk s H scope (compEnvC scope cl C X.env) fp) W0 elt me) (hs : ∀ x, foldedSetIterable iter X.env x = pure x := by intro _; rfl) :
    DE X W (.ListComp elt [⟨tg, iter, [], 0⟩] scope pos) (mLc (own.map (·.2)) (mItL ma) g mYes me) := by
  obtain ⟨t, p, s⟩ := hi
  refine ⟨_, pe_lcH (own := own) (g := canG X.K [0] us g) (te := canE X.K X.mg W0 me) hot hN p (blkOk_by hb) (fun s H C cl fp => (hg s H C cl fp).can) (fun s H C cl fp => (he s H C cl fp).can) hs, ?_⟩
  exact sim_lc h0 hu (sim_itL s) sim_canG (fun Y H0 io T τ e s H Q r p => p H r) sim_canE
end
section
variable {X : Cx} {k : Nat} {f : Addr} {fd : FuncData} {ps : List Str} {kd : Str → Option Str} {x y : Str} {i : Nat} {ios : List Nat} {p1 p2 p3 p5 : Pos}
def mKindR (kd : Str → Option Str) : Str → List (Str × Int) → MS := fun c fs e => if fs ≠ [] then .err else match kd c with
  | some r => .rt (.str r) e
  | none => .err
theorem dsu_kindR (F : FnHx X.prog X.w X.K X.mg X.base (L2N.CX X.prog X.w) k f fd ps (spK X.K X.mg kd)) (hr : Room k X.A) (hm : X.mg x = some (.ref f)) (hk : PySem.W.keepIn X.K (.ref f) = true) (hb : Binds X.K fd ps [])
    (hg : Gl X x := by rfl) (hni : X.N[i]? = some y := by rfl) (hv : Vis X.env.scope y := by first | exact Or.inl rfl | exact Or.inr (Or.inl rfl) | exact Or.inr (Or.inr rfl))
    (hd : (y == ("__debug__" : Str)) = false := by decide) (hcd : (y == ("__classdict__" : Str)) = false := by decide) (hdb : (x == ("__debug__" : Str)) = false := by decide)
    (he : starEach (.Name y p1 :: []) X.env = (false, eval (.Name y p1) X.env) :: starEach [] X.env := by rfl) (hpl : (backTo p3 (starEach [] X.env)).any (·.1) = false := by rfl) :
    DSu X ios i [.Return (some (.Call (.Name x p2) [.Name y p1] [] p3)) p5] (mKindR kd) := by
  refine ⟨fun a cls d => tRet (tCallS (spK X.K X.mg kd a cls d) (fun _ => E0) (tCons (tVar i) tNil)), fun a oe cls d pn hz hf => ?_, ?_⟩
  · have pe := pe_callHx (X := X.suite a ((a, oe) :: pn)) (CX := L2N.CX X.prog X.w) (E := fun _ => E0) (p := (a, oe)) (pos := p3) (q := p2) F ⟨hr.dp, hr.un⟩ (hot_suite hz hf) List.mem_cons_self hz hf hg hm hk hb (fun σ pins H s e s' I c => by
      obtain ⟨_, _, _, _, _, _, _, _, _, _, _, _, q⟩ := c
      exact q.elim) (pa_cons (pe_var (i := i) (x := y) (pos := p1) hni hv hd hcd) pa_nil he) hdb he hpl
    exact pss_one (ps_ret pe)
  · intro a cls d c fs Y H0 io T τ e s H D hio xr ha hei hsi rl q
    obtain ⟨C, g1, g2, g3⟩ := id xr
    have q := id q
    unfold mKindR at q
    by_cases hfs : fs ≠ []
    · rw [if_pos hfs] at q; exact q.elim
    rw [if_neg hfs] at q
    have hfs : fs = [] := Classical.byContradiction hfs
    cases hk : kd c with
    | none => rw [hk] at q; exact q.elim
    | some r =>
      rw [hk] at q
      refine ⟨V.ref a, hsi, rfl, c, C, r, g1, g2, ?_, hk, rl.tabs, fun H' hs => ?_⟩
      · rcases g3 with g3 | g3
        · exact g3.2
        · exact absurd hfs g3.1
      · exact q _ _ _ (rl.sameT hs).str
end
end Mi

namespace Mi
open PySem PySem.Spec PyProof.Rows L2
variable [TabsC]
def zipD (l1 l2 : List D) : List D := List.zipWith (fun p q => D.tup (frzs [p, q])) l1 l2
section
variable {K : PySem.W.Frag} {mg : Str → Option Value} {W : WX}
theorem zip_turn {Y : Addr → Prop} {H0 H : Hp} {io : List (Nat × Addr)} {T : List D} {τ : List V} {e : Env} {s : St} {d1 d2 p1 p2 : D} {va vb x y : V} {z : Addr}
    (r : Rel K Y H0 io (p2 :: d2 :: p1 :: d1 :: T) (y :: vb :: x :: va :: τ) e s H) (hz : H z = none) : Rel K Y H0 io (.tup (frzs [p1, p2]) :: d1 :: d2 :: T) (V.ref z :: va :: vb :: τ) e s (upd H z (.tup [x, y])) := by
  have r1 := Rel.mid (A := [p2, d2]) (va := [y, vb]) rfl r
  have r2 := Rel.mid (A := [p1, p2, d2]) (va := [x, y, vb]) rfl r1
  have r3 := Rel.mid (A := [d1, p1]) (va := [va, x]) rfl r2
  have r4 := Rel.mid (A := [p2, d1]) (va := [y, va]) rfl r3
  exact Rel.tuple (A := [p1, p2]) (va := [x, y]) rfl r4 hz
theorem walks_zip {Ja Jb J : It} {d1 d2 : D} {a b : Addr} {l1 l2 : List D} {S : Hp → Addr → List V → Prop}
    (ga : ∀ i H, Ja.go i H → ∃ xs x, S H a xs ∧ xs[i]? = some x) (gb : ∀ i H, Jb.go i H → ∃ xs x, S H b xs ∧ xs[i]? = some x)
    (ya : ∀ i H x, (∀ xs, S H a xs → xs[i]? = some x) → Ja.yld i H x H) (yb : ∀ i H x, (∀ xs, S H b xs → xs[i]? = some x) → Jb.yld i H x H)
    (sa : ∀ i H, Ja.stop i H → ∃ xs, S H a xs ∧ xs.length ≤ i) (sb : ∀ i H, Jb.stop i H → ∃ xs, S H b xs ∧ xs.length ≤ i)
    (hgo : ∀ i H, (∃ xs ys x y, S H a xs ∧ S H b ys ∧ xs[i]? = some x ∧ ys[i]? = some y) → J.go i H)
    (hyl : ∀ i H v H', J.yld i H v H' → ∃ z x y, v = .ref z ∧ H z = none ∧ H' = upd H z (.tup [x, y]) ∧ (∀ xs, S H a xs → xs[i]? = some x) ∧ ∀ ys, S H b ys → ys[i]? = some y)
    (hst : ∀ i H, (∃ xs ys, S H a xs ∧ S H b ys ∧ (xs.length ≤ i ∨ ys.length ≤ i)) → J.stop i H)
    (w1 : Walks K Ja [d1] [V.ref a] l1) (w2 : Walks K Jb [d2] [V.ref b] l2) : Walks K J [d1, d2] [V.ref a, V.ref b] (zipD l1 l2) := by
  intro Y H0 io T τ e s H r
  have ra := w1 Y H0 io (d2 :: T) (V.ref b :: τ) e s H r
  have rsw : Rel K Y H0 io (d2 :: d1 :: T) (V.ref b :: V.ref a :: τ) e s H := Rel.swap r
  have rb := w2 Y H0 io (d1 :: T) (V.ref a :: τ) e s H rsw
  refine ⟨fun i d hd => ?_, ?_⟩
  · unfold zipD at hd
    rw [List.getElem?_zipWith] at hd
    cases h1 : l1[i]? with
    | none => rw [h1] at hd; cases hd
    | some p1 =>
      cases h2 : l2[i]? with
      | none => rw [h1, h2] at hd; cases hd
      | some p2 =>
        rw [h1, h2] at hd
        cases hd
        obtain ⟨g1, k1⟩ := ra.1 i p1 h1
        obtain ⟨g2, _⟩ := rb.1 i p2 h2
        obtain ⟨xs, x, hx, hx2⟩ := ga i H g1
        obtain ⟨ys, y, hy, hy2⟩ := gb i H g2
        refine ⟨hgo i H ⟨xs, ys, x, y, hx, hy, hx2, hy2⟩, fun v H' hv => ?_⟩
        obtain ⟨z, x, y, rfl, hz, rfl, ux, uy⟩ := hyl i H v H' hv
        have r1 : Rel K Y H0 io (p1 :: d1 :: d2 :: T) (x :: V.ref a :: V.ref b :: τ) e s H := k1 x H (ya i H x ux)
        have r2 := Rel.mid (A := [p1, d1]) (va := [x, V.ref a]) rfl r1
        obtain ⟨_, k2⟩ := (w2 Y H0 io (p1 :: d1 :: T) (x :: V.ref a :: τ) e s H r2).1 i p2 h2
        exact zip_turn (k2 y H (yb i H y uy)) hz
  · obtain ⟨xs, hx, lx⟩ := sa _ _ ra.2
    obtain ⟨ys, hy, ly⟩ := sb _ _ rb.2
    refine hst _ _ ⟨xs, ys, hx, hy, ?_⟩
    unfold zipD
    rw [List.length_zipWith]
    by_cases c : l1.length ≤ l2.length
    · exact .inl (by omega)
    · exact .inr (by omega)
def mZip (ma : MA) : MA := fun e => (ma e).bind fun p => match p.1 with
  | [d1, d2] => match litems d1, litems d2 with
    | some a, some b => .ok (zipD (frzs a) (frzs b), p.2)
    | _, _ => match d1, d2 with
      | .tup a, .tup b => if plains a = true ∧ plains b = true then .ok (zipD a b, p.2) else .err
      | _, _ => .err
  | _ => .err
theorem sim_zip {t : TA} {ma : MA} (h : SimA K mg W t ma) : SimI K mg W (RZ.iZipA K t) (mZip ma) := by
  intro Y H0 io T τ e s H R r p
  refine h Y H0 io T τ e s H _ r ?_
  unfold mZip at p
  cases c : ma e with
  | err => rw [c] at p; exact p
  | exc c2 fs e' => rw [c] at p; exact p
  | ok zz =>
    obtain ⟨ds, e'⟩ := zz
    rw [c] at p
    intro vs H' hlen rl
    simp only [Rs.bind] at p
    match ds, p with
    | [], p => exact False.elim p
    | [_], p => exact False.elim p
    | _ :: _ :: _ :: _, p => exact False.elim p
    | [d1, d2], p =>
      match vs, hlen with
      | [v1, v2], _ =>
        simp only at p
        cases c1 : litems d1 with
        | some l1 =>
          cases c2 : litems d2 with
          | some l2 =>
            rw [c1, c2] at p
            simp only at p
            obtain ⟨a, xs, rfl, hxs, _⟩ := rl.lref c1
            obtain ⟨b, ys, rfl, hys, _⟩ := (Rel.swap rl).lref c2
            refine ⟨a, b, xs, ys, rfl, .inl ⟨hxs, hys, p _ [d1.frz, d2.frz] [V.ref a, V.ref b] H' rfl ?_ ?_⟩⟩
            · exact Rel.frzA (A := [d1, d2]) (va := [V.ref a, V.ref b]) rfl rl
            · exact walks_zip (Ja := Itl K a) (Jb := Itl K b) (J := Itz K a b) (S := fun H a xs => SqL K H a xs) (fun _ _ z => z) (fun _ _ z => z) (fun _ _ _ z => ⟨rfl, z⟩) (fun _ _ _ z => ⟨rfl, z⟩) (fun _ _ z => z) (fun _ _ z => z) (fun _ _ z => z) (fun _ _ _ _ z => z) (fun _ _ z => z) (walks_list c1) (walks_list c2)
          | none =>
            rw [c1, c2] at p
            cases d1 <;> first | (cases c1; done) | exact False.elim p
        | none =>
          rw [c1] at p
          simp only at p
          by_cases tt : ∃ x y, d1 = .tup x ∧ d2 = .tup y
          case neg => exact False.elim (by cases d1 <;> first | (cases c1; done) | exact p | (cases d2 <;> first | exact p | exact (tt ⟨_, _, rfl, rfl⟩).elim))
          obtain ⟨x, y, rfl, rfl⟩ := tt
          simp only at p
          by_cases z : plains x = true ∧ plains y = true
          · rw [if_pos z] at p
            obtain ⟨P, as, o⟩ := rl.top
            obtain ⟨a, xs, rfl, t1, _⟩ := o.tup
            obtain ⟨P2, as2, o2⟩ := (Rel.swap rl).top
            obtain ⟨b, ys, rfl, t2, _⟩ := o2.tup
            refine ⟨a, b, xs, ys, rfl, .inr ⟨t1.sq, t2.sq, p _ [.tup x, .tup y] [V.ref a, V.ref b] H' rfl rl ?_⟩⟩
            exact walks_zip (Ja := Itt K a) (Jb := Itt K b) (J := RZ.ItzT K a b) (S := fun H a xs => SqT K H a xs) (fun _ _ z => z) (fun _ _ z => z) (fun _ _ _ z => ⟨rfl, z⟩) (fun _ _ _ z => ⟨rfl, z⟩) (fun _ _ z => z) (fun _ _ z => z) (fun _ _ z => z) (fun _ _ _ _ z => z) (fun _ _ z => z) (walks_tup z.1) (walks_tup z.2)
          · rw [if_neg z] at p; exact False.elim p
end
theorem di_zip {X : Cx} {W : WX} {e e2 : Expr} {mi : MA} {p pos tpos : Pos} {elts : List Expr} {kk : Nat} (B : BI X.mg) (ha : DA X W [e, e2] mi) (hg : Gl X "zip" := by rfl)
    (hs : starEach [e, e2] X.env = (false, eval e X.env) :: starEach [e2] X.env := by rfl) (hpl : (backTo pos (starEach [e2] X.env)).any (·.1) = false := by rfl) :
    DI X W (.Tuple elts kk tpos) (.Call (.Name "zip" p) [e, e2] [] pos) (mZip mi) := by
  obtain ⟨t, pa, s⟩ := ha
  exact ⟨_, RZ.pi_zipA hg B.zip pa hs hpl, sim_zip s⟩
end Mi

namespace Mi
open PySem PySem.Spec PyProof.Rows L2
variable [TabsC]
def rIsiA (K : PySem.W.Frag) : List V → Hp → VK → Prop := fun vs H Q => ∃ (v : V) (tp : Addr) (cs : List V) (t : Value) (ws : List Value) (b : Bool), vs = [v, .ref tp] ∧ SqT K H tp cs ∧ Paired ClsV cs ws ∧ TyX K H v t ∧ PySem.W.kitAny K t ws = some b ∧ Q (.bl b) H
theorem call_isiA {X : Cx} : CallR X (.builtin "isinstance") (rIsiA X.K) := by
  intro pins s σ H vs us Q I r ⟨v, tp, cs, t, ws, b, ev, hT, k, ty, e, q⟩
  subst ev
  obtain ⟨u1, u2, eu, r1, r2⟩ := vals2 r
  subst eu
  obtain rfl : u2 = Value.ref tp := r2
  obtain ⟨P, Z, p, hx⟩ := L2.kit_of I r1 ty
  have main : ∃ (dd : Option Addr) (n : Nat) (sl : Array (Option Value)), s.heap.get? tp = some ⟨.type "tuple", dd, .seq ws.toArray n, sl⟩ := by
    rcases hT with (hT | ⟨ob, hT⟩) | ⟨o, its, n, hk, h2, h3, _, rv⟩
    · obtain ⟨_, its, rv, o, h1, h2, n, h3⟩ := (I.hok tp _ hT : ObjOk X.prog X.w H s.heap tp (.tup cs))
      obtain rfl := ClsV.all k rv
      obtain ⟨oc, od, dt, sl⟩ := o
      cases h2; cases h3
      exact ⟨_, _, _, h1⟩
    · obtain ⟨_, _, its, rv, o, h1, h2, n, h3⟩ := (I.hok tp _ hT : ObjOk X.prog X.w H s.heap tp (.frz ob (.tup cs)))
      obtain rfl := ClsV.all k rv
      obtain ⟨oc, od, dt, sl⟩ := o
      cases h2; cases h3
      exact ⟨_, _, _, h1⟩
    · obtain rfl := ClsV.all k rv
      obtain ⟨oc, od, dt, sl⟩ := o
      cases h2; cases h3
      exact ⟨_, _, _, I.kIn _ _ hk⟩
  obtain ⟨dd, n, sl, hg⟩ := main
  exact PySem.W.kia_tup Z I.kIn p hg e hx fun tk => ⟨.bl b, H, I.tok tk, rfl, q⟩
section
variable {K : PySem.W.Frag}
def tyNames : List D → Option (List String)
  | [] => some []
  | .raw (.ty n) :: ds => (tyNames ds).map (n :: ·)
  | _ => none
def isiAny (k : String) : List String → Option Bool
  | [] => some false
  | n :: ns => (isiT k n).bind fun b => (isiAny k ns).map (b || ·)
def dIsiT : D → D → Option D
  | a, .tup ds => (kindOf a).bind fun k => (tyNames ds).bind fun ns => (isiAny k ns).map D.bl
  | _, _ => none
theorem tys_pair {P : Addr → Prop} {H : Hp} : ∀ (ds : List D) {ns : List String} {vs : List V}, tyNames ds = some ns → Reps K P H ds vs → Paired ClsV vs (ns.map Value.type)
  | [], _, _, h, r => by cases h; unfold Reps at r; subst r; exact .nil
  | .raw (.ty n) :: ds, ns, vs, h, r => by
    obtain ⟨ms, h1, rfl⟩ := Option.map_eq_some_iff.mp (show (tyNames ds).map (n :: ·) = some ns from h)
    unfold Reps at r
    obtain ⟨v, us, rfl, r1, r2⟩ := r
    unfold Rep at r1
    subst r1
    exact .cons (.ty n) (tys_pair ds h1 r2)
theorem isiAny_ok {k : String} : ∀ {ns : List String} {b : Bool}, isiAny k ns = some b → PySem.W.kitAny K (.type k) (ns.map Value.type) = some b
  | [], b, h => by cases h; exact kitAny_nil
  | n :: ns, b, h => by
    obtain ⟨c, h1, h2⟩ := Option.bind_eq_some_iff.mp (show (isiT k n).bind (fun b => (isiAny k ns).map (b || ·)) = some b from h)
    obtain ⟨d, h3, rfl⟩ := Option.map_eq_some_iff.mp h2
    refine kitAny_cons (kit_ty (isiT_ok h1)) (fun z => ?_) fun z => ?_
    · subst z; exact isiAny_ok h3
    · subst z; rfl
theorem ok_isiA : OkL K (rIsiA K) (fn2 dIsiT) := by
  refine okL2 dIsiT (fn2_of _) fun Y H0 io T τ e s H a b va vb d Q hf r q => ?_
  obtain ⟨P, as, bs, o1, o2⟩ := r.top2
  obtain ⟨ds, rfl⟩ : ∃ ds, b = .tup ds := by
    cases b <;> first | exact ⟨_, rfl⟩ | (simp [dIsiT] at hf)
  unfold dIsiT at hf
  obtain ⟨k, h1, hf⟩ := Option.bind_eq_some_iff.mp hf
  obtain ⟨ns, h2, hf⟩ := Option.bind_eq_some_iff.mp hf
  obtain ⟨c, h3, rfl⟩ := Option.map_eq_some_iff.mp hf
  obtain ⟨tp, cs, rfl, t1, w1⟩ := o1.tup
  exact ⟨va, tp, cs, .type k, ns.map Value.type, c, rfl, t1.sq, tys_pair ds h2 w1, o2.tyx h1, isiAny_ok h3, q _ _ r.pop.pop.bl⟩
end
end Mi

namespace Mi
open PySem PySem.Spec PyProof.Rows L2
variable [TabsC]
section
variable {e : Env} {d d2 : D} {ds es : List D} {c : Str} {fs : List (Str × Int)} {ma : ME} {mr : MA} {ml mh : MO2} {lo hi : Option Int} {i : Nat} {j : Int}
def kPt : Rs (D × Env) → Rs (Option Int × Env)
  | .ok (.int i, e) => .ok (some i, e)
  | .ok _ => .err
  | .exc c fs e => .exc c fs e
  | .err => .err
theorem mPart_ap : mPart ma e = kPt (ma e) := by
  unfold mPart kPt Rs.bind
  cases ma e with
  | ok p => obtain ⟨d, e1⟩ := p; cases d <;> rfl
  | exc _ _ _ => rfl
  | err => rfl
theorem kPt_ok : kPt (.ok (.int j, e)) = .ok (some j, e) := rfl
theorem mNoPart_ap : mNoPart e = .ok (none, e) := rfl
def kSl3 (d : D) (lo : Option Int) : Rs (Option Int × Env) → Rs (D × Env)
  | .ok p => kof (dSl d lo p.1) p.2
  | .exc c fs e => .exc c fs e
  | .err => .err
def kSl2 (d : D) (mh : MO2) : Rs (Option Int × Env) → Rs (D × Env)
  | .ok p => kSl3 d p.1 (mh p.2)
  | .exc c fs e => .exc c fs e
  | .err => .err
def kSl1 (ml mh : MO2) : Rs (D × Env) → Rs (D × Env)
  | .ok p => kSl2 p.1 mh (ml p.2)
  | .exc c fs e => .exc c fs e
  | .err => .err
theorem mSl_ap : mSl ma ml mh e = kSl1 ml mh (ma e) := by
  unfold mSl kSl1 Rs.bind
  cases ma e with
  | ok p =>
    simp only [kSl2]
    cases ml p.2 with
    | ok q =>
      simp only [kSl3]
      cases mh q.2 with
      | ok r => simp only; cases dSl p.1 q.1 r.1 <;> rfl
      | exc _ _ _ => rfl
      | err => rfl
    | exc _ _ _ => rfl
    | err => rfl
  | exc _ _ _ => rfl
  | err => rfl
theorem kSl1_ok : kSl1 ml mh (.ok (d, e)) = kSl2 d mh (ml e) := rfl
theorem kSl2_ok : kSl2 d mh (.ok (lo, e)) = kSl3 d lo (mh e) := rfl
theorem kSl3_ok : kSl3 d lo (.ok (hi, e)) = kof (dSl d lo hi) e := rfl
theorem dSl_tup : dSl (.tup ds) lo hi = some (.tup (cutL ds lo hi)) := rfl
theorem dSl_lst : dSl (.lst ds) lo hi = some (.own (cutL ds lo hi)) := rfl
theorem dSl_cst : dSl (.cst ds) lo hi = some (.own (cutL ds lo hi)) := rfl
def kZ : Rs (List D × Env) → Rs (List D × Env)
  | .ok ([d1, d2], e) => (match litems d1, litems d2 with
    | some a, some b => .ok (zipD (frzs a) (frzs b), e)
    | _, _ => match d1, d2 with
      | .tup a, .tup b => if plains a = true ∧ plains b = true then .ok (zipD a b, e) else .err
      | _, _ => .err)
  | .ok _ => .err
  | .exc c fs e => .exc c fs e
  | .err => .err
theorem mZip_ap : mZip mr e = kZ (mr e) := by
  unfold mZip kZ Rs.bind
  cases mr e with
  | ok p =>
    obtain ⟨ds, e1⟩ := p
    rcases ds with _ | ⟨a, _ | ⟨b, _ | ⟨z, r⟩⟩⟩ <;> rfl
  | exc _ _ _ => rfl
  | err => rfl
theorem kZ_tup : kZ (.ok ([.tup ds, .tup es], e)) = if plains ds = true ∧ plains es = true then .ok (zipD ds es, e) else .err := rfl
theorem kZ_lst : kZ (.ok ([.lst ds, .lst es], e)) = .ok (zipD (frzs ds) (frzs es), e) := rfl
section
variable {α : Type} {x y z w v u : α} {xs : List α}
theorem at_0 : atI (x :: xs) 0 = some x := atI_pos (by decide) (by simp)
theorem at_1 : atI (x :: y :: xs) 1 = some y := atI_pos (i := 1) (by decide) (by show 1 < _; simp)
theorem at_2 : atI (x :: y :: z :: xs) 2 = some z := atI_pos (i := 2) (by decide) (by show 2 < _; simp)
theorem at_3 : atI (x :: y :: z :: w :: xs) 3 = some w := atI_pos (i := 3) (by decide) (by show 3 < _; simp)
end
theorem dMulL_own {n : Int} (h : ds.length * n.toNat ≤ sizeLine) : dMul (.own ds) (.int n) = dMulL (.own ds) (.int n) := rfl
end
theorem isT_non  : dIsiT .non (.tup [.raw (.ty "tuple"), .raw (.ty "list")]) = some (.bl false) := rfl
theorem isT_bl {b : Bool} : dIsiT (.bl b) (.tup [.raw (.ty "tuple"), .raw (.ty "list")]) = some (.bl false) := rfl
theorem isT_int {i : Int} : dIsiT (.int i) (.tup [.raw (.ty "tuple"), .raw (.ty "list")]) = some (.bl false) := rfl
theorem isT_str {x : Str} : dIsiT (.str x) (.tup [.raw (.ty "tuple"), .raw (.ty "list")]) = some (.bl false) := rfl
theorem isT_tup {ds : List D} : dIsiT (.tup ds) (.tup [.raw (.ty "tuple"), .raw (.ty "list")]) = some (.bl true) := rfl
theorem isT_lst {ds : List D} : dIsiT (.lst ds) (.tup [.raw (.ty "tuple"), .raw (.ty "list")]) = some (.bl true) := rfl
theorem isT_cst {ds : List D} : dIsiT (.cst ds) (.tup [.raw (.ty "tuple"), .raw (.ty "list")]) = some (.bl true) := rfl
theorem isT_dic : dIsiT .dic (.tup [.raw (.ty "tuple"), .raw (.ty "list")]) = some (.bl false) := rfl
theorem isT_own {ds : List D} : dIsiT (.own ds) (.tup [.raw (.ty "tuple"), .raw (.ty "list")]) = some (.bl true) := rfl
theorem kTr_excR {i : Nat} {ns : List Str} {kd : Str → Option Str} {c r : Str} {e : Env} (h : kd c = some r) (hn : ns.contains c = true) : kTr i ns (mKindR kd) (.exc c [] e) = if i < e.length then .rt (.str r) (e.set i none) else .err := by
  unfold kTr mKindR
  simp only [h, hn, true_and, ne_eq, not_true_eq_false, if_false]
end Mi

namespace Mi
open PySem PySem.Spec PyProof.Rows L2
variable [TabsC]
theorem dInt_bl {b : Bool} : dInt (.bl b) = some (.int (if b then 1 else 0)) := rfl
end Mi

namespace Mi
open PySem PySem.Spec PyProof.Rows L2
variable [TabsC]
instance (i j : Int) : Decidable (RgOk i j) := by unfold RgOk; infer_instance
def mLR1 (ma : ME) : ME := fun e => (ma e).bind fun p => match p.1 with
  | .int n => if RgOk 0 n then .ok (.own (rangeD 0 n.toNat), p.2) else .err
  | _ => .err
section
variable {K : PySem.W.Frag} {mg : Str → Option Value} {W : WX}
theorem new_range {Y : Addr → Prop} {H0 H : Hp} {io : List (Nat × Addr)} {T : List D} {τ : List V} {e : Env} {s : St} {d : D} {v : V} (n i : Int) (r : Rel K Y H0 io (d :: T) (v :: τ) e s H) (hd : d = .int n) {l : Addr} (hl : H l = none) (j : Int) :
    Rel K Y H0 io (.own (rangeD i (j - i).toNat) :: T) (V.ref l :: τ) e s (upd H l (.lst (rgV i j))) := by
  subst hd
  obtain ⟨P, as, nd, o, g⟩ := r.swap1
  have hs : Same H (upd H l (.lst (rgV i j))) := same_new hl
  refine g _ (.own (rangeD i (j - i).toNat)) _ [l] hs (by simp) (fun z hz => ?_) fun P' hP hT _ => ?_
  · obtain rfl := List.mem_singleton.mp hz
    exact ⟨.inr hl, _, upd_same, fun _ z => nomatch z⟩
  · unfold Own
    refine ⟨l, rgV i j, [], rfl, upd_same, Owns.of ?_, rfl⟩
    have e1 : rangeD i (j - i).toNat = ((List.range (j - i).toNat).map fun k : Nat => i + (k : Int)).map D.int := by unfold rangeD; rw [List.map_map]; rfl
    have e2 : rgV i j = ((List.range (j - i).toNat).map fun k : Nat => i + (k : Int)).map V.int := by unfold rgV; rw [List.map_map]; rfl
    rw [e1, e2]
    exact reps_ints _
theorem sim_lRng1 {ta : TE} {ma : ME} (h : SimE K mg W ta ma) : SimE K mg W (tLstRg (tRg1 ta)) (mLR1 ma) := by
  intro Y H0 io T τ e s H Q r p
  refine h.then r (P := PostE K mg W Y H0 io T τ s Q) p id postE_exc fun d e' p v H' rl => ?_
  obtain ⟨n, rfl⟩ : ∃ n, d = .int n := by cases d <;> first | exact ⟨_, rfl⟩ | exact False.elim p
  simp only at p
  by_cases c : RgOk 0 n
  · rw [if_pos c] at p
    obtain rfl := Rel.isInt rl
    refine ⟨n, rfl, c, fun l hl => p _ _ ?_⟩
    have := new_range n 0 rl rfl hl n
    rw [Int.sub_zero] at this
    exact this
  · rw [if_neg c] at p; exact False.elim p
end
section
variable {X : Cx} {W : WX} {a b : Expr} {ma mb : ME} {p p2 pos pos2 : Pos}
theorem de_lRng1 (B : BI X.mg) (hc : X.calm = true) (ha : DE X W a ma) (hg : Gl X "list" := by rfl) (hg2 : Gl X "range" := by rfl)
    (na : starEach [a] X.env = (false, eval a X.env) :: starEach [] X.env := by rfl) (nb : starEach [.Call (.Name "range" p2) [a] [] pos2] X.env = (false, eval (.Call (.Name "range" p2) [a] [] pos2) X.env) :: starEach [] X.env := by rfl) :
    DE X W (.Call (.Name "list" p) [.Call (.Name "range" p2) [a] [] pos2] [] pos) (mLR1 ma) := by
  obtain ⟨t, pa, s⟩ := ha
  exact ⟨_, pe_listRg hc hg B.list (prg_1 hg2 B.range pa na) nb, sim_lRng1 s⟩
end
section
variable {e : Env} {i j : Int} {ma mb : ME}
def kLR1 : Rs (D × Env) → Rs (D × Env)
  | .ok (.int n, e) => if RgOk 0 n then .ok (.own (rangeD 0 n.toNat), e) else .err
  | .ok _ => .err
  | .exc c fs e => .exc c fs e
  | .err => .err
theorem mLR1_ap : mLR1 ma e = kLR1 (ma e) := by
  unfold mLR1 kLR1 Rs.bind
  cases ma e with
  | ok p => obtain ⟨d, e1⟩ := p; cases d <;> rfl
  | exc _ _ _ => rfl
  | err => rfl
theorem kLR1_ok : kLR1 (.ok (.int i, e)) = if RgOk 0 i then .ok (.own (rangeD 0 i.toNat), e) else .err := rfl
end
end Mi

namespace Mi
open PySem PySem.Spec PyProof.Rows L2
variable [TabsC]
end Mi

namespace Mi
open PySem PySem.Spec PyProof.Rows L2
variable [TabsC]
theorem lc_filter {vs : List Nat} {g : MG} {tt : MT} {te : ME} (e : Env) (p : D → Bool) (f : D → D) : ∀ (ds acc : List D), (∀ d ∈ ds, ∃ e1 e2, g d e = some e1 ∧ tt e1 = .ok (p d, e2) ∧ (p d = true → ∃ e3, te e2 = .ok (f d, e3) ∧ wipeE e3 vs = e) ∧ (p d = false → wipeE e2 vs = e)) →
    acc.length + ds.length ≤ sizeLine → mLcLoop vs g tt te ds acc e = .ok (.own (acc ++ (ds.filter p).map f), e)
  | [], acc, _, _ => by rw [lc_nil]; simp
  | d :: ds, acc, h, hl => by
    obtain ⟨e1, e2, h1, h2, h3, h4⟩ := h d List.mem_cons_self
    rw [List.length_cons] at hl
    rw [lc_cons, h1, kz1_some, h2, kz2_ok]
    cases c : p d with
    | true =>
      obtain ⟨e3, h5, h6⟩ := h3 c
      rw [if_pos rfl, h5, kz3_ok, if_pos (by omega), h6, lc_filter e p f ds (acc ++ [f d]) (fun x hx => h x (List.mem_cons_of_mem _ hx)) (by rw [List.length_append, List.length_singleton]; omega)]
      rw [List.filter_cons_of_pos (by rw [c]), List.map_cons, List.append_assoc]
      rfl
    | false =>
      rw [if_neg (by decide), h4 c, lc_filter e p f ds acc (fun x hx => h x (List.mem_cons_of_mem _ hx)) (by omega)]
      rw [List.filter_cons_of_neg (by rw [c]; decide)]
theorem lc_map {vs : List Nat} {g : MG} {te : ME} (e : Env) (f : D → D) (ds : List D) (h : ∀ d ∈ ds, ∃ e1 e3, g d e = some e1 ∧ te e1 = .ok (f d, e3) ∧ wipeE e3 vs = e) (hl : ds.length ≤ sizeLine) :
    mLcLoop vs g mYes te ds [] e = .ok (.own (ds.map f), e) := by
  have := lc_filter (vs := vs) (g := g) (tt := mYes) (te := te) e (fun _ => true) f ds [] (fun d hd => by
    obtain ⟨e1, e3, h1, h2, h3⟩ := h d hd
    exact ⟨e1, e1, h1, rfl, fun _ => ⟨e3, h2, h3⟩, fun z => nomatch z⟩) (by rw [List.length_nil]; omega)
  rw [this]
  rw [List.nil_append, List.filter_eq_self.mpr fun _ _ => rfl]
theorem shaped_i2 {x y : Int} : SeqAt.shaped (.tuple [.int x, .int y]) = true := by rfl
theorem shaped_i {x : Int} : SeqAt.shaped (.int x) = true := by rfl
theorem dNotIn2 {b x y : Int} : dNotIn (.int b) (.tup [.int x, .int y]) = some (.bl (!(decide (x = b) || (decide (y = b) || false)))) := by
  show (if (SeqAt.shaped (.int b) && SeqAt.shaped (.tuple [.int x, .int y])) = true then some (D.bl (xor true ([PyData.int x, .int y].any fun z => PyData.eqv z (.int b)))) else none) = _
  rw [shaped_i2, shaped_i]
  simp [PyData.eqv]
  rfl
theorem dIn2 {b x y : Int} : dIn (.int b) (.tup [.int x, .int y]) = some (.bl (decide (x = b) || (decide (y = b) || false))) := by
  show (if (SeqAt.shaped (.int b) && SeqAt.shaped (.tuple [.int x, .int y])) = true then some (D.bl (xor false ([PyData.int x, .int y].any fun z => PyData.eqv z (.int b)))) else none) = _
  rw [shaped_i2, shaped_i]
  simp [PyData.eqv]
  rfl
end Mi

namespace Mi
open PySem PySem.Spec PyProof.Rows L2
variable [TabsC]
end Mi

namespace Mi
open PySem PySem.Spec PyProof.Rows L2
variable [TabsC]
end Mi

namespace Mi
open PySem PySem.Spec PyProof.Rows L2
variable [TabsC]
theorem Rel.newDic {K : PySem.W.Frag} {Y : Addr → Prop} {H0 H : Hp} {io : List (Nat × Addr)} {T : List D} {t : List V} {e : Env} {s : St} {l : Addr} (r : Rel K Y H0 io T t e s H) (hl : H l = none) : Rel K Y H0 io (.dic :: T) (V.ref l :: t) e s (upd H l (.dK [])) := by
  obtain ⟨as, bs, h1, h2, h3, h4, h5, h6⟩ := r
  have there : ∀ a ∈ as ++ bs, ∃ ws, H a = some ws ∧ ∀ xs, ws ≠ .tup xs := fun a ha => (List.mem_append.mp ha).elim (Owns.there _ h1 a) (Cells.there _ h2 a)
  have m : Mono (inX Y (as ++ bs)) H (inX Y (as ++ bs)) (upd H l (.dK [])) := mono_new hl fun a ha => .inr ha
  have st : ∀ a ∈ as ++ bs, upd H l (.dK []) a = H a := fun a ha => by
    obtain ⟨ws, q, nt⟩ := there a ha
    rw [upd_ne (ne_of_none q hl)]
  refine ⟨as, bs, ?_, Cells.mono e ⟨m, fun a ha => st a (List.mem_append_right _ ha)⟩ h2, h3, h4, h5.same (same_new hl), h6⟩
  · unfold Owns
    refine ⟨V.ref l, t, [], as, rfl, Own.of ?_, Owns.mono T ⟨m, fun a ha => st a (List.mem_append_left _ ha)⟩ h1, rfl⟩
    unfold Rep
    refine ⟨l, rfl, upd_same, fun z => ?_⟩
    rcases z with z | z
    · obtain ⟨ws, q, nt⟩ := there l z
      rw [hl] at q; cases q
    · obtain ⟨⟨o, q, _⟩, _⟩ := h6.2 l z
      obtain ⟨o', q'⟩ := (h5 l o q).2
      rw [hl] at q'; cases q'
theorem sim_dic {K : PySem.W.Frag} {mg : Str → Option Value} {W : WX} : SimE K mg W tDNewK (mC .dic) := by
  intro Y H0 io T τ e s H Q r p l hl
  exact p (V.ref l) _ (Rel.newDic r hl)
theorem de_dic {X : Cx} {W : WX} {pos : Pos} : DE X W (.Dict [] [] pos) (mC .dic) := ⟨_, pe_dnewK, sim_dic⟩
end Mi

namespace L2
open PySem PySem.Spec PyProof.Rows
def stepP {α : Type} (xs : List α) (lo hi : Option Int) (c : Int) : List α :=
  (List.range (Builtin.Slice.slicePlaces (Builtin.Slice.sliceAdjust lo hi c xs.length).1 (Builtin.Slice.sliceAdjust lo hi c xs.length).2 c)).filterMap fun (m : Nat) => xs[((Builtin.Slice.sliceAdjust lo hi c xs.length).1 + (m : Int) * c).toNat]?
section
open HT
variable {prog : Program} {w : World} {A : Around} {E : Value → Shared → Prop} {s : Shared}
theorem sliceApplied_step {sl : Addr} {vl vu vs : Value} {lo hi : Option Int} {c : Int} {n : Nat} {Q : Int × Int × Nat → Shared → Prop} (hs : s.heap.IsSliceOf sl vl vu vs) (pl : IsPart vl lo) (pu : IsPart vu hi) (ps : IsPart vs (some c)) (h0 : c ≠ 0)
    (h : Q ((Builtin.Slice.sliceAdjust lo hi c n).1, c, Builtin.Slice.slicePlaces (Builtin.Slice.sliceAdjust lo hi c n).1 (Builtin.Slice.sliceAdjust lo hi c n).2 c) s) : wpAny (model prog w) A (Builtin.Slice.sliceApplied (.ref sl) (pure (n : Int))) Q E s := by
  obtain ⟨os, hos, hcs, hds⟩ := id hs
  unfold Builtin.Slice.sliceApplied Builtin.Slice.sliceFields
  refine wpAny_bind (wpAny_bind (wpAny_field hos hds (x := vl) rfl (wpAny_bind (wpAny_field hos hds (x := vu) rfl (wpAny_bind (wpAny_field hos hds (x := vs) rfl (wpAny_pure ?_)))))))
  refine wpAny_bind (slicePart_ ps ?_)
  show wpAny _ _ (if (c == 0) = true then _ else _) _ _ s
  rw [if_neg (by simpa using h0)]
  refine wpAny_bind (slicePart_ pl (wpAny_bind (slicePart_ pu (wpAny_bind (wpAny_pure ?_)))))
  exact wpAny_pure h
theorem getItem_tuple_step {t sl : Addr} {items : Array Value} {vl vu vs : Value} {lo hi : Option Int} {c : Int} {Q : Value → Shared → Prop} (ht : IsTup s.heap t items) (hs : s.heap.IsSliceOf sl vl vu vs) (pl : IsPart vl lo) (pu : IsPart vu hi) (ps : IsPart vs (some c))
    (h0 : c ≠ 0) (h1 : c ≠ 1) (h : Q (.ref s.heap.objs.size) { s with heap := s.heap.push { cls := .type "tuple", data := .seq (stepP items.toList lo hi c).toArray } })
    (hsz : (stepP items.toList lo hi c).length ≤ sizeLine) : wpAny (model prog w) A (getItem (.ref t) (.ref sl)) Q E s := by
  have htake : sizeOk (.seq (stepP items.toList lo hi c).toArray) := by
    show (stepP items.toList lo hi c).toArray.size ≤ sizeLine
    rw [List.size_toArray]
    exact hsz
  obtain ⟨os, hos, hcs, hds⟩ := id hs
  have hTs : s.TypeIs (.ref sl) "slice" := ⟨os, hos, hcs⟩
  unfold getItem
  refine wpAny_holding ?_
  refine wpAny_bind (wpAny_sequenceKey ht.typeIs (by decide) ?_)
  refine wpAny_bind (wpAny_callSpecial?_slot (name := Str.ofString "__getitem__") ht.typeIs PyProof.Rows.slot_tuple_getitem
    (wpAny_call_entry PyProof.Rows.slot_tuple_getitem ht.typeIs entry_tuple_getitem ?_ (args_tuple_getitem _ _)))
  show wpAny _ _ (Builtin.Tuple.tupleItemsOf (.ref t) >>= _) _ _ s
  refine wpAny_bind (tupleItemsOf_ ht ?_)
  refine wpAny_bind (wpAny_typeOf hTs ?_)
  rw [if_pos (by decide)]
  refine wpAny_bind (sliceApplied_step hs pl pu ps h0 ?_)
  have hno : ¬ (((Builtin.Slice.sliceAdjust lo hi c items.size).1 == 0 && c == 1 && Builtin.Slice.slicePlaces (Builtin.Slice.sliceAdjust lo hi c items.size).1 (Builtin.Slice.sliceAdjust lo hi c items.size).2 c == items.size) = true) := by
    intro q
    rw [Bool.and_eq_true, Bool.and_eq_true] at q
    exact h1 (eq_of_beq q.1.2)
  show wpAny _ _ (if ((Builtin.Slice.sliceAdjust lo hi c items.size).1 == 0 && c == 1 && Builtin.Slice.slicePlaces (Builtin.Slice.sliceAdjust lo hi c items.size).1 (Builtin.Slice.sliceAdjust lo hi c items.size).2 c == items.size) = true then _ else _) _ _ s
  rw [if_neg hno]
  have e : ((List.range (Builtin.Slice.slicePlaces (Builtin.Slice.sliceAdjust lo hi c items.size).1 (Builtin.Slice.sliceAdjust lo hi c items.size).2 c)).filterMap fun (m : Nat) => items[((Builtin.Slice.sliceAdjust lo hi c items.size).1 + (m : Int) * c).toNat]?).toArray = (stepP items.toList lo hi c).toArray := by
    unfold stepP
    simp only [Array.length_toList, Array.getElem?_toList]
  rw [e]
  first
    | exact wpAny_bind (m := Builtin.Tuple.tupleExact _) (wpAny_newObj_type (wpAny_pure ⟨_, rfl, wpAny_pure h⟩) htake)
    | exact wpAny_bind (m := Builtin.Tuple.tupleExact _) (wpAny_newObj_type (wpAny_bind (wpAny_pure (wpAny_pure ⟨_, rfl, wpAny_pure h⟩))) htake)
    | exact wpAny_bind (wpAny_bind (m := Builtin.Tuple.tupleExact _) (wpAny_newObj_type (wpAny_pure (wpAny_pure ⟨_, rfl, wpAny_pure h⟩)) htake))
    | exact wpAny_bind (wpAny_bind (m := Builtin.Tuple.tupleExact _) (wpAny_newObj_type (wpAny_pure ⟨_, rfl, wpAny_pure h⟩) htake))
end
theorem vals_pick {xs : List V} {us : List Value} (r : Vals xs us) (f : Nat → Nat) : ∀ ms : List Nat, Vals (ms.filterMap fun m => xs[f m]?) (ms.filterMap fun m => us[f m]?)
  | [] => .nil
  | m :: ms => by
    have ih := vals_pick r f ms
    have hl := r.length
    rw [List.filterMap_cons, List.filterMap_cons]
    cases c : xs[f m]? with
    | none => rw [Vals.none_of r c]; exact ih
    | some x =>
      obtain ⟨u, e1, e2⟩ := Vals.get r c
      rw [e1]
      exact .cons e2 ih
theorem Vals.step {xs : List V} {us : List Value} (r : Vals xs us) (lo hi : Option Int) (c : Int) : Vals (stepP xs lo hi c) (stepP us lo hi c) := by
  unfold stepP
  rw [← r.length]
  exact vals_pick r (fun m => ((Builtin.Slice.sliceAdjust lo hi c xs.length).1 + (m : Int) * c).toNat) _
def rStT (K : PySem.W.Frag) : V → Option Int → Option Int → Hp → VK → Prop := fun x lo hi H Q => ∃ a xs, x = .ref a ∧ SqT K H a xs ∧ (stepP xs lo hi (-1)).length ≤ sizeLine ∧ ∀ p, H p = none → Q (.ref p) (upd H p (.tup (stepP xs lo hi (-1))))
def tSt (K : PySem.W.Frag) (te : TE) (tl th : TO) : TE := fun σ H Q => te σ H fun x H1 => tl σ H1 fun l H2 => th σ H2 fun u H3 => rStT K x l u H3 Q
theorem pe_step {X : Cx} {e : Expr} {lo hi : Option Expr} {te : TE} {tl th : TO} {k : Nat} {p1 p2 p3 pos : Pos} (he : PE X e te) (hl : PO X lo tl) (hu : PO X hi th) : PE X (.Subscript e (.Slice lo hi (some (.UnaryOp .USub (.Constant (.int 1) k p1) p2)) p3) pos) (tSt X.K te tl th) := by
  refine ⟨fun pins s σ H Q I h => ?_⟩
  refine Subscript_ (thn (he.run pins s σ H _ I h) fun v s1 ⟨x, H1, I1, r1, q1⟩ => ?_)
  have hst : PO X (some (.UnaryOp .USub (.Constant (.int 1) k p1) p2)) (tPart (tUn (rU fun i => .int (-i)) (tC (.int 1)))) := po_some (pe_un un_neg pe_int)
  refine wpAny_Slice (thn (hl.run pins s1 σ H1 _ I1 q1) fun vl s2 ⟨l, H2, I2, pl, q2⟩ => thn (hu.run pins s2 σ H2 _ I2 q2) fun vu s3 ⟨u, H3, I3, pu, q3⟩ => ?_)
  refine thn (hst.run pins s3 σ H3 (fun o H4 => o = some (-1) ∧ H4 = H3) I3 ⟨1, rfl, -1, rfl, rfl, rfl⟩) fun vs s4 ⟨o, H4, I4, ps, eo, e4⟩ => ?_
  subst eo e4
  obtain ⟨a, xs, ex, hx, hz, q⟩ := q3
  subst ex
  cases r1
  have I5 : Inv X pins σ H4 { s4 with heap := s4.heap.push { cls := .type "slice", data := .fields #[vl, vu, vs] } } := I4.kept (t' := s4.toks) fun b ob q => Heap.get?_push_of_some _ q
  obtain ⟨its, r, ht, _⟩ := I5.tuple hx
  have rs := r.step l u (-1)
  show wpAny (model X.prog X.w) X.A (subscriptTail e (.Slice lo hi (some (.UnaryOp .USub (.Constant (.int 1) k p1) p2)) p3) (.ref a) (.ref s4.heap.objs.size)) (EP X pins σ Q) X.xe { s4 with heap := s4.heap.push { cls := .type "slice", data := .fields #[vl, vu, vs] } }
  refine tail_any (ops := [.ref a, .ref s4.heap.objs.size]) ht.typeIs (PyProof.Rows.slot_tuple_getitem.lookup) ?_ (by with_unfolding_all rfl)
  refine getItem_tuple_step ht (Heap.IsSliceOf.new _ vl vu vs) pl pu ps (by decide) (by decide) ?_ (by rw [List.toList_toArray, ← rs.length]; exact hz)
  rw [List.toList_toArray]
  refine ⟨.ref _, _, I5.laid (t' := s4.toks) (o := .tup (stepP xs l u (-1))) (fun b ob q => Heap.get?_push_of_some _ q) (Nat.le_refl _) ?_, rfl, q _ (I5.hok.fresh (Nat.le_refl _))⟩
  exact ⟨hz, _, rs, IsTup.new _ _⟩
end L2
namespace Mi
open PySem PySem.Spec PyProof.Rows L2
variable [TabsC]
section
variable {K : PySem.W.Frag} {mg : Str → Option Value} {W : WX} {P : Addr → Prop} {H : Hp}
theorem Reps.pick {ds : List D} {vs : List V} (r : Reps K P H ds vs) (f : Nat → Nat) : ∀ ms : List Nat, Reps K P H (ms.filterMap fun m => ds[f m]?) (ms.filterMap fun m => vs[f m]?)
  | [] => by unfold Reps; rfl
  | m :: ms => by
    have ih := Reps.pick r f ms
    rw [List.filterMap_cons, List.filterMap_cons]
    cases c : ds[f m]? with
    | none =>
      have c2 : vs[f m]? = none := by
        rw [List.getElem?_eq_none_iff] at c ⊢
        rw [r.len]; exact c
      rw [c2]; exact ih
    | some d =>
      have h1 : f m < ds.length := (List.getElem?_eq_some_iff.mp c).1
      have h2 : f m < vs.length := by rw [r.len]; exact h1
      rw [List.getElem?_eq_getElem h2]
      have ra : ∀ (ds : List D) (vs : List V) (i : Nat) (d : D) (h : i < vs.length), Reps K P H ds vs → ds[i]? = some d → Rep K P H d vs[i] := fun ds => by
        induction ds with
        | nil => intro vs i d h r e; simp at e
        | cons x xs ihx =>
          intro vs i d h r e
          unfold Reps at r
          obtain ⟨v, us, rfl, r1, r2⟩ := r
          cases i with
          | zero => simp at e; subst e; exact r1
          | succ i => exact ihx us i d (by simpa using h) r2 (by simpa using e)
      show Reps K P H (d :: _) (vs[f m] :: _)
      unfold Reps
      exact ⟨_, _, rfl, ra ds vs (f m) d h2 r c, ih⟩
theorem Reps.stp {ds : List D} {vs : List V} (lo hi : Option Int) (c : Int) (r : Reps K P H ds vs) : Reps K P H (stepP ds lo hi c) (stepP vs lo hi c) := by
  unfold stepP
  rw [r.len]
  exact Reps.pick r (fun m => ((Builtin.Slice.sliceAdjust lo hi c ds.length).1 + (m : Int) * c).toNat) _
def dSt : D → Option Int → Option Int → Option D
  | .tup ds, lo, hi => if (stepP ds lo hi (-1)).length ≤ sizeLine then some (.tup (stepP ds lo hi (-1))) else none
  | _, _, _ => none
theorem ok_st {Y H0 io T τ e s H a va lo hi d} {Q : VK} (hf : dSt a lo hi = some d) (r : Rel K Y H0 io (a :: T) (va :: τ) e s H) (q : ∀ v H', Rel K Y H0 io (d :: T) (v :: τ) e s H' → Q v H') : rStT K va lo hi H Q := by
  cases a <;> simp only [dSt, reduceCtorEq] at hf
  rename_i ds
  by_cases c : (stepP ds lo hi (-1)).length ≤ sizeLine
  · rw [if_pos c] at hf
    cases hf
    obtain ⟨P, as, nd, o, g⟩ := r.swap1
    obtain ⟨p1, v1, rfl, t1, r1⟩ := o.tup
    have rs := r1.stp lo hi (-1)
    refine ⟨p1, v1, rfl, t1.sq, by rw [rs.len]; exact c, fun p hp => ?_⟩
    have hs : Same H (upd H p (.tup (stepP v1 lo hi (-1)))) := same_new hp
    refine q _ _ (g _ (.tup (stepP ds lo hi (-1))) _ [] hs List.nodup_nil (fun _ z => nomatch z) fun P' hP hT _ => Own.of ?_)
    have m := swap_plain (as := []) hs hP
    unfold Rep
    exact ⟨p, _, rfl, .inl (.inl ⟨upd_same, fun z => hT p _ z upd_same⟩), Reps.mono m _ rs⟩
  · rw [if_neg c] at hf; cases hf
def mSt (ma : ME) (ml mh : MO2) : ME := fun e => (ma e).bind fun p => (ml p.2).bind fun q => (mh q.2).bind fun r => Rs.of ((dSt p.1 q.1 r.1).map fun d => (d, r.2))
theorem sim_st {te : TE} {tl th : TO} {ma : ME} {ml mh : MO2} (ha : SimE K mg W te ma) (hl : SimO K mg W tl ml) (hh : SimO K mg W th mh) : SimE K mg W (tSt K te tl th) (mSt ma ml mh) := by
  intro Y H0 io T τ e s H Q r p
  refine ha.then r (P := PostE K mg W Y H0 io T τ s Q) p id postE_exc fun d e1 p v H1 r1 => ?_
  refine hl Y H0 io _ _ e1 s H1 _ r1 ?_
  simp only at p
  cases c1 : ml e1 with
  | err => rw [c1] at p; exact False.elim p
  | exc c fs e' => rw [c1] at p; exact fun cls dd H' x rl => p cls dd H' x rl.pop
  | ok z =>
    obtain ⟨lo, e2⟩ := z
    rw [c1] at p
    intro H2 r2
    refine hh Y H0 io _ _ e2 s H2 _ r2 ?_
    simp only [Rs.bind] at p
    cases c2 : mh e2 with
    | err => rw [c2] at p; exact False.elim p
    | exc c fs e' => rw [c2] at p; exact fun cls dd H' x rl => p cls dd H' x rl.pop
    | ok z =>
      obtain ⟨hi, e3⟩ := z
      rw [c2] at p
      intro H3 r3
      simp only at p
      cases c3 : dSt d lo hi with
      | none => rw [c3] at p; exact False.elim p
      | some x => rw [c3] at p; exact ok_st c3 r3 p
end
theorem de_st {X : Cx} {W : WX} {pos p1 p2 p3 : Pos} {k : Nat} {a : Expr} {lo hi : Option Expr} {ma : ME} {ml mh : MO2} (ha : DE X W a ma) (hl : DO X W lo ml) (hh : DO X W hi mh) : DE X W (.Subscript a (.Slice lo hi (some (.UnaryOp .USub (.Constant (.int 1) k p1) p2)) p3) pos) (mSt ma ml mh) := by
  obtain ⟨t, p, s⟩ := ha
  obtain ⟨tl, pl, sl⟩ := hl
  obtain ⟨th, ph, sh⟩ := hh
  exact ⟨_, pe_step p pl ph, sim_st s sl sh⟩
section
variable {e : Env} {d : D} {ma : ME} {ml mh : MO2} {lo hi : Option Int} {ds : List D}
def kSt3 (d : D) (lo : Option Int) : Rs (Option Int × Env) → Rs (D × Env)
  | .ok p => kof (dSt d lo p.1) p.2
  | .exc c fs e => .exc c fs e
  | .err => .err
def kSt2 (d : D) (mh : MO2) : Rs (Option Int × Env) → Rs (D × Env)
  | .ok p => kSt3 d p.1 (mh p.2)
  | .exc c fs e => .exc c fs e
  | .err => .err
def kSt1 (ml mh : MO2) : Rs (D × Env) → Rs (D × Env)
  | .ok p => kSt2 p.1 mh (ml p.2)
  | .exc c fs e => .exc c fs e
  | .err => .err
theorem mSt_ap : mSt ma ml mh e = kSt1 ml mh (ma e) := by
  unfold mSt kSt1 Rs.bind
  cases ma e with
  | ok p =>
    simp only [kSt2]
    cases ml p.2 with
    | ok q =>
      simp only [kSt3]
      cases mh q.2 with
      | ok r => simp only; cases dSt p.1 q.1 r.1 <;> rfl
      | exc _ _ _ => rfl
      | err => rfl
    | exc _ _ _ => rfl
    | err => rfl
  | exc _ _ _ => rfl
  | err => rfl
theorem kSt1_ok : kSt1 ml mh (.ok (d, e)) = kSt2 d mh (ml e) := rfl
theorem kSt2_ok : kSt2 d mh (.ok (lo, e)) = kSt3 d lo (mh e) := rfl
theorem kSt3_ok : kSt3 d lo (.ok (hi, e)) = kof (dSt d lo hi) e := rfl
end
end Mi

namespace Mi
open PySem PySem.Spec PyProof.Rows L2
variable [TabsC]
def frzE (e : Env) : Env := e.map fun o => o.map D.frz
def atomD : D → Bool
  | .non => true | .bl _ => true | .int _ => true | .str _ => true
  | _ => false
def mBor (m : ME) : ME := fun e => match m (frzE e) with
  | .ok (d, _) => if atomD d = true then .ok (d, e) else .err
  | .exc c fs _ => .exc c fs e
  | .err => .err
section
variable {K : PySem.W.Frag} {mg : Str → Option Value} {W : WX} {P : Addr → Prop} {H : Hp}
theorem Cells.frzE (hp : ∀ a, tab a → P a) : ∀ (e : Env) {s : St} {bs : List Addr}, Cells K P H e s bs → (∀ a ∈ bs, ¬ tab a) → Cells K (inX tab ([] ++ [])) H (frzE e) s []
  | [], s, bs, h, hb => by unfold Cells at h; unfold Mi.frzE Cells; exact ⟨h.1, rfl⟩
  | none :: e, s, bs, h, hb => by
    unfold Cells at h
    obtain ⟨v, r, e1, h2⟩ := h
    show Cells K _ H (none :: Mi.frzE e) s []
    unfold Cells
    exact ⟨v, r, e1, Cells.frzE hp e h2 hb⟩
  | some d :: e, s, bs, h, hb => by
    unfold Cells at h
    obtain ⟨v, r, b1, b2, e1, o, h2, eb⟩ := h
    subst eb
    show Cells K _ H (some d.frz :: Mi.frzE e) s []
    unfold Cells
    refine ⟨v, r, [], [], e1, Own.of ?_, Cells.frzE hp e h2 (fun a ha => hb a (List.mem_append_right _ ha)), rfl⟩
    exact Own.frz d ⟨fun a o e n => ⟨e, fun z => z.elim (fun z => nomatch z) fun t => n (hp a t)⟩, fun a o u e => e⟩ (fun a ha z => z.elim (fun z => nomatch z) (hb a (List.mem_append_left _ ha))) o
theorem Rel.still {Y : Addr → Prop} {H0 : Hp} {io : List (Nat × Addr)} {T : List D} {t : List V} {e : Env} {s : St} (r : Rel K Y H0 io T t e s H) : Rel K tab H [] [] [] (frzE e) s H := by
  obtain ⟨as, bs, h1, h2, h3, h4, h5, h6⟩ := r
  exact ⟨[], [], by unfold Owns; exact ⟨rfl, rfl⟩, Cells.frzE (fun a t => .inr (h5.tx a t)) e h2 (fun a ha t => noX h4 h6.2 a (List.mem_append_right _ ha) (h5.tx a t)), by simp, (fun _ z => nomatch z), Kept.refl h5.tabs fun _ z => z, (fun _ z => nomatch z), fun a ha => ⟨let ⟨ps, q⟩ := tab_at h5.tabs ha; ⟨_, q, fun _ z => nomatch z⟩, by simp⟩⟩
theorem sim_bor {te : TE} {m : ME} (h : SimE K mg W te m) : SimE K mg W te (mBor m) := by
  intro Y H0 io T τ e s H Q r p
  refine h tab H [] [] [] (frzE e) s H Q r.still ?_
  unfold mBor at p
  cases c : m (frzE e) with
  | err => rw [c] at p; exact p
  | exc c2 fs e' =>
    rw [c] at p
    intro cls dd H' x r2
    have hs := (Rel.ret r2.non).1
    exact p cls dd H' x (r.sameT hs)
  | ok z =>
    obtain ⟨d, e'⟩ := z
    rw [c] at p
    simp only at p
    intro v H' r2
    obtain ⟨hs, as, _, _, o⟩ := Rel.ret r2
    have r3 := r.sameT hs
    cases d <;> simp only [atomD, if_true, Bool.false_eq_true, if_false] at p
    · obtain rfl := o.non; exact p _ H' r3.non
    · obtain rfl := o.bl; exact p _ H' r3.bl
    · obtain rfl := o.int; exact p _ H' r3.int
    · obtain rfl := o.str; exact p _ H' r3.str
    all_goals exact False.elim p
end
theorem de_bor {X : Cx} {W : WX} {a : Expr} {m : ME} (h : DE X W a m) : DE X W a (mBor m) := by
  obtain ⟨t, p, s⟩ := h
  exact ⟨t, p, sim_bor s⟩
section
variable {e e' : Env} {d : D} {m : ME} {c : Str} {fs : List (Str × Int)} {b : Bool} {i : Int} {x : Str} {o : Option D}
def kBo (e : Env) : Rs (D × Env) → Rs (D × Env)
  | .ok (d, _) => if atomD d = true then .ok (d, e) else .err
  | .exc c fs _ => .exc c fs e
  | .err => .err
theorem mBor_ap : mBor m e = kBo e (m (frzE e)) := by
  unfold mBor kBo
  cases m (frzE e) with
  | ok p => rfl
  | exc _ _ _ => rfl
  | err => rfl
theorem frzE_nil : frzE [] = [] := rfl
theorem frzE_none : frzE (none :: e) = none :: frzE e := rfl
theorem frzE_some : frzE (some d :: e) = some d.frz :: frzE e := rfl
theorem frzE_any : frzE (o :: e) = o.map D.frz :: frzE e := rfl
theorem kBo_bl : kBo e (.ok (.bl b, e')) = .ok (.bl b, e) := rfl
theorem kBo_int : kBo e (.ok (.int i, e')) = .ok (.int i, e) := rfl
theorem kBo_str : kBo e (.ok (.str x, e')) = .ok (.str x, e) := rfl
theorem kBo_non : kBo e (.ok (.non, e')) = .ok (.non, e) := rfl
theorem kBo_exc : kBo e (.exc c fs e') = .exc c fs e := rfl
end
end Mi

namespace Mi
open PySem PySem.Spec PyProof.Rows L2
variable [TabsC]
end Mi

namespace SrtO
open PySem PyProof.Rows Srt
abbrev cH (h : Heap) (us : List Value) : Heap := (h.push (seqObj "list" #[] 0)).update h.objs.size (Obj.mapSeq (· ++ us.toArray))
section
variable {prog : Program} {w : World} {A : Around} {E : Value → Shared → Prop} {s : Shared}
theorem collect_tupM {t : Addr} {us : List Value} {Q : List Value → Shared → Prop} (ht : s.heap.IsTuple t us.toArray) (hz : us.length ≤ sizeLine) (h : Q us { s with heap := cH s.heap us }) : wpAny (model prog w) A (collect (.ref t)) Q E s := by
  obtain ⟨ob, hob, hcl, ne, hda⟩ := id ht
  have hob' : (s.heap.push (seqObj "list" #[] 0)).get? t = some ob := Heap.get?_push_of_some _ hob
  have hnew : (s.heap.push (seqObj "list" #[] 0)).get? s.heap.objs.size = some (seqObj "list" #[] 0) := Heap.get?_push_size _ rfl
  unfold collect
  refine wpAny_bind (wpAny_runValue (codeAny_builtin entry_proto_collect' ?_)); show wpAny _ _ (do again (.builtin "list.__iadd__" ⟨[← newList [], .ref t], []⟩)) _ _ s
  refine wpAny_bind (wpAny_newList (wpAny_pure ⟨Code.quiet_builtin _ (by decide +kernel), codeAny_builtin entry_list_iadd' ?_⟩)); show wpAny _ _ (Builtin.List.listExtendWith (.ref s.heap.objs.size) (.ref t) (.ref s.heap.objs.size)) _ _ { s with heap := s.heap.push (seqObj "list" #[] 0) }
  unfold Builtin.List.listExtendWith
  refine wpAny_bind (wpAny_typeOf (T := "tuple") ⟨ob, hob', hcl⟩ ?_)
  rw [if_pos (by have q : (Value.type "tuple" == Value.type "tuple") = true := by rfl
                 rw [q]; simp)]
  refine wpAny_bind (listItems_at hob' hda (wpAny_bind (listItems_at (xs := #[]) (n := 0) hnew rfl ?_)))
  rw [if_neg (by simp)]
  refine wpAny_bind (listUpdate_at (xs := #[]) (n := 0) hnew rfl ?_ (Nat.zero_le _) (by show (#[] ++ us.toArray).size ≤ sizeLine + 1; simp only [Array.size_append, List.size_toArray, List.length_nil]; omega))
  refine wpAny_pure ?_
  show wpAny (model prog w) A (do let ob ← load s.heap.objs.size; match ob.data with | .seq xs _ => pure xs.toList | _ => unsupported "internal:collect") Q E { s with heap := cH s.heap us }
  refine wpAny_bind (wpAny_load (get?_update_seq hnew _) ?_)
  show wpAny _ _ (pure ((#[] : Array Value) ++ us.toArray).toList) Q E _
  rw [show ((#[] : Array Value) ++ us.toArray).toList = us by simp]
  exact wpAny_pure h
theorem sorted_tupM {t : Addr} {us : List Value} {lv : Value → Value → Bool} {Q : Value → Shared → Prop} (O : Swo lv) (ht : s.heap.IsTuple t us.toArray) (hz : us.length ≤ sizeLine)
    (hS : 2 ≤ us.length → ∀ (g : Heap) (a : Addr), g.get? a = some (seqObj "list" us.toArray 0) → (∀ b ob, s.heap.get? b = some ob → b ≠ a ∧ g.get? b = some ob) → SortableO prog w A.in1.in1 { s with heap := g } a us lv)
    (h : ∀ out : List Value, Srtd lv out → Stb lv out us → Q (.ref (s.heap.objs.size + 1)) { s with heap := sortedAll s.heap us out.toArray }) : wpAny (model prog w) A (call (.builtin "sorted") [.ref t]) Q E s := by
  refine Calls.call_function_entry kind_sorted plain_sorted entry_sorted (args_sorted1 _) ?_
  unfold Builtin.«sorted»
  refine wpAny_bind (m := checkCount "sorted" 1 1 _) (wpAny_pure (wpAny_bind (collect_tupM ht hz (wpAny_bind (wpAny_newList ?_ hz)))))
  have size1 : (cH s.heap us).objs.size = s.heap.objs.size + 1 := by rw [Heap.size_update, size_push']
  have there : ((cH s.heap us).push (seqObj "list" us.toArray 0)).get? (s.heap.objs.size + 1) = some (seqObj "list" us.toArray 0) := by
    rw [← size1]
    exact Heap.get?_push_size _ rfl
  have old : ∀ b ob, s.heap.get? b = some ob → b ≠ s.heap.objs.size + 1 ∧ ((cH s.heap us).push (seqObj "list" us.toArray 0)).get? b = some ob := fun b ob q => by
    have lt : b < s.heap.objs.size := Heap.lt_size q
    refine ⟨Nat.ne_of_lt (Nat.lt_succ_of_lt lt), Heap.get?_push_of_some _ (?_)⟩
    rw [Heap.get?_update_ne _ _ _ _ (Nat.ne_of_lt lt)]
    exact Heap.get?_push_of_some _ q
  show wpAny _ _ _ _ _ { s with heap := (cH s.heap us).push (seqObj "list" us.toArray 0) }
  rw [size1]
  refine wpAny_bind (wpAny_holding (wpAny_call_entry slot_list_sort ⟨_, there, rfl⟩ entry_list_sort (list_sort_ord O there hz (fun two => hS two _ _ there old) fun out h1 h2 => ⟨_, rfl, wpAny_pure ⟨_, rfl, h out h1 h2⟩⟩) (args_list_sort _)))
end
end SrtO
namespace L2
open PySem PySem.Spec PyProof.Rows
def rSortedIT (K : PySem.W.Frag) : List V → Hp → VK → Prop := fun vs H Q => ∃ (a : Addr) (ns : List Int), vs = [V.ref a] ∧ SqT K H a (ns.map V.int) ∧ ∀ (ms : List Int) (p : Addr), ms.Perm ns → ms.Pairwise (· ≤ ·) → H p = none → Q (.ref p) (upd H p (.lst (ms.map V.int)))
theorem cr_sortedIT {X : Cx} : CallR X (.builtin "sorted") (rSortedIT X.K) := by
  intro pins s σ H vs us Q I r ⟨a, ns, ev, hs, q⟩
  subst ev
  obtain ⟨its, rv, pl, hz⟩ := I.tuple hs
  rw [Vals.ref1 r]
  have hi := rv.ints
  have pt : s.heap.IsTuple a its.toArray := by
    obtain ⟨o, h1, h2, n, h3⟩ := pl
    exact ⟨o, h1, h2, n, h3⟩
  refine SrtO.sorted_tupM SrtO.swo_int pt (by rw [← rv.length]; exact hz) (fun two g b _ _ => SrtO.ints_sortable hi two) fun out h1 h2 => ?_
  obtain ⟨k1, k2, k3⟩ := SrtO.ints_out hi h1 h2
  obtain ⟨ep, he⟩ := PyProof.Rows.sortedAll_at s.heap its out.toArray
  have len : ((out.map SrtO.iv).map V.int).length ≤ sizeLine := by
    rw [List.length_map, k2.length_eq, ← List.length_map (f := V.int)]
    exact hz
  exact ⟨.ref _, upd H (s.heap.objs.size + 1) (.lst ((out.map SrtO.iv).map V.int)), I.laid (t' := s.toks) (fun _ _ => PyProof.Rows.sortedAll_old) (Nat.le_succ _) ⟨len, out, ep, vals_of_ints k1, he⟩, rfl, q _ _ k2 k3 (I.hok.fresh (Nat.le_succ _))⟩
end L2
namespace Mi
open PySem PySem.Spec PyProof.Rows L2
variable [TabsC]
def insZ (x : Int) : List Int → List Int
  | [] => [x]
  | y :: ys => if x ≤ y then x :: y :: ys else y :: insZ x ys
def sortZ : List Int → List Int
  | [] => []
  | x :: xs => insZ x (sortZ xs)
theorem insZ_perm (x : Int) : ∀ ys : List Int, (insZ x ys).Perm (x :: ys)
  | [] => List.Perm.refl _
  | y :: ys => by
    unfold insZ
    by_cases c : x ≤ y
    · rw [if_pos c]
    · rw [if_neg c]
      exact ((insZ_perm x ys).cons y).trans (List.Perm.swap x y ys)
theorem sortZ_perm : ∀ xs : List Int, (sortZ xs).Perm xs
  | [] => List.Perm.refl _
  | x :: xs => (insZ_perm x _).trans ((sortZ_perm xs).cons x)
theorem insZ_srt (x : Int) : ∀ ys : List Int, ys.Pairwise (· ≤ ·) → (insZ x ys).Pairwise (· ≤ ·)
  | [], _ => List.pairwise_singleton _ _
  | y :: ys, h => by
    rw [List.pairwise_cons] at h
    unfold insZ
    by_cases c : x ≤ y
    · rw [if_pos c]
      refine List.pairwise_cons.mpr ⟨fun z hz => ?_, List.pairwise_cons.mpr h⟩
      rcases List.mem_cons.mp hz with rfl | hz
      · exact c
      · exact Int.le_trans c (h.1 z hz)
    · rw [if_neg c]
      refine List.pairwise_cons.mpr ⟨fun z hz => ?_, insZ_srt x ys h.2⟩
      rcases List.mem_cons.mp ((insZ_perm x ys).mem_iff.mp hz) with rfl | hz
      · omega
      · exact h.1 z hz
theorem sortZ_srt : ∀ xs : List Int, (sortZ xs).Pairwise (· ≤ ·)
  | [] => List.Pairwise.nil
  | x :: xs => insZ_srt x _ (sortZ_srt xs)
theorem sortZ_uniq {ms ns : List Int} (h : ms.Perm ns) (hs : ms.Pairwise (· ≤ ·)) : ms = sortZ ns :=
  List.Perm.eq_of_pairwise (le := fun a b : Int => a ≤ b) (fun a b _ _ h1 h2 => Int.le_antisymm h1 h2) hs (sortZ_srt ns) (h.trans (sortZ_perm ns).symm)
def dSortI (a : D) : Option D := (items a).bind fun ds => (intsD ds).map fun ns => .own ((sortZ ns).map D.int)
theorem ok_sortI {K : PySem.W.Frag} : OkL K (fun xs H Q => rSortedI K xs H Q ∨ rSortedIT K xs H Q) (fn1 dSortI) := by
  refine okL1 dSortI (fn1_of _) fun Y H0 io T τ e s H a va d Q hf r q => ?_
  obtain ⟨ds, h1, h2⟩ := Option.bind_eq_some_iff.mp (show (items a).bind (fun ds => (intsD ds).map fun ns => D.own ((sortZ ns).map D.int)) = some d from hf)
  obtain ⟨ns, h3, rfl⟩ := Option.map_eq_some_iff.mp h2
  obtain ⟨P, as, nd, o, g⟩ := r.swap1
  obtain ⟨p1, v1, a1, rfl, t1, w1, s1, n1⟩ := o.seqA h1
  obtain rfl := ints_eq h3
  have ev := owns_ints w1
  subst ev
  have fin : ∀ (ms : List Int) (p : Addr), ms.Perm ns → ms.Pairwise (· ≤ ·) → H p = none → Q (.ref p) (upd H p (.lst (ms.map V.int))) := fun ms p hp hs hl => by
    obtain rfl := sortZ_uniq hp hs
    have hh : Same H (upd H p (.lst ((sortZ ns).map V.int))) := same_new hl
    refine q _ _ (g _ (.own ((sortZ ns).map D.int)) _ [p] hh (by simp) (fun z hz => ?_) fun P' hP hT _ => ?_)
    · obtain rfl := List.mem_singleton.mp hz
      exact ⟨.inr hl, _, upd_same, fun _ z => nomatch z⟩
    · unfold Own
      exact ⟨p, _, [], rfl, upd_same, Owns.of (reps_ints _), rfl⟩
  rcases t1 with t1 | t1
  · exact .inl ⟨p1, ns, rfl, t1, fin⟩
  · exact .inr ⟨p1, ns, rfl, t1, fin⟩
end Mi

namespace Mi
open PySem PySem.Spec PyProof.Rows L2
variable [TabsC]
end Mi

namespace Mi
open PySem PySem.Spec PyProof.Rows L2
variable [TabsC]
end Mi

namespace Mi
open PySem PySem.Spec PyProof.Rows L2
variable [TabsC]
open PySem.W (EachIs dataLe AllAlike Sortable keyToks keyToksAll alike alikeAll)
theorem each_zip {xs : List V} {ds : List PyData} {us : List Value} (hd : ds.length = xs.length) (r : Vals xs us) : EachIs (fun u (b : V × PyData) => RelV b.1 u) us (xs.zip ds) := by
  induction r generalizing ds with
  | nil => exact .nil
  | cons rv _ ih =>
    cases ds with
    | nil => cases hd
    | cons d ds => exact .cons rv (ih (Nat.succ.inj hd))
theorem vals_each {us : List Value} {bs : List (V × PyData)} (h : EachIs (fun u (b : V × PyData) => RelV b.1 u) us bs) : Vals (bs.map (·.1)) us := by
  induction h with
  | nil => exact .nil
  | cons h1 _ ih => exact .cons h1 ih
theorem dpAll_len {K : PySem.W.Frag} {H : Hp} : ∀ {xs : List V} {ds : List PyData}, DpAll K H xs ds → ds.length = xs.length
  | _, _, .nil => rfl
  | _, _, .cons _ t => by rw [List.length_cons, List.length_cons, dpAll_len t]
theorem each_reads {X : Cx} {pins : List (Addr × Obj)} {σ : St} {H : Hp} {s : Shared} (I : Inv X pins σ H s) : ∀ {xs : List V} {ds : List PyData} {us : List Value}, DpAll X.K H xs ds → Vals xs us → EachIs (fun u (b : V × PyData) => ∃ as, Reads s.heap u b.2 as) us (xs.zip ds)
  | _, _, _, .nil, .nil => .nil
  | _, _, _, .cons h t, .cons r rs => .cons (h.reads I _ _ _ r) (each_reads I t rs)
theorem zip_snd {xs : List V} {ds : List PyData} (hd : ds.length = xs.length) : (xs.zip ds).map Prod.snd = ds := by
  induction xs generalizing ds with
  | nil => cases ds with
    | nil => rfl
    | cons _ _ => cases hd
  | cons x xs ih => cases ds with
    | nil => cases hd
    | cons d ds => rw [List.zip_cons_cons, List.map_cons, ih (Nat.succ.inj hd)]
def rSortD (K : PySem.W.Frag) : List V → Hp → VK → Prop := fun vs H Q => ∃ (a : Addr) (xs : List V) (ds : List PyData), vs = [V.ref a] ∧ SqL K H a xs ∧ DpAll K H xs ds ∧ AllAlike ds ∧ Sortable ds ∧ (∀ d ∈ ds, d.depth ≤ 8) ∧
  ∀ p, H p = none → Q (.ref p) (upd H p (.lst (((xs.zip ds).mergeSort (dataLe false Prod.snd)).map (·.1))))
theorem cr_sortD {X : Cx} (hu : X.A.units + 64 < cLine) : CallR X (.builtin "sorted") (rSortD X.K) := by
  intro pins s σ H vs us Q I r h
  obtain ⟨a, xs, ds, rfl, hs, hd, hal, hso, hde, q⟩ := h
  obtain ⟨its, rv, hl, hz⟩ := I.list hs
  obtain ⟨u, rfl, ru⟩ := vals1 r
  obtain rfl : u = Value.ref a := ru
  have dl := dpAll_len hd
  have zs := zip_snd dl
  have zl : (xs.zip ds).length = xs.length := by rw [List.length_zip, dl, Nat.min_self]
  refine PySem.W.sorted_data (bs := xs.zip ds) (enc := Prod.snd) hl.isList (each_zip dl rv) (each_reads I hd rv) (by rw [zs]; exact hal) (by rw [zs]; exact hso) (by rw [zl]; exact hz) (fun b hb => ?_) fun out ho he => ?_
  · have := hde b.2 (by rw [← zs]; exact List.mem_map.mpr ⟨b, hb, rfl⟩)
    show X.A.units + 2 + b.2.depth < cLine
    omega
  · have hd' : s.heap.objs.size ≤ s.heap.objs.size + 1 := Nat.le_succ _
    obtain ⟨n, hn⟩ := sortedAll_at s.heap its out.toArray
    refine ⟨.ref (s.heap.objs.size + 1), upd H (s.heap.objs.size + 1) (.lst (((xs.zip ds).mergeSort (dataLe false Prod.snd)).map (·.1))), I.laid (t' := s.toks) (fun b o e => sortedAll_old e) hd' ⟨?_, out, n, vals_each he, hn⟩, rfl, q _ (I.hok.fresh hd')⟩
    rw [List.length_map, List.length_mergeSort, zl]
    exact hz
def lexZ : List Int → List Int → Bool
  | [], _ => true
  | _ :: _, [] => false
  | x :: xs, y :: ys => decide (x < y) || (decide (x = y) && lexZ xs ys)
theorem lexZ_total : ∀ a b : List Int, lexZ a b = true ∨ lexZ b a = true
  | [], _ => .inl rfl
  | _ :: _, [] => .inr rfl
  | x :: xs, y :: ys => by
    show (decide (x < y) || (decide (x = y) && lexZ xs ys)) = true ∨ (decide (y < x) || (decide (y = x) && lexZ ys xs)) = true
    rcases Int.lt_trichotomy x y with h | h | h
    · left; simp [h]
    · subst h
      rcases lexZ_total xs ys with q | q
      · left; simp [q]
      · right; simp [q]
    · right; simp [h]
theorem lexZ_trans : ∀ a b c : List Int, lexZ a b = true → lexZ b c = true → lexZ a c = true
  | [], _, _, _, _ => rfl
  | _ :: _, [], _, h, _ => nomatch h
  | _ :: _, _ :: _, [], _, h => nomatch h
  | x :: xs, y :: ys, z :: zs, h1, h2 => by
    have h1 : (decide (x < y) || (decide (x = y) && lexZ xs ys)) = true := h1
    have h2 : (decide (y < z) || (decide (y = z) && lexZ ys zs)) = true := h2
    show (decide (x < z) || (decide (x = z) && lexZ xs zs)) = true
    simp only [Bool.or_eq_true, Bool.and_eq_true, decide_eq_true_eq] at h1 h2 ⊢
    rcases h1 with h1 | ⟨h1, q1⟩ <;> rcases h2 with h2 | ⟨h2, q2⟩
    · left; omega
    · left; omega
    · left; omega
    · right; exact ⟨by omega, lexZ_trans xs ys zs q1 q2⟩
theorem lexZ_anti : ∀ a b : List Int, lexZ a b = true → lexZ b a = true → a = b
  | [], [], _, _ => rfl
  | [], _ :: _, _, h => nomatch h
  | _ :: _, [], h, _ => nomatch h
  | x :: xs, y :: ys, h1, h2 => by
    have h1 : (decide (x < y) || (decide (x = y) && lexZ xs ys)) = true := h1
    have h2 : (decide (y < x) || (decide (y = x) && lexZ ys xs)) = true := h2
    simp only [Bool.or_eq_true, Bool.and_eq_true, decide_eq_true_eq] at h1 h2
    rcases h1 with h1 | ⟨h1, q1⟩ <;> rcases h2 with h2 | ⟨h2, q2⟩
    · omega
    · omega
    · omega
    · rw [h1, lexZ_anti xs ys q1 q2]
def insT (x : List Int) : List (List Int) → List (List Int)
  | [] => [x]
  | y :: ys => if lexZ x y = true then x :: y :: ys else y :: insT x ys
def sortT : List (List Int) → List (List Int)
  | [] => []
  | x :: xs => insT x (sortT xs)
theorem insT_perm (x : List Int) : ∀ ys, (insT x ys).Perm (x :: ys)
  | [] => List.Perm.refl _
  | y :: ys => by
    unfold insT
    split
    · exact List.Perm.refl _
    · exact ((insT_perm x ys).cons y).trans (List.Perm.swap x y ys)
theorem sortT_perm : ∀ xs, (sortT xs).Perm xs
  | [] => List.Perm.refl _
  | x :: xs => (insT_perm x (sortT xs)).trans ((sortT_perm xs).cons x)
theorem insT_srt (x : List Int) : ∀ ys, ys.Pairwise (fun a b => lexZ a b = true) → (insT x ys).Pairwise (fun a b => lexZ a b = true)
  | [], _ => List.pairwise_singleton _ _
  | y :: ys, h => by
    obtain ⟨h1, h2⟩ := List.pairwise_cons.mp h
    unfold insT
    by_cases c : lexZ x y = true
    · rw [if_pos c]
      exact List.pairwise_cons.mpr ⟨fun z hz => (List.mem_cons.mp hz).elim (fun e => e ▸ c) fun hz => lexZ_trans _ _ _ c (h1 z hz), h⟩
    · rw [if_neg c]
      refine List.pairwise_cons.mpr ⟨fun z hz => ?_, insT_srt x ys h2⟩
      rcases List.mem_cons.mp ((insT_perm x ys).mem_iff.mp hz) with rfl | hz
      · exact (lexZ_total z y).resolve_left c
      · exact h1 z hz
theorem sortT_srt : ∀ xs, (sortT xs).Pairwise (fun a b => lexZ a b = true)
  | [] => List.Pairwise.nil
  | x :: xs => insT_srt x _ (sortT_srt xs)
theorem sortT_uniq {ms ns : List (List Int)} (h : ms.Perm ns) (hs : ms.Pairwise (fun a b => lexZ a b = true)) : ms = sortT ns :=
  List.Perm.eq_of_pairwise (le := fun a b => lexZ a b = true) (fun a b _ _ h1 h2 => lexZ_anti a b h1 h2) hs (sortT_srt ns) (h.trans (sortT_perm ns).symm)
def pyT (z : List Int) : PyData := .tuple (z.map PyData.int)
theorem keys_cons (x : Int) (xs : List Int) : keyToks (pyT (x :: xs)) = .inl 1 :: .inl x :: keyToks (pyT xs) := by
  unfold pyT
  simp only [List.map_cons, keyToks, keyToksAll, List.cons_append, List.nil_append]
theorem keys_nil : keyToks (pyT []) = [.inl 0] := by
  unfold pyT
  simp only [List.map_nil, keyToks, keyToksAll]
theorem lt_lex : ∀ a b : List Int, PyProof.Rows.lexLt PyProof.Rows.itemOrd (keyToks (pyT a)) (keyToks (pyT b)) = !lexZ b a
  | [], [] => by rw [keys_nil]; rfl
  | [], y :: ys => by rw [keys_nil, keys_cons]; rfl
  | x :: xs, [] => by rw [keys_nil, keys_cons]; rfl
  | x :: xs, y :: ys => by
    rw [keys_cons, keys_cons, PyProof.Rows.lex_self, PyProof.Rows.lex_cons, lt_lex xs ys]
    show (decide (x < y) || (!decide (y < x) && !lexZ ys xs)) = !(decide (y < x) || (decide (y = x) && lexZ ys xs))
    rcases Int.lt_trichotomy x y with h | h | h
    · have h2 : ¬ y < x := by omega
      have h3 : ¬ y = x := by omega
      simp [h, h2, h3]
    · subst h
      simp
    · have h2 : ¬ x < y := by omega
      simp [h, h2]
def tupZ (z : List Int) : D := .tup (z.map D.int)
def unpy : PyData → List Int
  | .tuple ds => ds.map fun d => match d with
    | .int i => i
    | _ => 0
  | _ => []
theorem unpy_T (z : List Int) : unpy (pyT z) = z := by
  show (z.map PyData.int).map _ = z
  rw [List.map_map]
  exact List.map_id z
def tupsD : List D → Option (List (List Int))
  | [] => some []
  | .tup xs :: ds => (intsD xs).bind fun z => (tupsD ds).map (z :: ·)
  | _ :: _ => none
theorem tupsD_eq : ∀ {ds : List D} {zs : List (List Int)}, tupsD ds = some zs → ds = zs.map tupZ
  | [], _, h => by cases h; rfl
  | .tup xs :: ds, zs, h => by
    obtain ⟨z, h1, h2⟩ := Option.bind_eq_some_iff.mp (show (intsD xs).bind (fun z => (tupsD ds).map (z :: ·)) = some zs from h)
    obtain ⟨r, h3, rfl⟩ := Option.map_eq_some_iff.mp h2
    rw [List.map_cons, ← tupsD_eq h3, ints_eq h1]
    rfl
  | .non :: _, _, h => nomatch h
  | .bl _ :: _, _, h => nomatch h
  | .int _ :: _, _, h => nomatch h
  | .str _ :: _, _, h => nomatch h
  | .raw _ :: _, _, h => nomatch h
  | .lst _ :: _, _, h => nomatch h
  | .cst _ :: _, _, h => nomatch h
  | .own _ :: _, _, h => nomatch h
  | .dic :: _, _, h => nomatch h
theorem intsD_ints : ∀ ns : List Int, intsD (ns.map D.int) = some ns
  | [] => rfl
  | x :: xs => by show (intsD (xs.map D.int)).map (x :: ·) = _; rw [intsD_ints xs]; rfl
theorem tupsD_tups : ∀ zs : List (List Int), tupsD (zs.map tupZ) = some zs
  | [] => rfl
  | z :: zs => by
    show (intsD (z.map D.int)).bind (fun z => (tupsD (zs.map tupZ)).map (z :: ·)) = _
    rw [intsD_ints, tupsD_tups zs]; rfl
theorem toPys_intsZ : ∀ ns : List Int, toPys (ns.map D.int) = some (ns.map PyData.int)
  | [] => rfl
  | n :: ns => by
    show (toPy (.int n)).bind (fun p => (toPys (ns.map D.int)).map (p :: ·)) = _
    rw [toPys_intsZ ns]; rfl
theorem toPys_tups : ∀ zs : List (List Int), toPys (zs.map tupZ) = some (zs.map pyT)
  | [] => rfl
  | z :: zs => by
    show ((toPys (z.map D.int)).map PyData.tuple).bind (fun p => (toPys (zs.map tupZ)).map (p :: ·)) = _
    rw [toPys_tups zs, toPys_intsZ]; rfl
theorem plains_intsZ : ∀ ns : List Int, plains (ns.map D.int) = true
  | [] => rfl
  | n :: ns => by show (D.plain (.int n) && plains (ns.map D.int)) = true; rw [plains_intsZ ns]; rfl
theorem plains_tups : ∀ zs : List (List Int), plains (zs.map tupZ) = true
  | [] => rfl
  | z :: zs => by show (plains (z.map D.int) && plains (zs.map tupZ)) = true; rw [plains_tups zs, plains_intsZ]; rfl
theorem alike_ints : ∀ a b : List Int, alikeAll (a.map PyData.int) (b.map PyData.int) = true
  | [], _ => by simp [alikeAll]
  | _ :: _, [] => by simp [alikeAll]
  | x :: xs, y :: ys => by simp only [List.map_cons, alikeAll, alike, alike_ints xs ys, Bool.and_self]
theorem depth_ints : ∀ ns : List Int, PyData.depthAll (ns.map PyData.int) ≤ 1
  | [] => by show PyData.depthAll [] ≤ 1; unfold PyData.depthAll; decide
  | n :: ns => by
    have := depth_ints ns
    show PyData.depthAll (.int n :: ns.map PyData.int) ≤ 1
    unfold PyData.depthAll PyData.depth
    omega
section
variable {K : PySem.W.Frag} {H : Hp} {P : Addr → Prop}
theorem reps_zip : ∀ {zs : List (List Int)} {vs : List V}, Reps K P H (zs.map tupZ) vs → ∀ b ∈ vs.zip (zs.map pyT), ∃ z, b.2 = pyT z ∧ Rep K P H (tupZ z) b.1
  | [], vs, h, b, hb => by rw [List.map_nil, List.zip_nil_right] at hb; cases hb
  | z :: zs, vs, h, b, hb => by
    rw [List.map_cons] at h
    unfold Reps at h
    obtain ⟨v, r, rfl, h1, h2⟩ := h
    rw [List.map_cons, List.zip_cons_cons] at hb
    rcases List.mem_cons.mp hb with rfl | hb
    · exact ⟨z, rfl, h1⟩
    · exact reps_zip h2 b hb
theorem reps_back : ∀ L : List (V × PyData), (∀ b ∈ L, ∃ z, b.2 = pyT z ∧ Rep K P H (tupZ z) b.1) → Reps K P H (L.map fun b => tupZ (unpy b.2)) (L.map (·.1))
  | [], _ => by unfold Reps; rfl
  | b :: L, h => by
    obtain ⟨z, e, r⟩ := h b List.mem_cons_self
    rw [List.map_cons, List.map_cons]
    unfold Reps
    refine ⟨b.1, _, rfl, ?_, reps_back L fun x hx => h x (List.mem_cons_of_mem _ hx)⟩
    rw [e, unpy_T]
    exact r
end
theorem sorted_is {zs : List (List Int)} {L0 : List (V × PyData)} (hz : L0.map Prod.snd = zs.map pyT) : ((L0.mergeSort (dataLe false Prod.snd)).map fun b => tupZ (unpy b.2)) = (sortT zs).map tupZ := by
  have hp : (L0.mergeSort (dataLe false Prod.snd)).Perm L0 := List.mergeSort_perm _ _
  have hpw : (L0.mergeSort (dataLe false Prod.snd)).Pairwise (fun a b => dataLe false Prod.snd a b = true) :=
    List.pairwise_mergeSort (fun a b c h1 h2 => (PySem.W.sortLe_total _ _ _).trans a b c h1 h2) (fun a b => by
      have := (PySem.W.sortLe_total (PyProof.Rows.listOrd PyProof.Rows.itemOrd) false (fun b : V × PyData => keyToks b.2)).total a b
      simpa using this) _
  have hm : ∀ b ∈ L0.mergeSort (dataLe false Prod.snd), b.2 = pyT (unpy b.2) := fun b hb => by
    have : b.2 ∈ L0.map Prod.snd := List.mem_map.mpr ⟨b, hp.mem_iff.mp hb, rfl⟩
    rw [hz] at this
    obtain ⟨z, _, e⟩ := List.mem_map.mp this
    rw [← e, unpy_T]
  have e : (L0.mergeSort (dataLe false Prod.snd)).map (fun b => unpy b.2) = sortT zs := by
    refine sortT_uniq ?_ ?_
    · have h1 : ((L0.mergeSort (dataLe false Prod.snd)).map (fun b => unpy b.2)).Perm (L0.map fun b => unpy b.2) := hp.map _
      have h2 : (L0.map fun b => unpy b.2) = zs := by
        have : (L0.map Prod.snd).map unpy = (zs.map pyT).map unpy := by rw [hz]
        rw [List.map_map, List.map_map] at this
        rw [show (L0.map fun b => unpy b.2) = L0.map (unpy ∘ Prod.snd) from rfl, this]
        rw [show (unpy ∘ pyT) = id from funext unpy_T, List.map_id]
      rw [h2] at h1
      exact h1
    · rw [List.pairwise_map]
      refine hpw.imp_of_mem fun {a b} ha hb h => ?_
      have h : (!PyProof.Rows.lexLt PyProof.Rows.itemOrd (keyToks b.2) (keyToks a.2)) = true := h
      rw [hm a ha, hm b hb, lt_lex, Bool.not_not] at h
      exact h
  rw [← e, List.map_map]
  rfl
def dSortX (a : D) : Option D := (items a).bind fun ds => match intsD ds with
  | some ns => some (.own ((sortZ ns).map D.int))
  | none => match litems a with
    | none => none
    | some _ => (tupsD ds).bind fun zs => if zs.all (fun z => !z.isEmpty) = true then some (.own ((sortT zs).map tupZ)) else none
theorem ok_sortX {K : PySem.W.Frag} : OkL K (fun xs H Q => (rSortedI K xs H Q ∨ rSortedIT K xs H Q) ∨ rSortD K xs H Q) (fn1 dSortX) := by
  refine okL1 dSortX (fn1_of _) fun Y H0 io T τ e s H a va d Q hf r q => ?_
  obtain ⟨ds, h1, h2⟩ := Option.bind_eq_some_iff.mp (show (items a).bind _ = some d from hf)
  cases h3 : intsD ds with
  | some ns =>
    rw [h3] at h2
    have hd : dSortI a = some d := by
      show (items a).bind (fun ds => (intsD ds).map fun ns => D.own ((sortZ ns).map D.int)) = some d
      rw [h1, Option.bind_some, h3]
      exact h2
    exact .inl (ok_sortI Y H0 io T τ e s H [a] [va] d Q (show fn1 dSortI [a] = some d from hd) rfl r q)
  | none =>
    rw [h3] at h2
    cases h4 : litems a with
    | none => rw [h4] at h2; cases h2
    | some ds2 =>
      rw [h4] at h2
      obtain ⟨zs, h5, h6⟩ := Option.bind_eq_some_iff.mp (show (tupsD ds).bind (fun zs => if zs.all (fun z => !z.isEmpty) = true then some (D.own ((sortT zs).map tupZ)) else none) = some d from h2)
      by_cases c : zs.all (fun z => !z.isEmpty) = true
      · rw [if_pos c] at h6
        cases h6
        obtain rfl := tupsD_eq h5
        have e2 : ds2 = zs.map tupZ := by
          cases a <;> simp only [items, litems, Option.some.injEq, reduceCtorEq] at h1 h4 <;> rw [← h4, h1]
        subst e2
        obtain ⟨P, as, nd, o, g⟩ := r.swap1
        obtain ⟨p1, v1, a1, rfl, t1, w1⟩ := o.lseq h4
        obtain ⟨R1, rfl⟩ := Owns.reps (plains_tups zs) w1
        refine .inr ⟨p1, v1, zs.map pyT, rfl, t1, Owns.dps _ w1 (toPys_tups zs), ?_, ?_, ?_, fun p hp => ?_⟩
        · intro d hd d' hd'
          obtain ⟨z, _, rfl⟩ := List.mem_map.mp hd
          obtain ⟨z', _, rfl⟩ := List.mem_map.mp hd'
          unfold pyT
          simp only [alike]
          exact alike_ints z z'
        · refine .inl fun d hd => ?_
          obtain ⟨z, hz, rfl⟩ := List.mem_map.mp hd
          have := List.all_eq_true.mp c z hz
          cases z with
          | nil => cases this
          | cons x xs => exact ⟨.int x, xs.map PyData.int, rfl⟩
        · intro d hd
          obtain ⟨z, _, rfl⟩ := List.mem_map.mp hd
          have := depth_ints z
          unfold pyT PyData.depth
          omega
        · have dl : (zs.map pyT).length = v1.length := by rw [List.length_map, R1.len, List.length_map]
          have si := sorted_is (zs := zs) (L0 := v1.zip (zs.map pyT)) (zip_snd dl)
          have rz := reps_zip R1
          have rb := reps_back ((v1.zip (zs.map pyT)).mergeSort (dataLe false Prod.snd)) fun b hb => rz b ((List.mergeSort_perm _ _).mem_iff.mp hb)
          rw [si] at rb
          have hs : Same H (upd H p (.lst (((v1.zip (zs.map pyT)).mergeSort (dataLe false Prod.snd)).map (·.1)))) := same_new hp
          refine q _ _ (g _ (.own ((sortT zs).map tupZ)) _ [p] hs (by simp) (fun z hz => ?_) fun P' hP hT _ => ?_)
          · obtain rfl := List.mem_singleton.mp hz
            exact ⟨.inr hp, _, upd_same, fun _ z => nomatch z⟩
          · unfold Own
            exact ⟨p, _, [], rfl, upd_same, Owns.of (Reps.mono (swap_plain (as := []) hs hP) _ rb), rfl⟩
      · rw [if_neg c] at h6; cases h6
theorem dSortX_ints {ns : List Int} : dSortX (.own (ns.map D.int)) = some (.own ((sortZ ns).map D.int)) := by
  show (match intsD (ns.map D.int) with
    | some ns => some (D.own ((sortZ ns).map D.int))
    | none => _) = _
  rw [intsD_ints]
theorem dSortX_tups {zs : List (List Int)} (h : ∀ z ∈ zs, z ≠ []) : dSortX (.own (zs.map tupZ)) = some (.own ((sortT zs).map tupZ)) := by
  cases zs with
  | nil => rfl
  | cons z zs =>
    show ((tupsD ((z :: zs).map tupZ)).bind fun zs => if zs.all (fun z => !z.isEmpty) = true then some (D.own ((sortT zs).map tupZ)) else none) = _
    rw [tupsD_tups, Option.bind_some, if_pos]
    rw [List.all_eq_true]
    intro x hx
    have := h x hx
    cases x with
    | nil => exact (this rfl).elim
    | cons _ _ => rfl
end Mi

namespace Mi
open PySem PySem.Spec PyProof.Rows L2
variable [TabsC]
def nubT : List (List Int) → List (List Int)
  | [] => []
  | z :: zs => if z ∈ nubT zs then nubT zs else z :: nubT zs
theorem mem_nubT {x : List Int} : ∀ {zs : List (List Int)}, x ∈ nubT zs ↔ x ∈ zs
  | [] => Iff.rfl
  | z :: zs => by
    unfold nubT
    by_cases c : z ∈ nubT zs
    · rw [if_pos c, mem_nubT, List.mem_cons]
      exact ⟨.inr, fun h => h.elim (fun e => e ▸ mem_nubT.mp c) id⟩
    · rw [if_neg c, List.mem_cons, List.mem_cons, mem_nubT]
theorem nodup_nubT : ∀ zs : List (List Int), (nubT zs).Nodup
  | [] => List.nodup_nil
  | z :: zs => by
    unfold nubT
    by_cases c : z ∈ nubT zs
    · rw [if_pos c]; exact nodup_nubT zs
    · rw [if_neg c]; exact List.nodup_cons.mpr ⟨c, nodup_nubT zs⟩
theorem perm_nodup {a b : List (List Int)} (ha : a.Nodup) (hb : b.Nodup) (h : ∀ x, x ∈ a ↔ x ∈ b) : a.Perm b := (List.perm_ext_iff_of_nodup ha hb).mpr h
def pairOk (z : List Int) : Bool := decide (z.length = 2) && z.all fun m => decide (0 ≤ m) && decide (m < 1000)
def dSortSet (a : D) : Option D := (litems a).bind fun ds => (tupsD ds).bind fun zs => if zs.length < 64 ∧ zs.all pairOk = true then some (.own ((sortT (nubT zs)).map tupZ)) else none
def rSS (K : PySem.W.Frag) (P : Program) (w : World) : List V → Hp → VK → Prop := fun vs H Q => rSetOfT K P w vs H fun v H2 => rSortedT K P w [v] H2 Q
section
variable {K : PySem.W.Frag} {H : Hp} {P : Addr → Prop}
theorem reps_addrs : ∀ {zs : List (List Int)} {vs : List V}, Reps K P H (zs.map tupZ) vs → ∃ ks : List (Addr × List Int), vs = ks.map (fun p => V.ref p.1) ∧ ks.map (·.2) = zs ∧ ∀ p ∈ ks, Rep K P H (tupZ p.2) (V.ref p.1)
  | [], vs, h => by
    unfold Reps at h
    subst h
    exact ⟨[], rfl, rfl, fun _ z => nomatch z⟩
  | z :: zs, vs, h => by
    rw [List.map_cons] at h
    unfold Reps at h
    obtain ⟨v, r, rfl, h1, h2⟩ := h
    obtain ⟨ks, rfl, e2, e3⟩ := reps_addrs h2
    have h1' := h1
    unfold tupZ Rep at h1'
    obtain ⟨a, vs, rfl, _, _⟩ := h1'
    exact ⟨(a, z) :: ks, rfl, by rw [List.map_cons, e2], fun p hp => (List.mem_cons.mp hp).elim (fun e => e ▸ h1) (e3 p)⟩
theorem rep_sq {z : List Int} {a : Addr} (h : Rep K P H (tupZ z) (V.ref a)) : SqT K H a (z.map V.int) := by
  unfold tupZ Rep at h
  obtain ⟨b, vs, e, t, r⟩ := h
  cases e
  rw [← owns_ints (Owns.of r)]
  exact t.sq
theorem mono_newP {p : Addr} {o : HO} (h : H p = none) : Mono P H P (upd H p o) := by
  refine ⟨fun a u e n => ⟨?_, n⟩, fun a o' u e => ?_⟩
  · rw [upd_ne (fun z => by rw [z, h] at e; cases e)]; exact e
  · rw [upd_ne (fun z => by rw [z, h] at e; cases e)]; exact e
theorem reps_of : ∀ L : List (Addr × List Int), (∀ p ∈ L, Rep K P H (tupZ p.2) (V.ref p.1)) → Reps K P H (L.map fun p => tupZ p.2) (L.map fun p => V.ref p.1)
  | [], _ => by unfold Reps; rfl
  | p :: L, h => by
    rw [List.map_cons, List.map_cons]
    unfold Reps
    exact ⟨_, _, rfl, h p List.mem_cons_self, reps_of L fun x hx => h x (List.mem_cons_of_mem _ hx)⟩
end
theorem code_lex {a b : List Int} (ha : pairOk a = true) (hb : pairOk b = true) (h : TS.code 1000 a ≤ TS.code 1000 b) : lexZ a b = true := by
  unfold pairOk at ha hb
  rw [Bool.and_eq_true, decide_eq_true_eq] at ha hb
  obtain ⟨la, pa⟩ := ha
  obtain ⟨lb, pb⟩ := hb
  match a, la, pa with
  | [x, y], _, pa =>
    match b, lb, pb with
    | [u, v], _, pb =>
      simp only [List.all_cons, List.all_nil, Bool.and_true, Bool.and_eq_true, decide_eq_true_eq] at pa pb
      have h : x * 1000 ^ 1 + (y * 1000 ^ 0 + 0) ≤ u * 1000 ^ 1 + (v * 1000 ^ 0 + 0) := h
      show (decide (x < u) || (decide (x = u) && (decide (y < v) || (decide (y = v) && true)))) = true
      simp only [Bool.or_eq_true, Bool.and_eq_true, decide_eq_true_eq, and_true]
      omega
theorem ok_sortSet {K : PySem.W.Frag} {P : Program} {w : World} : OkL K (rSS K P w) (fn1 dSortSet) := by
  refine okL1 dSortSet (fn1_of _) fun Y H0 io T τ e s H a va d Q hf r q => ?_
  obtain ⟨ds, h4, h2⟩ := Option.bind_eq_some_iff.mp (show (litems a).bind _ = some d from hf)
  obtain ⟨zs, h5, h6⟩ := Option.bind_eq_some_iff.mp h2
  by_cases c : zs.length < 64 ∧ zs.all pairOk = true
  · rw [if_pos c] at h6
    cases h6
    obtain rfl := tupsD_eq h5
    obtain ⟨P', as, nd, o, g⟩ := r.swap1
    obtain ⟨p1, v1, a1, rfl, t1, w1⟩ := o.lseq h4
    obtain ⟨R1, rfl⟩ := Owns.reps (plains_tups zs) w1
    obtain ⟨ks, rfl, e2, e3⟩ := reps_addrs R1
    have hz : zs.length = ks.length := by rw [← e2, List.length_map]
    have okk : ∀ p ∈ ks, pairOk p.2 = true := fun p hp => List.all_eq_true.mp c.2 p.2 (by rw [← e2]; exact List.mem_map.mpr ⟨p, hp, rfl⟩)
    refine ⟨p1, ks, rfl, t1, fun p hp => rep_sq (e3 p hp), by omega, fun b L hb h7 h8 => ?_⟩
    have m1 : Mono P' H P' (upd H b (SetTO P w b L)) := mono_newP hb
    refine ⟨b, L, 2, 1000, rfl, upd_same, fun p hp => rep_sq (Rep.mono m1 _ (e3 p (h7 p hp))), by decide, fun p hp => ?_, fun L' p hp hn hl hs hf => ?_⟩
    · have := okk p (h7 p hp)
      unfold pairOk at this
      rw [Bool.and_eq_true, decide_eq_true_eq, List.all_eq_true] at this
      refine ⟨this.1, fun m hm => ?_⟩
      have := this.2 m hm
      simpa using this
    · have e : L'.map (·.2) = sortT (nubT zs) := by
        refine sortT_uniq (perm_nodup hn (nodup_nubT zs) fun x => ?_) ?_
        · rw [mem_nubT, ← e2]
          constructor
          · intro h
            obtain ⟨p, hp', rfl⟩ := List.mem_map.mp h
            exact List.mem_map.mpr ⟨p, h7 p (hp.mem_iff.mp hp'), rfl⟩
          · intro h
            obtain ⟨p, hp', rfl⟩ := List.mem_map.mp h
            obtain ⟨p2, hp2, e⟩ := List.mem_map.mp (h8 p hp')
            rw [← e]
            exact List.mem_map.mpr ⟨p2, hp.mem_iff.mpr hp2, rfl⟩
        · rw [List.pairwise_map]
          exact hs.imp_of_mem fun {x y} hx hy h => code_lex (okk x (h7 x (hp.mem_iff.mp hx))) (okk y (h7 y (hp.mem_iff.mp hy))) h
      have hs1 : Same H (upd H b (SetTO P w b L)) := same_new hb
      have hs2 : Same (upd H b (SetTO P w b L)) (upd (upd H b (SetTO P w b L)) p (.lst (L'.map fun q => V.ref q.1))) := same_new hf
      have hs' := hs1.trans hs2
      have hp0 : H p = none := by
        by_cases z : p = b
        · rw [z]; exact hb
        · rw [upd_ne z] at hf; exact hf
      refine q _ _ (g _ (.own ((sortT (nubT zs)).map tupZ)) _ [p] hs' (by simp) (fun z hz => ?_) fun P2 hP hT _ => ?_)
      · obtain rfl := List.mem_singleton.mp hz
        exact ⟨.inr hp0, _, upd_same, fun _ z => nomatch z⟩
      · unfold Own
        refine ⟨p, _, [], rfl, upd_same, Owns.of ?_, rfl⟩
        rw [← e, List.map_map]
        exact Reps.mono (swap_plain (as := []) hs' hP) _ (reps_of L' fun p hp' => e3 p (h7 p (hp.mem_iff.mp hp')))
  · rw [if_neg c] at h6; cases h6
theorem de_sortSet {X : Cx} {W : WX} {a : Expr} {mas : MA} {p p2 pos pos2 : Pos} (hu : X.A.units + 64 < cLine) (B : BI X.mg) (ha : DA X W [a] mas) (hc : X.calm = true := by rfl) (hg : Gl X "sorted" := by rfl) (hg2 : Gl X "set" := by rfl)
    (he : starEach [a] X.env = (false, eval a X.env) :: starEach [] X.env := by rfl) (hpl : (backTo pos2 (starEach [] X.env)).any (·.1) = false := by rfl) (hpl2 : (backTo pos (starEach [] X.env)).any (·.1) = false := by rfl) :
    DE X W (.Call (.Name "sorted" p) [.Call (.Name "set" p2) [a] [] pos2] [] pos) (mOpL (fn1 dSortSet) mas) := by
  obtain ⟨t, pa, s⟩ := ha
  have sim : SimE X.K X.mg W (tCB (rSS X.K X.prog X.w) t) (mOpL (fn1 dSortSet) mas) := sim_opL ok_sortSet s
  exact ⟨_, pe_callB (cr_sortedT hc) hg B.sorted boot_sorted (pa_cons (pe_callTy (cr_setOfT hc hu) hg2 B.set PyProof.Rows.boot_set pa (by decide) (by decide) he hpl) pa_nil) (by decide) (by decide) (by rfl) hpl2, sim⟩
end Mi

namespace Mi
open PySem PySem.Spec PyProof.Rows L2
variable [TabsC]
def nubZ : List Int → List Int
  | [] => []
  | z :: zs => if z ∈ nubZ zs then nubZ zs else z :: nubZ zs
theorem mem_nubZ {x : Int} : ∀ {zs : List Int}, x ∈ nubZ zs ↔ x ∈ zs
  | [] => Iff.rfl
  | z :: zs => by
    unfold nubZ
    by_cases c : z ∈ nubZ zs
    · rw [if_pos c, mem_nubZ, List.mem_cons]
      exact ⟨.inr, fun h => h.elim (fun e => e ▸ mem_nubZ.mp c) id⟩
    · rw [if_neg c, List.mem_cons, List.mem_cons, mem_nubZ]
theorem nodup_nubZ : ∀ zs : List Int, (nubZ zs).Nodup
  | [] => List.nodup_nil
  | z :: zs => by
    unfold nubZ
    by_cases c : z ∈ nubZ zs
    · rw [if_pos c]; exact nodup_nubZ zs
    · rw [if_neg c]; exact List.nodup_cons.mpr ⟨c, nodup_nubZ zs⟩
theorem nubZ_le : ∀ zs : List Int, (nubZ zs).length ≤ zs.length
  | [] => Nat.le_refl _
  | z :: zs => by
    have := nubZ_le zs
    unfold nubZ
    split
    · rw [List.length_cons]; omega
    · rw [List.length_cons, List.length_cons]; omega
theorem len_nubZ {a zs : List Int} (ha : a.Nodup) (h : ∀ x, x ∈ a ↔ x ∈ zs) : a.length = (nubZ zs).length :=
  ((List.perm_ext_iff_of_nodup ha (nodup_nubZ zs)).mpr fun x => (h x).trans mem_nubZ.symm).length_eq
theorem dedup_fold : ∀ (l acc : List Int), acc.Nodup → (l.foldl PyProof.Rows.step_dedup acc).Nodup ∧ ∀ x, x ∈ l.foldl PyProof.Rows.step_dedup acc ↔ x ∈ acc ∨ x ∈ l
  | [], acc, h => ⟨h, fun x => by simp⟩
  | y :: l, acc, h => by
    rw [List.foldl_cons]
    by_cases c : acc.any (· == y) = true
    · have e : PyProof.Rows.step_dedup acc y = acc := if_pos c
      rw [e]
      obtain ⟨h1, h2⟩ := dedup_fold l acc h
      refine ⟨h1, fun x => ?_⟩
      rw [h2, List.mem_cons]
      obtain ⟨z, hz, ez⟩ := List.any_eq_true.mp c
      have ez : z = y := eq_of_beq ez
      subst ez
      exact ⟨fun q => q.elim .inl fun q => .inr (.inr q), fun q => q.elim .inl fun q => q.elim (fun e => .inl (e ▸ hz)) .inr⟩
    · have e : PyProof.Rows.step_dedup acc y = acc ++ [y] := if_neg c
      rw [e]
      have hn : y ∉ acc := fun hy => c (List.any_eq_true.mpr ⟨y, hy, by simp⟩)
      obtain ⟨h1, h2⟩ := dedup_fold l (acc ++ [y]) (by
        rw [List.nodup_append]
        exact ⟨h, List.nodup_cons.mpr ⟨(fun z => nomatch z), List.nodup_nil⟩, fun a ha b hb e2 => by
          have := List.mem_singleton.mp hb
          exact hn (by rw [← this, ← e2]; exact ha)⟩)
      refine ⟨h1, fun x => ?_⟩
      rw [h2, List.mem_append, List.mem_singleton, List.mem_cons, or_assoc]
theorem firstMet_len (ns : List Int) : (PyProof.Rows.firstMet (fun i => ns.getD i 0) ns.length).length = (nubZ ns).length := by
  have e : (List.range ns.length).map (fun i => ns.getD i 0) = ns := by
    refine List.ext_getElem (by simp) fun i h1 h2 => ?_
    rw [List.getElem_map, List.getElem_range, List.getD_eq_getElem?_getD, List.getElem?_eq_getElem h2]
    rfl
  unfold PyProof.Rows.firstMet
  rw [e]
  obtain ⟨h1, h2⟩ := dedup_fold ns [] List.nodup_nil
  exact len_nubZ h1 fun x => (h2 x).trans ⟨fun q => q.elim (fun z => nomatch z) id, .inr⟩
def tLenSetZ (K : PySem.W.Frag) (ta : TE) : TE := fun σ H Q => ta σ H fun x H1 => ∃ (l : Addr) (ns : List Int), x = V.ref l ∧ (SqL K H1 l (ns.map V.int) ∨ SqT K H1 l (ns.map V.int)) ∧ ns.length ≤ 4000 ∧ Q (.int ((nubZ ns).length : Nat)) H1
theorem pe_lenSetZ {X : Cx} {a : Expr} {ta : TE} {p p2 q pos : Pos} (hg : Gl X "len") (hm : X.mg "len" = none) (hg2 : Gl X "set") (hm2 : X.mg "set" = none) (ha : PE X a ta) (hc : X.calm = true := by rfl)
    (na : starEach [a] X.env = (false, eval a X.env) :: starEach [] X.env := by rfl) : PE X (.Call (.Name "len" p) [.Call (.Name "set" p2) [a] [] q] [] pos) (tLenSetZ X.K ta) := by
  refine ⟨fun pins s σ H Q I h => ?_⟩
  refine Call_ (ld_blt I hg hm boot_len ?_)
  refine PyProof.Rows.callWith_builtin1 (PyProof.Rows.args_cons ?_ rfl) rfl rfl
  refine Call_ (ld_blt I hg2 hm2 boot_set ?_)
  refine PyProof.Rows.callWith_type1 (PyProof.Rows.args_cons (thn (ha.run pins s σ H _ I h) fun v s1 ⟨x, H1, I1, r1, q1⟩ => PyProof.Rows.args_nil ?_) na) na rfl
  obtain ⟨l, ns, rfl, hq, hl, q1⟩ := q1
  cases r1
  rcases hq with hq | hq
  · obtain ⟨its, r, pl, hz⟩ := I1.list hq
    have hlen : its.toArray.size = ns.length := by rw [List.size_toArray, ← r.length, List.length_map]
    refine call_set_list (I1.ok.hd hc) pl.isList (by simpa using RZ.intsAre_vals r) (by rw [hlen]; unfold scanBound; omega) fun h' tk hS hk => ?_
    refine PyProof.Rows.args_nil ?_
    rw [hlen, firstMet_len] at hS
    obtain ⟨o, es, ep, t, ho, hex, hd, _, _, _, hf, hn⟩ := hS
    have I2 : Inv X pins σ H1 { s1 with heap := h', toks := tk } := I1.kept fun b o e => hk b o (Heap.lt_size e) e
    have := nubZ_le ns
    exact call_len_set ho hex hd hf (by rw [hn] <;> omega) ⟨.int (nubZ ns).length, H1, I2.tok _, ⟨_, by rw [hn]⟩, q1⟩
  · obtain ⟨its, r, pl, hz⟩ := I1.tuple hq
    refine call_set_tupI ns (I1.ok.hd hc) pl (by simpa using RZ.intsAre_vals r) (by unfold scanBound; omega) fun h' tk c hS hcl hk => ?_
    refine PyProof.Rows.args_nil ?_
    obtain ⟨o, es, ep, t, ho, hex, hd, hge, hnd, hm, hsz, hf, hn, _⟩ := hS
    have I2 : Inv X pins σ H1 { s1 with heap := h', toks := tk } := I1.kept hk
    have e : es.size = (nubZ ns).length := by
      have := len_nubZ (zs := ns) hnd fun x => (hm x).symm.trans (by simp)
      rw [List.length_map, Array.length_toList] at this
      exact this
    exact call_len_set ho hex hd hf (by omega) ⟨.int (nubZ ns).length, H1, I2.tok _, ⟨_, by rw [e]⟩, q1⟩
def dLenSet (a : D) : Option D := (items a).bind fun ds => (intsD ds).bind fun ns => if ns.length ≤ 4000 then some (.int (nubZ ns).length) else none
theorem de_lenSet {X : Cx} {W : WX} {a : Expr} {ma : ME} {p p2 q pos : Pos} (B : BI X.mg) (ha : DE X W a ma) (hg : Gl X "len" := by rfl) (hg2 : Gl X "set" := by rfl) (hc : X.calm = true := by rfl)
    (na : starEach [a] X.env = (false, eval a X.env) :: starEach [] X.env := by rfl) : DE X W (.Call (.Name "len" p) [.Call (.Name "set" p2) [a] [] q] [] pos) (mOp1 dLenSet ma) := by
  obtain ⟨t, pa, s⟩ := ha
  refine ⟨_, pe_lenSetZ hg B.len hg2 B.set pa hc na, ?_⟩
  have ok : Ok1 X.K (fun x H1 Q => ∃ (l : Addr) (ns : List Int), x = V.ref l ∧ (SqL X.K H1 l (ns.map V.int) ∨ SqT X.K H1 l (ns.map V.int)) ∧ ns.length ≤ 4000 ∧ Q (.int ((nubZ ns).length : Nat)) H1) dLenSet := by
    intro Y H0 io T τ e s H a va d Q hf r q
    obtain ⟨ds, h1, h2⟩ := Option.bind_eq_some_iff.mp (show (items a).bind (fun ds => (intsD ds).bind fun ns => if ns.length ≤ 4000 then some (D.int (nubZ ns).length) else none) = some d from hf)
    obtain ⟨ns, h3, h4⟩ := Option.bind_eq_some_iff.mp h2
    by_cases c : ns.length ≤ 4000
    · rw [if_pos c] at h4
      cases h4
      obtain ⟨P, as, nd, o, g⟩ := r.swap1
      obtain ⟨p1, v1, a1, rfl, t1, w1, s1, n1⟩ := o.seqA h1
      obtain rfl := ints_eq h3
      obtain rfl := owns_ints w1
      exact ⟨p1, ns, rfl, t1, c, q _ _ r.pop.int⟩
    · rw [if_neg c] at h4; cases h4
  exact sim_op1 ok s
end Mi

namespace Mi
open PySem PySem.Spec PyProof.Rows L2
variable [TabsC]
theorem dpAll_ints {K : PySem.W.Frag} {H : Hp} : ∀ ns : List Int, DpAll K H (ns.map V.int) (ns.map PyData.int)
  | [] => .nil
  | n :: ns => .cons (.int n) (dpAll_ints ns)
theorem alikeAll_ints (x : Int) (xs : List Int) : PySem.W.AlikeAll (PyData.int x :: xs.map PyData.int) := by
  have : ∀ d ∈ PyData.int x :: xs.map PyData.int, ∃ i, d = PyData.int i := fun d hd => by
    rcases List.mem_cons.mp hd with rfl | hd
    · exact ⟨x, rfl⟩
    · obtain ⟨i, _, rfl⟩ := List.mem_map.mp hd
      exact ⟨i, rfl⟩
  refine ⟨fun d hd e he => ?_, fun d hd z => ?_⟩
  · obtain ⟨i, rfl⟩ := this d hd
    obtain ⟨j, rfl⟩ := this e he
    simp [PySem.W.alike]
  · obtain ⟨i, rfl⟩ := this d hd
    cases z
theorem foldl_min (ns : List Int) : ∀ x : Int, ns.foldl min x ∈ x :: ns ∧ ∀ y ∈ x :: ns, ns.foldl min x ≤ y := by
  induction ns with
  | nil => exact fun x => ⟨List.mem_cons_self, fun y hy => by obtain rfl := List.mem_singleton.mp hy; exact Int.le_refl _⟩
  | cons z ns ih =>
    intro x
    obtain ⟨h1, h2⟩ := ih (min x z)
    rw [List.foldl_cons]
    have h3 := h2 (min x z) List.mem_cons_self
    refine ⟨?_, fun y hy => ?_⟩
    · rcases List.mem_cons.mp h1 with e | e
      · rw [e]
        rcases Int.le_total x z with q | q
        · rw [Int.min_eq_left q]; exact List.mem_cons_self
        · rw [Int.min_eq_right q]; exact List.mem_cons_of_mem _ List.mem_cons_self
      · exact List.mem_cons_of_mem _ (List.mem_cons_of_mem _ e)
    · rcases List.mem_cons.mp hy with rfl | hy
      · omega
      · rcases List.mem_cons.mp hy with rfl | hy
        · omega
        · exact h2 y (List.mem_cons_of_mem _ hy)
theorem foldl_max (ns : List Int) : ∀ x : Int, ns.foldl max x ∈ x :: ns ∧ ∀ y ∈ x :: ns, y ≤ ns.foldl max x := by
  induction ns with
  | nil => exact fun x => ⟨List.mem_cons_self, fun y hy => by obtain rfl := List.mem_singleton.mp hy; exact Int.le_refl _⟩
  | cons z ns ih =>
    intro x
    obtain ⟨h1, h2⟩ := ih (max x z)
    rw [List.foldl_cons]
    have h3 := h2 (max x z) List.mem_cons_self
    refine ⟨?_, fun y hy => ?_⟩
    · rcases List.mem_cons.mp h1 with e | e
      · rw [e]
        rcases Int.le_total x z with q | q
        · rw [Int.max_eq_right q]; exact List.mem_cons_of_mem _ List.mem_cons_self
        · rw [Int.max_eq_left q]; exact List.mem_cons_self
      · exact List.mem_cons_of_mem _ (List.mem_cons_of_mem _ e)
    · rcases List.mem_cons.mp hy with rfl | hy
      · omega
      · rcases List.mem_cons.mp hy with rfl | hy
        · omega
        · exact h2 y (List.mem_cons_of_mem _ hy)
def rMinT (K : PySem.W.Frag) : List V → Hp → VK → Prop := fun vs H Q => ∃ (a : Addr) (x : Int) (xs : List Int), vs = [V.ref a] ∧ SqT K H a ((x :: xs).map V.int) ∧ Q (.int (xs.foldl min x)) H
theorem cr_minT {X : Cx} (hu : X.A.units + 64 < cLine) (hc : X.calm = true := by rfl) : CallR X (.builtin "min") (rMinT X.K) := by
  intro pins s σ H vs us Q I r h
  obtain ⟨a, x, xs, rfl, hs, q⟩ := h
  obtain ⟨its, rv, pl, hz⟩ := I.tuple hs
  obtain ⟨u, rfl, ru⟩ := vals1 r
  obtain rfl : u = Value.ref a := ru
  obtain ⟨as, rd⟩ := Dp.readsAll I _ _ _ (dpAll_ints (x :: xs)) rv
  refine PySem.W.min_tuple_data (x := .int x) (xs := xs.map PyData.int) (I.ok.hd hc) pl rd (alikeAll_ints x xs) (by have := depth_ints (x :: xs); rw [List.map_cons] at this; omega) fun i v h' tk bs h1 h2 hk => ?_
  rw [PySem.W.minD_ints] at h2
  cases h2
  exact ⟨.int _, H, I.kept hk, ⟨_, rfl⟩, q⟩
def dMin1 (a : D) : Option D := (items a).bind fun ds => (intsD ds).bind fun ns => match ns with
  | [] => none
  | x :: xs => some (.int (xs.foldl min x))
theorem ok_min1 {K : PySem.W.Frag} : OkL K (fun xs H Q => rMin K xs H Q ∨ rMinT K xs H Q) (fn1 dMin1) := by
  refine okL1 dMin1 (fn1_of _) fun Y H0 io T τ e s H a va d Q hf r q => ?_
  obtain ⟨ds, h1, h2⟩ := Option.bind_eq_some_iff.mp (show (items a).bind _ = some d from hf)
  obtain ⟨ns, h3, h4⟩ := Option.bind_eq_some_iff.mp h2
  cases ns with
  | nil => cases h4
  | cons x xs =>
    cases h4
    obtain ⟨P, as, nd, o, g⟩ := r.swap1
    obtain ⟨p1, v1, a1, rfl, t1, w1, s1, n1⟩ := o.seqA h1
    obtain rfl := ints_eq h3
    obtain rfl := owns_ints w1
    rcases t1 with t1 | t1
    · refine .inl ⟨p1, x :: xs, rfl, t1, by simp, fun m hm hy => ?_⟩
      obtain ⟨g1, g2⟩ := foldl_min xs x
      have e : m = xs.foldl min x := Int.le_antisymm (hy _ g1) (g2 m hm)
      rw [e]
      exact q _ _ r.pop.int
    · exact .inr ⟨p1, x, xs, rfl, t1, q _ _ r.pop.int⟩
def rMaxT (K : PySem.W.Frag) : List V → Hp → VK → Prop := fun vs H Q => ∃ (a : Addr) (x : Int) (xs : List Int), vs = [V.ref a] ∧ SqT K H a ((x :: xs).map V.int) ∧ Q (.int (xs.foldl max x)) H
theorem cr_maxT {X : Cx} (hu : X.A.units + 64 < cLine) (hc : X.calm = true := by rfl) : CallR X (.builtin "max") (rMaxT X.K) := by
  intro pins s σ H vs us Q I r h
  obtain ⟨a, x, xs, rfl, hs, q⟩ := h
  obtain ⟨its, rv, pl, hz⟩ := I.tuple hs
  obtain ⟨u, rfl, ru⟩ := vals1 r
  obtain rfl : u = Value.ref a := ru
  obtain ⟨as, rd⟩ := Dp.readsAll I _ _ _ (dpAll_ints (x :: xs)) rv
  refine PySem.W.max_tuple_data (x := .int x) (xs := xs.map PyData.int) (I.ok.hd hc) pl rd (alikeAll_ints x xs) (by have := depth_ints (x :: xs); rw [List.map_cons] at this; omega) fun i v h' tk bs h1 h2 hk => ?_
  rw [PySem.W.maxD_ints] at h2
  cases h2
  exact ⟨.int _, H, I.kept hk, ⟨_, rfl⟩, q⟩
def dMax1 (a : D) : Option D := (items a).bind fun ds => (intsD ds).bind fun ns => match ns with
  | [] => none
  | x :: xs => some (.int (xs.foldl max x))
theorem ok_max1 {K : PySem.W.Frag} : OkL K (fun xs H Q => rMax K xs H Q ∨ rMaxT K xs H Q) (fn1 dMax1) := by
  refine okL1 dMax1 (fn1_of _) fun Y H0 io T τ e s H a va d Q hf r q => ?_
  obtain ⟨ds, h1, h2⟩ := Option.bind_eq_some_iff.mp (show (items a).bind _ = some d from hf)
  obtain ⟨ns, h3, h4⟩ := Option.bind_eq_some_iff.mp h2
  cases ns with
  | nil => cases h4
  | cons x xs =>
    cases h4
    obtain ⟨P, as, nd, o, g⟩ := r.swap1
    obtain ⟨p1, v1, a1, rfl, t1, w1, s1, n1⟩ := o.seqA h1
    obtain rfl := ints_eq h3
    obtain rfl := owns_ints w1
    rcases t1 with t1 | t1
    · refine .inl ⟨p1, x :: xs, rfl, t1, by simp, fun m hm hy => ?_⟩
      obtain ⟨g1, g2⟩ := foldl_max xs x
      have e : m = xs.foldl max x := Int.le_antisymm (g2 m hm) (hy _ g1)
      rw [e]
      exact q _ _ r.pop.int
    · exact .inr ⟨p1, x, xs, rfl, t1, q _ _ r.pop.int⟩
end Mi

namespace Mi
open PySem PySem.Spec PyProof.Rows L2
variable [TabsC]
end Mi

namespace Mi
open PySem PySem.Spec PyProof.Rows L2
variable [TabsC]
end Mi

namespace Mi
open PySem PySem.Spec PyProof.Rows L2
variable [TabsC]
end Mi

namespace Mi
open PySem PySem.Spec PyProof.Rows L2
variable [TabsC]
def slotD (e : Env) (j : Nat) : Option D := match e[j]? with
  | some (some d) => some d
  | _ => none
theorem slotD_eq {e : Env} {j : Nat} {d : D} (h : slotD e j = some d) : (e : List (Option D))[j]? = some (some d) := by
  unfold slotD at h
  cases q : (e : List (Option D))[j]? with
  | none => rw [q] at h; cases h
  | some o =>
    cases o with
    | none => rw [q] at h; cases h
    | some d2 => rw [q] at h; cases h; rfl
def appAt (e : Env) (i j : Nat) (k : D) : Rs (D × Env) := match k, ownAt e i, slotD e j with
  | .int k, some ds, some d => match ixN ds.length k with
    | some m => match ds[m]? with
      | some (.own xs) => if j ≠ i ∧ d.plain = true ∧ xs.length < sizeLine then .ok (.non, e.set i (some (.own (ds.set m (.own (xs ++ [d])))))) else .err
      | _ => .err
    | none => .err
  | _, _, _ => .err
def mAppAt (i : Nat) (mk : ME) (j : Nat) : ME := fun e => match ownAt e i with
  | none => .err
  | some _ => (mk e).bind fun p => appAt p.2 i j p.1
section
variable {K : PySem.W.Frag} {mg : Str → Option Value} {W : WX}
theorem sim_appAt {i j : Nat} {tk : TE} {mk : ME} (hk : SimE K mg W tk mk) : SimE K mg W (tBM K "list" rAppend (tOp (rIx K) (tVar i) tk) (tCons (tVar j) tNil)) (mAppAt i mk j) := by
  intro Y H0 io T τ e s H Q r p
  unfold mAppAt at p
  cases c : ownAt e i with
  | none => rw [c] at p; exact False.elim p
  | some ds0 =>
    rw [c] at p
    obtain ⟨a, vs0, hs, ha, _⟩ := r.slotL c
    refine ⟨V.ref a, hs, ?_⟩
    refine hk.then r (P := PostE K mg W Y H0 io T τ s Q) p id postE_exc fun k e1 p v H1 r1 => ?_
    unfold appAt at p
    obtain ⟨k, rfl⟩ : ∃ q, k = .int q := by cases k <;> first | exact ⟨_, rfl⟩ | exact False.elim p
    obtain rfl := r1.isInt
    cases c1 : ownAt e1 i with
    | none => simp only [c1] at p; exact False.elim p
    | some ds =>
      cases c2 : slotD e1 j with
      | none => simp only [c1, c2] at p; exact False.elim p
      | some d =>
        simp only [c1, c2] at p
        cases c3 : ixN ds.length k with
        | none => simp only [c3] at p; exact False.elim p
        | some m =>
          simp only [c3] at p
          cases c4 : ds[m]? with
          | none => simp only [c4] at p; exact False.elim p
          | some x =>
            obtain ⟨xs, rfl⟩ : ∃ xs, x = .own xs := by cases x <;> first | exact ⟨_, rfl⟩ | (simp only [c4] at p; exact False.elim p)
            simp only [c4] at p
            by_cases z : j ≠ i ∧ d.plain = true ∧ xs.length < sizeLine
            · rw [if_pos z] at p
              obtain ⟨zj, zp, zx⟩ := z
              obtain ⟨a', vs, u, hs', ha', hl, hu, r2⟩ := r1.pop.takeOut (ownAt_eq c1) c4
              rw [hs] at hs'; cases hs'
              have hm : m < ds.length := by
                rcases Nat.lt_or_ge m ds.length with q | q
                · exact q
                · rw [List.getElem?_eq_none q] at c4; cases c4
              have hj2 : ((e1 : List (Option D)).set i (some (.own (ds.set m (.raw u)))))[j]? = some (some d) := by
                rw [List.getElem?_set_ne (fun q => zj q.symm)]
                exact slotD_eq c2
              obtain ⟨vd, q1, r3⟩ := r2.get hj2 zp
              have hi : i < (e1 : List (Option D)).length := by
                have q := ownAt_eq c1
                rcases Nat.lt_or_ge i (e1 : List (Option D)).length with w | w
                · exact w
                · rw [List.getElem?_eq_none w] at q; cases q
              obtain ⟨b, ws, rfl, hb, hw, r4⟩ := Rel.appT (A := []) (va := []) rfl r3
              have hi2 : ((e1 : List (Option D)).set i (some (.own (ds.set m (.raw (V.ref b))))))[i]? = some (some (.own (ds.set m (.raw (V.ref b))))) := by rw [List.getElem?_set_self hi]
              have r5 := Rel.putBack r4 hi2 (j := m) (by rw [List.getElem?_set_self hm])
              rw [List.set_set, List.set_set] at r5
              refine .inl ⟨a, vs, k, V.ref b, rfl, rfl, SqL.of ha', ?_, .inl ⟨rfl, ws, SqL.of hb⟩, vd, q1, b, ws, vd, rfl, rfl, hb, by rw [hw]; exact zx, p _ _ r5.non⟩
              unfold atI
              rw [hl, c3]
              exact hu
            · rw [if_neg z] at p; exact False.elim p
end
section
variable {X : Cx} {W : WX} {pos p p2 p3 ps : Pos} {b : Expr} {mb : ME} {x y : Str}
theorem de_appAt (i j : Nat) {apos : Pos} (hb : DE X W b mb) (hsx : PlainIx b := by exact fun _ _ => rfl) (hN : X.N[i]? = some x := by rfl) (hv : Vis X.env.scope x := by first | exact Or.inl rfl | exact Or.inr (Or.inl rfl) | exact Or.inr (Or.inr rfl)) (hd : (x == ("__debug__" : Str)) = false := by decide)
    (hcd : (x == ("__classdict__" : Str)) = false := by decide)
    (hN2 : X.N[j]? = some y := by rfl) (hv2 : Vis X.env.scope y := by first | exact Or.inl rfl | exact Or.inr (Or.inl rfl) | exact Or.inr (Or.inr rfl)) (hd2 : (y == ("__debug__" : Str)) = false := by decide)
    (hcd2 : (y == ("__classdict__" : Str)) = false := by decide)
    (hbase : attributeBase (.Subscript (.Name x p) b ps) "append" X.env (eval (.Subscript (.Name x p) b ps) X.env) = eval (.Subscript (.Name x p) b ps) X.env := by rfl)
    (hfew : ((backTo pos (starEach (.Name y p3 :: []) X.env)).all (fun x => !x.1) && (backToKw pos (keywordEach [] X.env)).all (fun x => x.1.isSome)
      && decide ((Expr.Name y p3 :: ([] : List Expr)).length + ([] : List Keyword).length + (if ([] : List Keyword).isEmpty then 0 else 1) < 30)) = true := by rfl)
    (hline : (apos.endLine == pos.line) = true := by rfl) (hs : starEach (.Name y p3 :: []) X.env = (false, eval (.Name y p3) X.env) :: starEach [] X.env := by rfl) (hplain : (backTo pos (starEach [] X.env)).any (·.1) = false := by rfl) :
    DE X W (.Call (.Attribute (.Subscript (.Name x p) b ps) "append" apos) [.Name y p3] [] pos) (mAppAt i mb j) := by
  obtain ⟨t, pb, s⟩ := hb
  exact ⟨_, pe_bm PySem.F.plainAttrs_list PySem.F.slot_list_append PySem.F.type_list_append mt_append (pe_ix ix_seq (pe_var hN hv hd hcd) pb hsx) (pa_cons (pe_var hN2 hv2 hd2 hcd2) pa_nil hs) hbase hfew hline hs hplain, sim_appAt s⟩
end
end Mi

namespace Mi
open PySem PySem.Spec PyProof.Rows L2
variable [TabsC]
end Mi

namespace Mi
open PySem PySem.Spec PyProof.Rows L2
variable [TabsC]
end Mi

namespace Mi
open PySem PySem.Spec PyProof.Rows L2
variable [TabsC]
end Mi

namespace PySem
open Sem (wp)
open AutoSeq1 (wpAny_loadPart')
end PySem
namespace Mi
open PySem PySem.Spec PyProof.Rows L2
variable [TabsC]
end Mi

namespace Mi
open PySem PySem.Spec PyProof.Rows L2
variable [TabsC]
section
variable {e : Env} {i : Nat} {xs : List D} {ma : MA} {F : MF}
theorem kw_str {x : Str} : kw (some (some (.str x))) = none := rfl
theorem kw_int {i : Int} : kw (some (some (.int i))) = none := rfl
theorem kw_bl {b : Bool} : kw (some (some (.bl b))) = none := rfl
theorem kw_non : kw (some (some .non)) = none := rfl
theorem kw_tup {ds : List D} : kw (some (some (.tup ds))) = none := rfl
theorem kw_lst {ds : List D} : kw (some (some (.lst ds))) = none := rfl
end
end Mi

namespace Mi
open PySem PySem.Spec PyProof.Rows L2
variable [TabsC]
end Mi

namespace Mi
open PySem PySem.Spec PyProof.Rows L2
variable [TabsC]
end Mi

namespace Mi
open PySem PySem.Spec PyProof.Rows L2
variable [TabsC]

def delC (as : List Addr) (H : Hp) : Hp := fun b => if b ∈ as then none else H b
theorem delC_out {as : List Addr} {H : Hp} {b : Addr} (h : b ∉ as) : delC as H b = H b := if_neg h
mutual
def D.noclo : D → Bool
  | .clo _ _ _ _ _ _ => false | .ownA _ _ => false | .cob _ _ _ _ _ _ _ _ => false
  | .tup ds => noclos ds | .lst ds => noclos ds | .cst ds => noclos ds | .own ds => noclos ds
  | .non => true | .bl _ => true | .int _ => true | .str _ => true | .raw _ => true | .dic => true | .dct _ => true | .odc _ => true | .odt _ => true | .odu _ => true | .odn _ => true | .odp _ => true | .dsk _ _ => true
def noclos : List D → Bool
  | [] => true
  | d :: ds => d.noclo && noclos ds
end
section
variable {K : PySem.W.Frag} {P P' : Addr → Prop} {H : Hp} {as : List Addr}
theorem trk_del {a : Addr} {u : HO} (hc : ∀ a ∈ as, ∃ o, H a = some (FzO o)) (hs : ∀ a, P' a → P a) (n1 : ∀ o, u ≠ FzO o) (n2 : u ≠ .ext fun _ => True) (h : Trk P H a u) : Trk P' (delC as H) a u := by
  rcases h with ⟨h, n⟩ | ⟨o, h⟩
  · refine .inl ⟨?_, fun z => n (hs a z)⟩
    rw [delC_out fun i => by obtain ⟨o, q⟩ := hc a i; rw [h] at q; exact n1 o (Option.some.inj q)]; exact h
  · refine .inr ⟨o, ?_⟩
    rw [delC_out fun i => by obtain ⟨o2, q⟩ := hc a i; rw [h] at q; injection q with q; injection q with _ q; exact n2 q]; exact h
theorem tqt_del {a : Addr} {xs : List V} (hc : ∀ a ∈ as, ∃ o, H a = some (FzO o)) (hs : ∀ a, P' a → P a) (h : TqT K P H a xs) : TqT K P' (delC as H) a xs :=
  h.elim (fun z => .inl (trk_del hc hs (fun _ z => nomatch z) (fun z => nomatch z) z)) .inr
theorem at_del {a : Addr} {u : HO} (hc : ∀ a ∈ as, ∃ o, H a = some (FzO o)) (n1 : ∀ o, u ≠ FzO o) (h : H a = some u) : delC as H a = some u := by
  rw [delC_out fun i => by obtain ⟨o, q⟩ := hc a i; rw [h] at q; exact n1 o (Option.some.inj q)]; exact h
mutual
theorem rep_del (hc : ∀ a ∈ as, ∃ o, H a = some (FzO o)) (hs : ∀ a, P' a → P a) : ∀ (d : D) {v : V}, d.noclo = true → Rep K P H d v → Rep K P' (delC as H) d v
  | .non, _, _, h => by unfold Rep at h ⊢; exact h
  | .bl _, _, _, h => by unfold Rep at h ⊢; exact h
  | .int _, _, _, h => by unfold Rep at h ⊢; exact h
  | .str _, _, _, h => by unfold Rep at h ⊢; exact h
  | .raw _, _, _, h => by unfold Rep at h ⊢; exact h
  | .tup ds, _, n, h => by
    unfold D.noclo at n; unfold Rep at h ⊢
    obtain ⟨a, vs, e, q, r⟩ := h
    exact ⟨a, vs, e, tqt_del hc hs q, reps_del hc hs ds n r⟩
  | .lst ds, _, n, h => by
    unfold D.noclo at n; unfold Rep at h ⊢
    obtain ⟨a, vs, e, q, r⟩ := h
    exact ⟨a, vs, e, ⟨at_del hc (fun _ z => nomatch z) q.1, fun z => q.2 (hs a z)⟩, reps_del hc hs ds n r⟩
  | .cst ds, _, n, h => by
    unfold D.noclo at n; unfold Rep at h ⊢
    obtain ⟨a, vs, e, q, r⟩ := h
    refine ⟨a, vs, e, q.imp (fun ⟨o, z⟩ => ⟨o, ?_⟩) id, reps_del hc hs ds n r⟩
    rw [delC_out fun i => by obtain ⟨o2, y⟩ := hc a i; rw [z] at y; cases y]; exact z
  | .own _, _, _, h => by unfold Rep at h; exact h.elim
  | .dic, _, _, h => by
    unfold Rep at h ⊢
    obtain ⟨a, e, q, n⟩ := h
    exact ⟨a, e, at_del hc (fun _ z => nomatch z) q, fun z => n (hs a z)⟩
  | .dct m, _, _, h => by
    unfold Rep at h ⊢
    obtain ⟨a, e, q⟩ := h
    refine ⟨a, e, ?_⟩
    cases m with
    | im kvs => exact ⟨at_del hc (fun _ z => nomatch z) q.1, fun z => q.2 (hs a z)⟩
    | tk ks => exact ⟨at_del hc (fun _ z => nomatch z) q.1, fun z => q.2 (hs a z)⟩
    | tp ks =>
      obtain ⟨o, e1, c, d⟩ := q
      exact ⟨o, at_del hc (fun _ z => by injection z with _ z; cases z) e1, c, d⟩
    | no => exact q
    | ex a0 dd fs => exact ⟨q.1, at_del hc (fun _ z => nomatch z) q.2.1, fun z => q.2.2 (hs _ z)⟩
    | kn ks =>
      obtain ⟨kas, e1, q1, n1, t1⟩ := q
      exact ⟨kas, e1, at_del hc (fun _ z => nomatch z) q1, fun z => n1 (hs a z), fun x hx => tqt_del hc hs (t1 x hx)⟩
  | .odc _, _, _, h => by unfold Rep at h; exact h.elim
  | .odt _, _, _, h => by unfold Rep at h; exact h.elim
  | .odu _, _, _, h => by unfold Rep at h; exact h.elim
  | .odn _, _, _, h => by unfold Rep at h; exact h.elim
  | .odp _, _, _, h => by unfold Rep at h; exact h.elim
  | .dsk _ _, _, _, h => by unfold Rep at h; exact h.elim
  | .clo _ _ _ _ _ _, _, n, _ => by unfold D.noclo at n; cases n
  | .ownA _ _, _, n, _ => by unfold D.noclo at n; cases n
  | .cob _ _ _ _ _ _ _ _, _, n, _ => by unfold D.noclo at n; cases n
theorem reps_del (hc : ∀ a ∈ as, ∃ o, H a = some (FzO o)) (hs : ∀ a, P' a → P a) : ∀ (ds : List D) {vs : List V}, noclos ds = true → Reps K P H ds vs → Reps K P' (delC as H) ds vs
  | [], _, _, h => by unfold Reps at h ⊢; exact h
  | d :: ds, _, n, h => by
    unfold noclos at n
    rw [Bool.and_eq_true] at n
    unfold Reps at h ⊢
    obtain ⟨v, r, e, h1, h2⟩ := h
    exact ⟨v, r, e, rep_del hc hs d n.1 h1, reps_del hc hs ds n.2 h2⟩
end
end

end Mi

namespace Mi
open PySem PySem.Spec PyProof.Rows L2
variable [TabsC]
def E00 : XK := fun _ _ _ => False
def LamOk (P : Program) (w : World) (K : PySem.W.Frag) (mg : Str → Option Value) (base : Heap) (k : Nat) (F : NdefX.NF) (ex : Expr) (fr : List Str) (ws : List V) (caps : List D) (n : Nat) (L : MF) : Prop :=
  ∀ (f : Addr) (A : Around) (outer : List PySem.Env) (s : Shared) (H : Hp) (us : List Value) (vs : List V) (ds : List D) (PP : Addr → Prop) (d : D) (Q : VK),
    Room k A → Env0 P w K mg base A outer s H → (∃ pm ctv, s.heap.get? f = some (PySem.W.kla_obj F.name F.qual F.params ex F.scope F.cl pm F.c ctv)) → s.heap.CodeRec (.ref F.c) F.qual →
    NdefX.CellsAt F.cl fr (ws.map some) s.heap H → Vals vs us → ds.length = n → Reps K PP H ds vs → Reps K PP H caps ws → Mut' PP H → L ds = .ok d → atomD d = true →
    (∀ v H', SameT H H' → (∀ P' H2, Rep K P' H2 d v) → Q v H') → codeAny (model P w) A (.call (.ref f) ⟨us, []⟩) (CR (L2N.CX P w) outer P w H s Q E00) s
section
variable {P : Program} {w : World} {K : PySem.W.Frag} {mg : Str → Option Value} {base : Heap}
theorem LamOk.mono {j k : Nat} {F : NdefX.NF} {ex : Expr} {fr : List Str} {ws : List V} {caps : List D} {n : Nat} {L : MF} (h : LamOk P w K mg base j F ex fr ws caps n L) (hk : j ≤ k) : LamOk P w K mg base k F ex fr ws caps n L :=
  fun f A outer s H us vs ds PP d Q hr => h f A outer s H us vs ds PP d Q (hr.mono hk)
end

section
theorem frzs_app : ∀ A B : List D, frzs (A ++ B) = frzs A ++ frzs B
  | [], B => rfl
  | d :: A, B => by
    show d.frz :: frzs (A ++ B) = d.frz :: (frzs A ++ frzs B)
    rw [frzs_app A B]
variable {K : PySem.W.Frag} {mg : Str → Option Value} {W : WX} {n i : Nat} {L : MF} {t : TA} {ma : MA} {f : Addr} {F : NdefX.NF} {ex : Expr} {fr : List Str} {ws : List V} {caps : List D}
end
end Mi

namespace Mi
open PySem PySem.Spec PyProof.Rows L2
variable [TabsC]
structure Maker (X : Cx) (nm : Nat → Nat → Str) : Prop where
  ex : ∃ c P, LamX.TabB X.base X.mg c P ∧ X.env.code = .ref c ∧ (P, nm) ∈ TabsC.T ∧ ∀ p ∈ TabsC.T, p.1 = P → p.2 = nm
section
variable {K : PySem.W.Frag} {P P' : Addr → Prop} {H H' : Hp}
mutual
theorem flat_rep (k : ∀ a xs, H a = some (.tup xs) → ¬ P a → H' a = some (.tup xs) ∧ ¬ P' a) (kf : ∀ a o xs, H a = some (.frz o (.tup xs)) → H' a = some (.frz o (.tup xs))) : ∀ (d : D) {v : V}, d.flat = true → Rep K P H d v → Rep K P' H' d v
  | .non, _, _, h => by unfold Rep at h ⊢; exact h
  | .bl _, _, _, h => by unfold Rep at h ⊢; exact h
  | .int _, _, _, h => by unfold Rep at h ⊢; exact h
  | .str _, _, _, h => by unfold Rep at h ⊢; exact h
  | .raw _, _, _, h => by unfold Rep at h ⊢; exact h
  | .tup ds, _, n, h => by
    unfold D.flat at n; unfold Rep at h ⊢
    obtain ⟨a, vs, e, q, r⟩ := h
    refine ⟨a, vs, e, q.imp (fun z => ?_) id, flat_reps k kf ds n r⟩
    rcases z with z | ⟨o, z⟩
    · exact .inl (k a vs z.1 z.2)
    · exact .inr ⟨o, kf a o vs z⟩
  | .lst _, _, n, _ => by unfold D.flat at n; cases n
  | .cst _, _, n, _ => by unfold D.flat at n; cases n
  | .own _, _, n, _ => by unfold D.flat at n; cases n
  | .dic, _, n, _ => by unfold D.flat at n; cases n
  | .dct _, _, n, _ => by unfold D.flat at n; cases n
  | .odc _, _, n, _ => by unfold D.flat at n; cases n
  | .odt _, _, n, _ => by unfold D.flat at n; cases n
  | .odu _, _, n, _ => by unfold D.flat at n; cases n
  | .odn _, _, n, _ => by unfold D.flat at n; cases n
  | .odp _, _, n, _ => by unfold D.flat at n; cases n
  | .dsk _ _, _, n, _ => by unfold D.flat at n; cases n
  | .clo _ _ _ _ _ _, _, n, _ => by unfold D.flat at n; cases n
  | .ownA _ _, _, n, _ => by unfold D.flat at n; cases n
  | .cob _ _ _ _ _ _ _ _, _, n, _ => by unfold D.flat at n; cases n
theorem flat_reps (k : ∀ a xs, H a = some (.tup xs) → ¬ P a → H' a = some (.tup xs) ∧ ¬ P' a) (kf : ∀ a o xs, H a = some (.frz o (.tup xs)) → H' a = some (.frz o (.tup xs))) : ∀ (ds : List D) {vs : List V}, flats ds = true → Reps K P H ds vs → Reps K P' H' ds vs
  | [], _, _, h => by unfold Reps at h ⊢; exact h
  | d :: ds, _, n, h => by
    unfold flats at n
    rw [Bool.and_eq_true] at n
    unfold Reps at h ⊢
    obtain ⟨v, r, e, h1, h2⟩ := h
    exact ⟨v, r, e, flat_rep k kf d n.1 h1, flat_reps k kf ds n.2 h2⟩
end
mutual
theorem flat_plain : ∀ (d : D), d.flat = true → d.plain = true
  | .non, _ => rfl | .bl _, _ => rfl | .int _, _ => rfl | .str _, _ => rfl | .raw _, _ => rfl
  | .tup ds, h => by unfold D.flat at h; unfold D.plain; exact flats_plains ds h
  | .lst _, h => by unfold D.flat at h; cases h
  | .cst _, h => by unfold D.flat at h; cases h
  | .own _, h => by unfold D.flat at h; cases h
  | .dic, h => by unfold D.flat at h; cases h
  | .dct _, h => by unfold D.flat at h; cases h
  | .odc _, h => by unfold D.flat at h; cases h
  | .odt _, h => by unfold D.flat at h; cases h
  | .odu _, h => by unfold D.flat at h; cases h
  | .odn _, h => by unfold D.flat at h; cases h
  | .odp _, h => by unfold D.flat at h; cases h
  | .dsk _ _, h => by unfold D.flat at h; cases h
  | .clo _ _ _ _ _ _, h => by unfold D.flat at h; cases h
  | .ownA _ _, h => by unfold D.flat at h; cases h
  | .cob _ _ _ _ _ _ _ _, h => by unfold D.flat at h; cases h
theorem flats_plains : ∀ (ds : List D), flats ds = true → plains ds = true
  | [], _ => rfl
  | d :: ds, h => by
    unfold flats at h; rw [Bool.and_eq_true] at h
    unfold plains; rw [flat_plain d h.1, flats_plains ds h.2]; rfl
end
end

def capsOf (e : Env) : List Nat → Option (List D)
  | [] => some []
  | j :: js => match (e : List (Option D))[j]? with
    | some (some d) => (capsOf e js).map (d :: ·)
    | _ => none
theorem Rel.caps {K : PySem.W.Frag} {Y : Addr → Prop} {H0 H : Hp} {io : List (Nat × Addr)} {T : List D} {t : List V} {e : Env} {s : St} (r : Rel K Y H0 io T t e s H) : ∀ (js : List Nat) (caps : List D), capsOf e js = some caps → plains caps = true →
    ∃ ws, js.map (NdefX.slotAt s) = ws.map some ∧ ws.length = caps.length ∧ Rel K Y H0 io (caps ++ T) (ws ++ t) e s H
  | [], caps, h, _ => by cases h; exact ⟨[], rfl, rfl, r⟩
  | j :: js, caps, h, hp => by
    unfold capsOf at h
    cases c : (e : List (Option D))[j]? with
    | none => rw [c] at h; cases h
    | some o =>
      cases o with
      | none => rw [c] at h; cases h
      | some d =>
        rw [c] at h
        obtain ⟨cs, h1, rfl⟩ := Option.map_eq_some_iff.mp (show (capsOf e js).map (d :: ·) = some caps from h)
        unfold plains at hp
        rw [Bool.and_eq_true] at hp
        obtain ⟨ws, q1, q2, q3⟩ := Rel.caps r js cs h1 hp.2
        obtain ⟨v, hv, q4⟩ := q3.get c hp.1
        exact ⟨v :: ws, by rw [List.map_cons, List.map_cons, q1, NdefX.slotAt_of hv], by simp [q2], q4⟩
end Mi

namespace Mi
open PySem PySem.Spec PyProof.Rows L2
variable [TabsC]
structure MkT (base : Heap) (mg : Str → Option Value) (c : Addr) (q : Str) : Prop where
  ex : ∃ P, LamX.TabB base mg c P ∧ (P, fun _ _ => q) ∈ TabsC.T ∧ ∀ p ∈ TabsC.T, p.1 = P → p.2 = fun _ _ => q
def kCp (o : Option (List D)) : Option (Option D) → Option (List D)
  | some (some d) => o.map (d :: ·)
  | _ => none
theorem capsOf_nil {e : Env} : capsOf e [] = some [] := rfl
theorem capsOf_cons {e : Env} {j : Nat} {js : List Nat} : capsOf e (j :: js) = kCp (capsOf e js) ((e : List (Option D))[j]?) := rfl
theorem kCp_some {o : List D} {d : D} : kCp (some o) (some (some d)) = some (d :: o) := rfl
end Mi

namespace Mi
open PySem PySem.Spec PyProof.Rows L2
variable [TabsC]
def LamP (P : Program) (w : World) (K : PySem.W.Frag) (mg : Str → Option Value) (base : Heap) (k : Nat) (F : NdefX.NF) (ex : Expr) (fr : List Str) (ws : List V) (sp : List V → Hp → VK → Prop) : Prop :=
  ∀ (f : Addr) (A : Around) (outer : List PySem.Env) (s : Shared) (H : Hp) (us : List Value) (vs : List V) (Q : VK),
    Room k A → Env0 P w K mg base A outer s H → (∃ pm ctv, s.heap.get? f = some (PySem.W.kla_obj F.name F.qual F.params ex F.scope F.cl pm F.c ctv)) → s.heap.CodeRec (.ref F.c) F.qual →
    NdefX.CellsAt F.cl fr (ws.map some) s.heap H → Vals vs us → sp vs H Q → codeAny (model P w) A (.call (.ref f) ⟨us, []⟩) (CR (L2N.CX P w) outer P w H s Q E00) s
def spLO (K : PySem.W.Frag) (n : Nat) (b : Addr) (ws2 : List V) (caps : List D) (L : MO) : List V → Hp → VK → Prop := fun vs H Q => ∃ (ds xs : List D) (wsb : List V) (PP : Addr → Prop) (d : D) (ys : List D),
  ds.length = n ∧ H b = some (.lst wsb) ∧ ¬ PP b ∧ Reps K (fun c => c = b ∨ PP c) H xs wsb ∧ Reps K (fun c => c = b ∨ PP c) H ds vs ∧ Reps K (fun c => c = b ∨ PP c) H caps ws2 ∧ Mut' PP H ∧ L xs ds = .ok d ys ∧ atomD d = true ∧
    ∀ v H' vs', SameA b H H' → H' b = some (.lst vs') → Reps K (fun c => c = b ∨ PP c) H' ys vs' → (∀ P' H2, Rep K P' H2 d v) → Q v H'
theorem LamP.mono {P : Program} {w : World} {K : PySem.W.Frag} {mg : Str → Option Value} {base : Heap} {j k : Nat} {F : NdefX.NF} {ex : Expr} {fr : List Str} {ws : List V} {sp : List V → Hp → VK → Prop} (h : LamP P w K mg base j F ex fr ws sp) (hk : j ≤ k) : LamP P w K mg base k F ex fr ws sp :=
  fun f A outer s H us vs Q hr => h f A outer s H us vs Q (hr.mono hk)

end Mi

namespace Mi
open PySem PySem.Spec PyProof.Rows L2
variable [TabsC]
section
variable {K : PySem.W.Frag} {mg : Str → Option Value} {W : WX} {Y : Addr → Prop} {H0 H : Hp} {io : List (Nat × Addr)} {T : List D} {t : List V} {e : Env} {s : St} {f b : Addr} {F : NdefX.NF} {ex : Expr} {fr : List Str} {ws : List V} {caps xs : List D}
abbrev QCo : Type := List D → D
end
end Mi

namespace Mi
open PySem PySem.Spec PyProof.Rows L2
variable [TabsC]
theorem spLO.imp {K : PySem.W.Frag} {n : Nat} {b : Addr} {ws2 : List V} {caps : List D} {L L' : MO} (h : ∀ xs ds d ys, L xs ds = .ok d ys → L' xs ds = .ok d ys) {vs : List V} {H : Hp} {Q : VK} (x : spLO K n b ws2 caps L vs H Q) : spLO K n b ws2 caps L' vs H Q := by
  obtain ⟨ds, xs, wsb, PP, d, ys, h1, h2, h3, h4, h5, h6, h7, h8, h9, h10⟩ := x
  exact ⟨ds, xs, wsb, PP, d, ys, h1, h2, h3, h4, h5, h6, h7, h _ _ _ _ h8, h9, h10⟩
end Mi

namespace Mi
open PySem PySem.Spec PyProof.Rows L2
variable [TabsC]
end Mi

namespace Mi
open PySem PySem.Spec PyProof.Rows L2
variable [TabsC]
open PySem.W (EachIs dataLe AllAlike Sortable keyToks keyToksAll alike alikeAll)
end Mi

namespace Mi
open PySem PySem.Spec PyProof.Rows L2
variable [TabsC]
end Mi

namespace Mi
open PySem PySem.Spec PyProof.Rows L2
variable [TabsC]
structure LeC (K : PySem.W.Frag) (mg : Str → Option Value) (x : Str) (L : Addr) (mc : Value) : Prop where
  g : mg x = some (.ref L)
  rd : PySem.W.readsIn K L mc = true
  ga : PySem.W.specialIn K (.ref L) "__getattribute__" = some (some (.builtin "type.__getattribute__"))
  at_ : PySem.W.findCls K (.ref L) mc "__init__" = some (.val (.builtin "ValueError.__init__"))
end Mi

namespace Mi
open PySem PySem.Spec PyProof.Rows L2
variable [TabsC]
end Mi

namespace Mi
open PySem PySem.Spec PyProof.Rows L2
variable [TabsC]
end Mi

namespace Mi
open PySem PySem.Spec PyProof.Rows L2
variable [TabsC]
end Mi

namespace Mi
open PySem PySem.Spec PyProof.Rows L2
variable [TabsC]
end Mi

namespace Mi
open PySem PySem.Spec PyProof.Rows L2
variable [TabsC]
end Mi

namespace Mi
open PySem PySem.Spec PyProof.Rows L2
variable [TabsC]
end Mi

namespace Mi
open PySem PySem.Spec PyProof.Rows L2
variable [TabsC]
end Mi

namespace Mi
open PySem PySem.Spec PyProof.Rows L2
variable [TabsC]
section
variable {K : PySem.W.Frag} {Y : Addr → Prop} {H0 H : Hp} {io : List (Nat × Addr)} {T : List D} {τ : List V} {e : Env} {s : St}
theorem Rel.ints : ∀ ns : List Int, Rel K Y H0 io T τ e s H → Rel K Y H0 io (ns.map D.int ++ T) (ns.map V.int ++ τ) e s H
  | [], r => r
  | n :: ns, r => Rel.int (Rel.ints ns r)
end
end Mi

namespace Mi
open PySem PySem.Spec PyProof.Rows L2
variable [TabsC]
structure NScopeC (N ps fr : List Str) (sc : Scope) : Prop where
  kind : sc.kind = .function
  co : sc.isCoroutine = false
  gen : sc.isGenerator = false
  nd : N.Nodup
  pre : N.take (ps.length + fr.length) = ps ++ fr
  par : ∀ x ∈ ps, sc.names.lookup x = some .local ∨ sc.names.lookup x = some .cell
  free : ∀ y ∈ sc.names, y.2 = .free → y.1 ∈ fr
  frk : ∀ x ∈ fr, sc.names.lookup x = some .free
  frc : ∀ y ∈ sc.names, y.2 = .cell → y.1 ∉ fr
end Mi

namespace Mi
open PySem PySem.Spec PyProof.Rows L2
variable [TabsC]
abbrev QU := List Int × List Int × Addr × Addr
end Mi

namespace Mi
open PySem PySem.Spec PyProof.Rows L2
variable [TabsC]
end Mi

namespace Mi
open PySem PySem.Spec PyProof.Rows L2
variable [TabsC]
end Mi

namespace Mi
open PySem PySem.Spec PyProof.Rows L2
variable [TabsC]
def FzT (H : Hp) (a : Addr) (xs : List V) : Prop := ∃ o, H a = some (.frz o (.tup xs)) ∧ o.cls = .type "tuple" ∧ o.dict = none
theorem FzT.sq {K : PySem.W.Frag} {H : Hp} {a : Addr} {xs : List V} (h : FzT H a xs) : SqT K H a xs := let ⟨o, e, _⟩ := h; .inl (.inr ⟨o, e⟩)
section
variable {K : PySem.W.Frag} {mg : Str → Option Value} {W : WX} {X : Addr → Prop} {H0 H : Hp} {io : List (Nat × Addr)} {T : List D} {t : List V} {e : Env} {s : St} {d : D} {v : V}
theorem Own.tp {P : Addr → Prop} {zs : List Int} {as : List Addr} (h : Own K P H (.dct (.tp zs)) v as) : ∃ a, v = .ref a ∧ FzT H a (zs.map V.int) ∧ as = [] := by
  unfold Own Rep at h
  obtain ⟨⟨a, ev, o, e1, e2, e3⟩, eb⟩ := h
  exact ⟨a, ev, ⟨o, e1, e2, e3⟩, eb⟩
end
end Mi

namespace Mi
open PySem PySem.Spec PyProof.Rows L2
open PySem.W (EachIs dataLe AllAlike Sortable keyToks keyToksAll alike alikeAll)
variable [TabsC]
def NkS (K : PySem.W.Frag) (H : Hp) (a : Addr) (k : Int × List Int) : Prop := ∃ b, SqT K H a [V.int k.1, V.ref b] ∧ SqT K H b (k.2.map V.int)
theorem NkT.s {K : PySem.W.Frag} {P : Addr → Prop} {H : Hp} {a : Addr} {k : Int × List Int} (h : NkT K P H a k) : NkS K H a k := let ⟨b, h1, h2⟩ := h; ⟨b, h1.sq, h2.sq⟩
abbrev NK := Int × List Int
abbrev QN := NK × List Int × Addr × Addr
end Mi

namespace Mi
open PySem PySem.Spec PyProof.Rows L2
variable [TabsC]
open PySem.W (EachIs dataLe AllAlike Sortable keyToks keyToksAll alike alikeAll)
end Mi

namespace Mi
open PySem PySem.Spec PyProof.Rows L2
variable [TabsC]
mutual
def shal : D → Bool
  | .non => true | .bl _ => true | .int _ => true | .str _ => true | .raw _ => true
  | .tup ds => shals ds | .lst ds => ds.all atomD | .cst ds => shals ds | .own ds => shals ds
  | .dic => false | .dct _ => false | .odc _ => false | .odt _ => false | .odu _ => false | .odn _ => false | .odp _ => false | .dsk _ _ => false | .clo _ _ _ _ _ _ => false | .ownA _ _ => false | .cob _ _ _ _ _ _ _ _ => false
def shals : List D → Bool
  | [] => true
  | d :: ds => shal d && shals ds
end
def shalE : Env → Bool
  | [] => true
  | none :: e => shalE e
  | some d :: e => shal d && shalE e
section
variable {K : PySem.W.Frag} {P : Addr → Prop} {H : Hp} {a : Addr} {ws : List V}
theorem atoms_noref {b : Addr} : ∀ {ds : List D} {vs : List V}, ds.all atomD = true → Reps K P H ds vs → V.ref b ∉ vs
  | [], vs, _, h => by unfold Reps at h; subst h; simp
  | d :: ds, vs, ha, h => by
    unfold Reps at h
    obtain ⟨v, r, rfl, h1, h2⟩ := h
    rw [List.all_cons, Bool.and_eq_true] at ha
    have ih := atoms_noref ha.2 h2 (b := b)
    intro z
    rcases List.mem_cons.mp z with z | z
    · subst z
      cases d <;> first | (cases ha.1; done) | (unfold Rep at h1; cases h1)
    · exact ih z
mutual
theorem Rep.lift (hc : H a = some (.lst ws)) (hb : ∃ b, V.ref b ∈ ws) : ∀ (d : D) {v : V}, shal d = true → Rep K P H d v → Rep K (fun x => x = a ∨ P x) H d v
  | .non, _, _, h => h | .bl _, _, _, h => h | .int _, _, _, h => h | .str _, _, _, h => h | .raw _, _, _, h => h
  | .tup ds, v, hs, h => by
    unfold Rep at h ⊢
    obtain ⟨a', vs, e, t, r⟩ := h
    unfold shal at hs
    refine ⟨a', vs, e, ?_, Reps.lift hc hb ds hs r⟩
    rcases t with t | t
    · rcases t with ⟨t, n⟩ | t
      · exact .inl (.inl ⟨t, fun z => z.elim (fun z => by rw [z, hc] at t; cases t) n⟩)
      · exact .inl (.inr t)
    · exact .inr t
  | .lst ds, v, hs, h => by
    unfold Rep at h ⊢
    obtain ⟨a', vs, e, ⟨t, n⟩, r⟩ := h
    unfold shal at hs
    have na : a' ≠ a := fun z => by
      rw [z, hc] at t
      cases t
      obtain ⟨b, hb⟩ := hb
      exact atoms_noref hs r hb
    refine ⟨a', vs, e, ⟨t, fun z => z.elim na n⟩, Reps.atoms hs r⟩
  | .cst ds, v, hs, h => by
    unfold Rep at h ⊢
    obtain ⟨a', vs, e, t, r⟩ := h
    unfold shal at hs
    exact ⟨a', vs, e, t, Reps.lift hc hb ds hs r⟩
  | .own _, _, _, h => by unfold Rep at h; exact h.elim
  | .dic, _, hs, _ => by unfold shal at hs; cases hs
  | .dct _, _, hs, _ => by unfold shal at hs; cases hs
  | .odc _, _, hs, _ => by unfold shal at hs; cases hs
  | .odt _, _, hs, _ => by unfold shal at hs; cases hs
  | .odu _, _, hs, _ => by unfold shal at hs; cases hs
  | .odn _, _, hs, _ => by unfold shal at hs; cases hs
  | .odp _, _, hs, _ => by unfold shal at hs; cases hs
  | .dsk _ _, _, hs, _ => by unfold shal at hs; cases hs
  | .clo _ _ _ _ _ _, _, hs, _ => by unfold shal at hs; cases hs
  | .ownA _ _, _, hs, _ => by unfold shal at hs; cases hs
  | .cob _ _ _ _ _ _ _ _, _, hs, _ => by unfold shal at hs; cases hs
theorem Reps.lift (hc : H a = some (.lst ws)) (hb : ∃ b, V.ref b ∈ ws) : ∀ (ds : List D) {vs : List V}, shals ds = true → Reps K P H ds vs → Reps K (fun x => x = a ∨ P x) H ds vs
  | [], _, _, h => by unfold Reps at h ⊢; exact h
  | d :: ds, _, hs, h => by
    unfold Reps at h ⊢
    unfold shals at hs
    rw [Bool.and_eq_true] at hs
    obtain ⟨v, r, e, h1, h2⟩ := h
    exact ⟨v, r, e, Rep.lift hc hb d hs.1 h1, Reps.lift hc hb ds hs.2 h2⟩
theorem Reps.atoms {P' : Addr → Prop} : ∀ {ds : List D} {vs : List V}, ds.all atomD = true → Reps K P H ds vs → Reps K P' H ds vs
  | [], _, _, h => by unfold Reps at h ⊢; exact h
  | d :: ds, _, hs, h => by
    unfold Reps at h ⊢
    rw [List.all_cons, Bool.and_eq_true] at hs
    obtain ⟨v, r, e, h1, h2⟩ := h
    refine ⟨v, r, e, ?_, Reps.atoms hs.2 h2⟩
    have hd := hs.1
    cases d <;> first | (cases hd; done) | (unfold Rep at h1 ⊢; exact h1)
end
mutual
theorem Own.lift (hc : H a = some (.lst ws)) (hb : ∃ b, V.ref b ∈ ws) : ∀ (d : D) {v : V} {as : List Addr}, shal d = true → Own K P H d v as → Own K (fun x => x = a ∨ P x) H d v as
  | .own ds, v, as, hs, h => by
    unfold Own at h ⊢
    obtain ⟨a', vs, es, e, q, o, ea⟩ := h
    unfold shal at hs
    exact ⟨a', vs, es, e, q, Owns.lift hc hb ds hs o, ea⟩
  | .non, _, _, hs, h => by unfold Own at h ⊢; exact ⟨Rep.lift hc hb .non hs h.1, h.2⟩
  | .bl b, _, _, hs, h => by unfold Own at h ⊢; exact ⟨Rep.lift hc hb (.bl b) hs h.1, h.2⟩
  | .int b, _, _, hs, h => by unfold Own at h ⊢; exact ⟨Rep.lift hc hb (.int b) hs h.1, h.2⟩
  | .str b, _, _, hs, h => by unfold Own at h ⊢; exact ⟨Rep.lift hc hb (.str b) hs h.1, h.2⟩
  | .raw b, _, _, hs, h => by unfold Own at h ⊢; exact ⟨Rep.lift hc hb (.raw b) hs h.1, h.2⟩
  | .tup b, _, _, hs, h => by unfold Own at h ⊢; exact ⟨Rep.lift hc hb (.tup b) hs h.1, h.2⟩
  | .lst b, _, _, hs, h => by unfold Own at h ⊢; exact ⟨Rep.lift hc hb (.lst b) hs h.1, h.2⟩
  | .cst b, _, _, hs, h => by unfold Own at h ⊢; exact ⟨Rep.lift hc hb (.cst b) hs h.1, h.2⟩
  | .dic, _, _, hs, _ => by unfold shal at hs; cases hs
  | .dct _, _, _, hs, _ => by unfold shal at hs; cases hs
  | .odc _, _, _, hs, _ => by unfold shal at hs; cases hs
  | .odt _, _, _, hs, _ => by unfold shal at hs; cases hs
  | .odu _, _, _, hs, _ => by unfold shal at hs; cases hs
  | .odn _, _, _, hs, _ => by unfold shal at hs; cases hs
  | .odp _, _, _, hs, _ => by unfold shal at hs; cases hs
  | .dsk _ _, _, _, hs, _ => by unfold shal at hs; cases hs
  | .clo _ _ _ _ _ _, _, _, hs, _ => by unfold shal at hs; cases hs
  | .ownA _ _, _, _, hs, _ => by unfold shal at hs; cases hs
  | .cob _ _ _ _ _ _ _ _, _, _, hs, _ => by unfold shal at hs; cases hs
theorem Owns.lift (hc : H a = some (.lst ws)) (hb : ∃ b, V.ref b ∈ ws) : ∀ (ds : List D) {vs : List V} {as : List Addr}, shals ds = true → Owns K P H ds vs as → Owns K (fun x => x = a ∨ P x) H ds vs as
  | [], _, _, _, h => by unfold Owns at h ⊢; exact h
  | d :: ds, _, _, hs, h => by
    unfold Owns at h ⊢
    unfold shals at hs
    rw [Bool.and_eq_true] at hs
    obtain ⟨v, r, bs, cs, e, h1, h2, ea⟩ := h
    exact ⟨v, r, bs, cs, e, Own.lift hc hb d hs.1 h1, Owns.lift hc hb ds hs.2 h2, ea⟩
end
theorem Cells.lift (hc : H a = some (.lst ws)) (hb : ∃ b, V.ref b ∈ ws) : ∀ (e : Env) {s : St} {as : List Addr}, shalE e = true → Cells K P H e s as → Cells K (fun x => x = a ∨ P x) H e s as
  | [], _, _, _, h => by unfold Cells at h ⊢; exact h
  | none :: e, _, _, hs, h => by
    unfold Cells at h ⊢
    obtain ⟨x, r, e1, h2⟩ := h
    exact ⟨x, r, e1, Cells.lift hc hb e hs h2⟩
  | some d :: e, _, _, hs, h => by
    unfold Cells at h ⊢
    have hs : (shal d && shalE e) = true := hs
    rw [Bool.and_eq_true] at hs
    obtain ⟨v, r, bs, cs, e1, o, h2, ea⟩ := h
    exact ⟨v, r, bs, cs, e1, Own.lift hc hb d hs.1 o, Cells.lift hc hb e hs.2 h2, ea⟩
end
mutual
theorem Own.lsts {K : PySem.W.Frag} {P : Addr → Prop} {H : Hp} : ∀ (d : D) {v : V} {as : List Addr}, shal d = true → Own K P H d v as → ∀ x ∈ as, ∃ vs, H x = some (.lst vs)
  | .own ds, v, as, hs, h, x, hx => by
    unfold Own at h
    obtain ⟨a', vs, es, e, q, o, ea⟩ := h
    unfold shal at hs
    subst ea
    rcases List.mem_cons.mp hx with rfl | hx
    · exact ⟨vs, q⟩
    · exact Owns.lsts ds hs o x hx
  | .non, _, _, _, h, x, hx => by unfold Own at h; rw [h.2] at hx; cases hx
  | .bl _, _, _, _, h, x, hx => by unfold Own at h; rw [h.2] at hx; cases hx
  | .int _, _, _, _, h, x, hx => by unfold Own at h; rw [h.2] at hx; cases hx
  | .str _, _, _, _, h, x, hx => by unfold Own at h; rw [h.2] at hx; cases hx
  | .raw _, _, _, _, h, x, hx => by unfold Own at h; rw [h.2] at hx; cases hx
  | .tup _, _, _, _, h, x, hx => by unfold Own at h; rw [h.2] at hx; cases hx
  | .lst _, _, _, _, h, x, hx => by unfold Own at h; rw [h.2] at hx; cases hx
  | .cst _, _, _, _, h, x, hx => by unfold Own at h; rw [h.2] at hx; cases hx
  | .dic, _, _, hs, _, _, _ => by unfold shal at hs; cases hs
  | .dct _, _, _, hs, _, _, _ => by unfold shal at hs; cases hs
  | .odc _, _, _, hs, _, _, _ => by unfold shal at hs; cases hs
  | .odt _, _, _, hs, _, _, _ => by unfold shal at hs; cases hs
  | .odu _, _, _, hs, _, _, _ => by unfold shal at hs; cases hs
  | .odn _, _, _, hs, _, _, _ => by unfold shal at hs; cases hs
  | .odp _, _, _, hs, _, _, _ => by unfold shal at hs; cases hs
  | .dsk _ _, _, _, hs, _, _, _ => by unfold shal at hs; cases hs
  | .clo _ _ _ _ _ _, _, _, hs, _, _, _ => by unfold shal at hs; cases hs
  | .ownA _ _, _, _, hs, _, _, _ => by unfold shal at hs; cases hs
  | .cob _ _ _ _ _ _ _ _, _, _, hs, _, _, _ => by unfold shal at hs; cases hs
theorem Owns.lsts {K : PySem.W.Frag} {P : Addr → Prop} {H : Hp} : ∀ (ds : List D) {vs : List V} {as : List Addr}, shals ds = true → Owns K P H ds vs as → ∀ x ∈ as, ∃ vs, H x = some (.lst vs)
  | [], _, _, _, h, x, hx => by unfold Owns at h; rw [h.2] at hx; cases hx
  | d :: ds, _, _, hs, h, x, hx => by
    unfold Owns at h
    unfold shals at hs
    rw [Bool.and_eq_true] at hs
    obtain ⟨v, r, bs, cs, e, h1, h2, ea⟩ := h
    subst ea
    rcases List.mem_append.mp hx with hx | hx
    · exact Own.lsts d hs.1 h1 x hx
    · exact Owns.lsts ds hs.2 h2 x hx
end
theorem Cells.lsts {K : PySem.W.Frag} {P : Addr → Prop} {H : Hp} : ∀ (e : Env) {s : St} {as : List Addr}, shalE e = true → Cells K P H e s as → ∀ x ∈ as, ∃ vs, H x = some (.lst vs)
  | [], _, _, _, h, x, hx => by unfold Cells at h; rw [h.2] at hx; cases hx
  | none :: e, _, _, hs, h, x, hx => by
    unfold Cells at h
    obtain ⟨_, r, e1, h2⟩ := h
    exact Cells.lsts e hs h2 x hx
  | some d :: e, _, _, hs, h, x, hx => by
    unfold Cells at h
    have hs : (shal d && shalE e) = true := hs
    rw [Bool.and_eq_true] at hs
    obtain ⟨v, r, bs, cs, e1, o, h2, ea⟩ := h
    subst ea
    rcases List.mem_append.mp hx with hx | hx
    · exact Own.lsts d hs.1 o x hx
    · exact Cells.lsts e hs.2 h2 x hx
section
variable {i : Nat} {m : ME} {e e2 : Env} {xs : List D} {d : D}
theorem shalE_nil : shalE [] = true := rfl
theorem shalE_none : shalE (none :: e) = shalE e := rfl
theorem shalE_some : shalE (some d :: e) = (shal d && shalE e) := rfl
end
end Mi

namespace Mi
open PySem PySem.Spec PyProof.Rows L2
variable [TabsC]
end Mi

namespace Mi
open PySem PySem.Spec PyProof.Rows L2
variable [TabsC]
end Mi

namespace Mi
open PySem PySem.Spec PyProof.Rows L2
variable [TabsC]
def CDivX (_ j : Int) : Prop := j ≠ 0 ∧ j.natAbs.log2 < 9000
instance (i j : Int) : Decidable (CDivX i j) := by unfold CDivX; infer_instance
end Mi

namespace Mi
open PySem PySem.Spec PyProof.Rows L2
variable [TabsC]
section
variable {K : PySem.W.Frag} {Y : Addr → Prop} {H0 H : Hp} {io : List (Nat × Addr)} {T : List D} {t : List V} {e : Env} {s : St}
theorem Owns.frzR {P P' : Addr → Prop} (m : Mono P H P' H) : ∀ (ds : List D) {vs : List V} {as : List Addr}, (∀ a ∈ as, ¬ P' a) → Owns K P H ds vs as → Reps K P' H (frzs ds) vs
  | [], vs, as, _, h => by unfold Owns at h; unfold frzs Reps; exact h.1
  | d :: ds, vs, as, n, h => by
    unfold Owns at h
    obtain ⟨v, r, bs, cs, e, h1, h2, ea⟩ := h
    subst ea
    unfold frzs Reps
    exact ⟨v, r, e, Own.frz d m (fun a ha => n a (List.mem_append_left _ ha)) h1, Owns.frzR m ds (fun a ha => n a (List.mem_append_right _ ha)) h2⟩
theorem Rel.inn {i : Nat} {ds : List D} (r : Rel K Y H0 io T t e s H) (hi : e[i]? = some (some (.own ds))) : Rel K Y H0 io T t (e.set i (some (.own (frzs ds)))) s H := by
  obtain ⟨as, bs, h1, h2, h3, h4, h5, h6⟩ := r
  obtain ⟨v, pre, b, post, q1, q2, q3, q4⟩ := Cells.focus e i h2 hi
  subst q3
  unfold Own at q2
  obtain ⟨a, ws, es, ev, qa, qo, eb⟩ := q2
  subst ev eb
  have sub : ∀ x, x ∈ as ++ (pre ++ [a] ++ post) → x ∈ as ++ (pre ++ (a :: es) ++ post) := fun x z => by
    simp only [List.mem_append, List.mem_cons, List.mem_singleton, List.not_mem_nil, or_false] at z ⊢
    rcases z with z | (z | z) | z
    · exact .inl z
    · exact .inr (.inl (.inl z))
    · exact .inr (.inl (.inr (.inl z)))
    · exact .inr (.inr z)
  have m : Mono (inX Y (as ++ (pre ++ (a :: es) ++ post))) H (inX Y (as ++ (pre ++ [a] ++ post))) H := mono_sub sub
  have p0 : (as ++ (pre ++ (a :: es) ++ post)).Perm (es ++ (as ++ (pre ++ [a] ++ post))) := by
    rw [List.perm_iff_count]
    intro x
    simp only [List.count_append, List.count_cons, List.count_nil]
    omega
  have nd := List.nodup_append.mp (p0.nodup_iff.mp h3)
  have hn : ∀ x ∈ es, ¬ inX Y (as ++ (pre ++ [a] ++ post)) x := fun x hx z => by
    rcases z with z | z
    · exact nd.2.2 x hx x z rfl
    · exact noX h4 h6.2 x (p0.mem_iff.mpr (List.mem_append_left _ hx)) z
  have q5 := (q4 _ H m fun _ _ => rfl).2 (.own (frzs ds)) (V.ref a) [a] (by
    unfold Own
    exact ⟨a, ws, [], rfl, qa, Owns.of (Owns.frzR m ds hn qo), rfl⟩)
  rw [set_same q1] at q5
  exact ⟨as, pre ++ [a] ++ post, Owns.mono T ⟨m, fun _ _ => rfl⟩ h1, q5, nd.2.1, fun x hx => h4 x (sub x hx), h5, h6⟩
end
def kIn (i : Nat) (m : ME) (e : Env) : Option (List D) → Rs (D × Env)
  | some ds => m (e.set i (some (.own (frzs ds))))
  | none => m e
theorem kIn_some {i : Nat} {m : ME} {e : Env} {ds : List D} : kIn i m e (some ds) = m (e.set i (some (.own (frzs ds)))) := rfl
theorem shal_int {i : Int} : shal (.int i) = true := rfl
theorem shal_bl {b : Bool} : shal (.bl b) = true := rfl
theorem shal_str {x : Str} : shal (.str x) = true := rfl
theorem shal_non : shal .non = true := rfl
theorem shal_own {ds : List D} : shal (.own ds) = shals ds := rfl
theorem shal_tup {ds : List D} : shal (.tup ds) = shals ds := rfl
theorem shal_lst {ds : List D} : shal (.lst ds) = ds.all atomD := rfl
theorem shals_nil : shals [] = true := rfl
theorem shals_cons {d : D} {ds : List D} : shals (d :: ds) = (shal d && shals ds) := rfl
end Mi

namespace Mi
open PySem PySem.Spec PyProof.Rows L2
variable [TabsC]
end Mi

namespace L2
open PySem PySem.Spec PyProof.Rows
end L2
namespace Mi
open PySem PySem.Spec PyProof.Rows L2
variable [TabsC]
end Mi

namespace Mi
open PySem PySem.Spec PyProof.Rows L2
variable [TabsC]
mutual
def toPyR : D → Option PyData
  | .non => some .none | .bl b => some (.bool b) | .int i => some (.int i) | .str x => some (.str x)
  | .tup ds => (toPysR ds).map PyData.tuple | .lst ds => (toPysR ds).map PyData.list | .dic => some (.dict [])
  | _ => none
def toPysR : List D → Option (List PyData)
  | [] => some []
  | d :: ds => (toPyR d).bind fun p => (toPysR ds).map (p :: ·)
end
mutual
def noLst : D → Bool
  | .tup ds => noLsts ds
  | .lst _ => false
  | _ => true
def noLsts : List D → Bool
  | [] => true
  | d :: ds => noLst d && noLsts ds
end
mutual
theorem toPyR_plain : ∀ (d : D) {p : PyData}, toPyR d = some p → d.plain = true
  | .non, _, _ => rfl | .bl _, _, _ => rfl | .int _, _, _ => rfl | .str _, _, _ => rfl | .dic, _, _ => rfl
  | .tup ds, p, h => by
    unfold toPyR at h
    obtain ⟨ps, e, _⟩ := Option.map_eq_some_iff.mp h
    exact toPysR_plain ds e
  | .lst ds, p, h => by
    unfold toPyR at h
    obtain ⟨ps, e, _⟩ := Option.map_eq_some_iff.mp h
    exact toPysR_plain ds e
  | .raw _, _, h => by unfold toPyR at h; cases h
  | .cst _, _, h => by unfold toPyR at h; cases h
  | .own _, _, h => by unfold toPyR at h; cases h
  | .dct _, _, h => by unfold toPyR at h; cases h
  | .odc _, _, h => by unfold toPyR at h; cases h
  | .odt _, _, h => by unfold toPyR at h; cases h
  | .odu _, _, h => by unfold toPyR at h; cases h
  | .odn _, _, h => by unfold toPyR at h; cases h
  | .odp _, _, h => by unfold toPyR at h; cases h
  | .dsk _ _, _, h => by unfold toPyR at h; cases h
  | .clo _ _ _ _ _ _, _, h => by unfold toPyR at h; cases h
  | .ownA _ _, _, h => by unfold toPyR at h; cases h
  | .cob _ _ _ _ _ _ _ _, _, h => by unfold toPyR at h; cases h
theorem toPysR_plain : ∀ (ds : List D) {ps : List PyData}, toPysR ds = some ps → plains ds = true
  | [], _, _ => rfl
  | d :: ds, ps, h => by
    unfold toPysR at h
    obtain ⟨p, e1, h2⟩ := Option.bind_eq_some_iff.mp h
    obtain ⟨qs, e2, _⟩ := Option.map_eq_some_iff.mp h2
    show (d.plain && plains ds) = true
    rw [toPyR_plain d e1, toPysR_plain ds e2]
    rfl
end
section
variable {X : Cx} {P : Addr → Prop} {pins : List (Addr × Obj)} {σ : St} {H : Hp} {s : Shared}
mutual
theorem Rep.readsR (I : Inv X pins σ H s) : ∀ (d : D) {v : V} {u : Value} {p : PyData}, Rep X.K P H d v → RelV v u → toPyR d = some p → ∃ as, Reads s.heap u p as ∧ (noLst d = true → sysModules ∉ as)
  | .non, v, u, p, h, r, e => by
    unfold Rep at h
    unfold toPyR at e
    subst h
    cases e
    cases r
    exact ⟨[], .none, fun _ => by simp⟩
  | .bl b, v, u, p, h, r, e => by
    unfold Rep at h
    unfold toPyR at e
    subst h
    cases e
    cases r
    exact ⟨[], .bool b, fun _ => by simp⟩
  | .int i, v, u, p, h, r, e => by
    unfold Rep at h
    unfold toPyR at e
    subst h
    cases e
    obtain ⟨t, rfl⟩ := r
    exact ⟨[], .int i t, fun _ => by simp⟩
  | .str x, v, u, p, h, r, e => by
    unfold Rep at h
    unfold toPyR at e
    subst h
    cases e
    obtain ⟨t, rfl⟩ := r
    exact ⟨[], .str x t, fun _ => by simp⟩
  | .tup ds, v, u, p, h, r, e => by
    unfold toPyR at e
    obtain ⟨ps, e1, rfl⟩ := Option.map_eq_some_iff.mp e
    unfold Rep at h
    obtain ⟨a, vs, rfl, t, w⟩ := h
    cases r
    obtain ⟨its, rv, ⟨o, ho, hc, n, hd⟩, _⟩ := I.tuple t.sq
    obtain ⟨as, q1, q2⟩ := Reps.readsR I ds w rv e1
    exact ⟨as, .tuple ho hc hd q1, fun z => q2 (by unfold noLst at z; exact z)⟩
  | .lst ds, v, u, p, h, r, e => by
    unfold toPyR at e
    obtain ⟨ps, e1, rfl⟩ := Option.map_eq_some_iff.mp e
    unfold Rep at h
    obtain ⟨a, vs, rfl, t, w⟩ := h
    cases r
    obtain ⟨its, rv, ⟨o, n, ho, hc, _, hd⟩, _⟩ := I.list (SqL.of t.1)
    obtain ⟨as, q1, q2⟩ := Reps.readsR I ds w rv e1
    exact ⟨a :: as, .list ho hc hd q1, fun z => by unfold noLst at z; cases z⟩
  | .dic, v, u, p, h, r, e => by
    unfold toPyR at e
    cases e
    unfold Rep at h
    obtain ⟨a, rfl, ha, _⟩ := h
    cases r
    obtain ⟨_, na, ws, kv, o, es, ep, ho, ex, hd, _, pr, _⟩ := I.hok a _ ha
    obtain rfl : ws = [] := by cases kv; rfl
    have es0 : es.toList = [] := by
      cases h : es.toList with
      | nil => rfl
      | cons y ys => rw [h] at pr; cases pr
    refine ⟨a :: ([] : List Addr) ++ [], .dict (kvs := []) ho ex.1 hd ?_ ?_, fun _ z => ?_⟩
    · rw [es0]; exact .nil
    · rw [es0]; exact .nil
    · have : sysModules = a := by simpa using z
      rw [← this] at na
      simp at na
  | .raw _, _, _, _, _, _, e => by unfold toPyR at e; cases e
  | .cst _, _, _, _, _, _, e => by unfold toPyR at e; cases e
  | .own _, _, _, _, _, _, e => by unfold toPyR at e; cases e
  | .dct _, _, _, _, _, _, e => by unfold toPyR at e; cases e
  | .odc _, _, _, _, _, _, e => by unfold toPyR at e; cases e
  | .odt _, _, _, _, _, _, e => by unfold toPyR at e; cases e
  | .odu _, _, _, _, _, _, e => by unfold toPyR at e; cases e
  | .odn _, _, _, _, _, _, e => by unfold toPyR at e; cases e
  | .odp _, _, _, _, _, _, e => by unfold toPyR at e; cases e
  | .dsk _ _, _, _, _, _, _, e => by unfold toPyR at e; cases e
  | .clo _ _ _ _ _ _, _, _, _, _, _, e => by unfold toPyR at e; cases e
  | .ownA _ _, _, _, _, _, _, e => by unfold toPyR at e; cases e
  | .cob _ _ _ _ _ _ _ _, _, _, _, _, _, e => by unfold toPyR at e; cases e
theorem Reps.readsR (I : Inv X pins σ H s) : ∀ (ds : List D) {vs : List V} {us : List Value} {ps : List PyData}, Reps X.K P H ds vs → Vals vs us → toPysR ds = some ps → ∃ as, ReadsAll s.heap us ps as ∧ (noLsts ds = true → sysModules ∉ as)
  | [], vs, us, ps, h, r, e => by
    unfold Reps at h
    unfold toPysR at e
    subst h
    cases e
    cases r
    exact ⟨[], .nil, fun _ => by simp⟩
  | d :: ds, vs, us, ps, h, r, e => by
    unfold toPysR at e
    obtain ⟨p, e1, h2⟩ := Option.bind_eq_some_iff.mp e
    obtain ⟨qs, e2, rfl⟩ := Option.map_eq_some_iff.mp h2
    unfold Reps at h
    obtain ⟨v, w, rfl, w1, w2⟩ := h
    cases r with
    | cons r1 r2 =>
      obtain ⟨as, q1, n1⟩ := Rep.readsR I d w1 r1 e1
      obtain ⟨bs, q2, n2⟩ := Reps.readsR I ds w2 r2 e2
      refine ⟨as ++ bs, .cons q1 q2, fun z => ?_⟩
      unfold noLsts at z
      rw [Bool.and_eq_true] at z
      rw [List.mem_append]
      exact fun y => y.elim (n1 z.1) (n2 z.2)
end
end
end Mi

namespace Mi
open PySem PySem.Spec PyProof.Rows L2
variable [TabsC]
end Mi

namespace Mi
open PySem PySem.Spec PyProof.Rows L2
def RunC (P : Program) (w : World) (K : PySem.W.Frag) (mg : Str → Option Value) (base : Heap) (CX : CXT) (f : Addr) (fd : FuncData) (ps : List Str) (sp : Sp) : Prop :=
  ∀ (s : Shared) (H : Hp) (args : Args) (us : List Value) (vs : List V) (Q : VK) (E : XK), Env0 P w K mg base callerA [] s H → BindsTo s fd args (ps.zip us) → Vals vs us → sp vs H Q E →
    codeAny (model P w) callerA (.call (.ref f) args) (CR CX [] P w H s Q E) s
theorem RunC.imp {P : Program} {w : World} {K : PySem.W.Frag} {mg : Str → Option Value} {base : Heap} {CX : CXT} {f : Addr} {fd : FuncData} {ps : List Str} {sp sp' : Sp} (F : RunC P w K mg base CX f fd ps sp) (h : ∀ vs H Q E, sp' vs H Q E → sp vs H Q E) :
    RunC P w K mg base CX f fd ps sp' := fun s H args us vs Q E e0 hb hv hs => F s H args us vs Q E e0 hb hv (h vs H Q E hs)
end Mi

namespace Mi
open PySem PySem.Spec PyProof.Rows L2
end Mi

namespace Mi
open PySem PySem.Spec PyProof.Rows L2
variable [TabsC]
def tChain3 (r r' r2 : R2) (ta tb tc td : TE) : TE := fun σ H Q => ta σ H fun x H1 => tb σ H1 fun y H2 => r x y H2 fun z H3 => ∃ k, z = .bl k ∧
  (if k = true then tc σ H3 fun w H4 => r' y w H4 fun z' H5 => ∃ k', z' = .bl k' ∧ (if k' = true then td σ H5 fun u H6 => r2 w u H6 Q else Q (.bl false) H5) else Q (.bl false) H3)
def mChain3 (f g h : D → D → Option D) (ma mb mc md : ME) : ME := fun e => (ma e).bind fun p => (mb p.2).bind fun q => match p.1, q.1 with
  | .int i, .int j => match f (.int i) (.int j) with
    | some (.bl true) => (mc q.2).bind fun r => match r.1 with
      | .int k => (match g (.int j) (.int k) with
        | some (.bl true) => (md r.2).bind fun t => Rs.of ((h (.int k) t.1).map fun d => (d, t.2))
        | some (.bl false) => .ok (.bl false, r.2)
        | _ => .err)
      | _ => .err
    | some (.bl false) => .ok (.bl false, q.2)
    | _ => .err
  | _, _ => .err
section
variable {X : Cx} {op op' op2 : CmpOp} {r r' r2 : R2} {a b c d : Expr} {ta tb tc td : TE} {pos : Pos}
theorem pt_chain3 (ho : OpR X (compareOp op) r) (ho' : OpR X (compareOp op') r') (ho2 : OpR X (compareOp op2) r2) (ha : PE X a ta) (hb : PE X b tb) (hc : PE X c tc) (hd : PE X d td)
    (hm : lastMarks [op, op', op2] [b, c, d] = false := by with_unfolding_all rfl) : PT X (.Compare a [op, op', op2] [b, c, d] pos) (tTest (tChain3 r r' r2 ta tb tc td)) := by
  constructor
  intro pins s σ H Q I h
  apply isTrue_chain _ hm
  apply thn (ha.run pins s σ H _ I h)
  rintro v s1 ⟨x, H1, I1, r1, q1⟩
  apply test_link
  apply thn (hb.run pins s1 σ H1 _ I1 q1)
  rintro u s2 ⟨y, H2, I2, rb, q2⟩
  apply thn (ho pins s2 σ H2 x y v u _ I2 r1 rb q2)
  rintro z s3 ⟨zv, H3, I3, r3, k, rfl, q3⟩
  cases r3
  apply wpAny_truthy_bool
  cases k with
  | false =>
    obtain ⟨k', e', q'⟩ := q3
    cases e'
    exact ite_ff ⟨H3, I3, q'⟩
  | true =>
    apply ite_tt
    apply test_link
    apply thn (hc.run pins s3 σ H3 _ I3 q3)
    rintro w s4 ⟨wv, H4, I4, r4, q4⟩
    apply thn (ho' pins s4 σ H4 y wv u w _ I4 rb r4 q4)
    rintro z2 s5 ⟨zv2, H5, I5, r5, k2, rfl, q5⟩
    cases r5
    apply wpAny_truthy_bool
    cases k2 with
    | false =>
      obtain ⟨k', e', q'⟩ := q5
      cases e'
      exact ite_ff ⟨H5, I5, q'⟩
    | true =>
      apply ite_tt
      apply test_last
      apply thn (hd.run pins s5 σ H5 _ I5 q5)
      rintro y2 s6 ⟨z6, H6, I6, r6, q6⟩
      apply thn (ho2 pins s6 σ H6 wv z6 w y2 _ I6 r4 r6 q6)
      rintro z7 s7 ⟨zv7, H7, I7, r7, k7, rfl, q7⟩
      cases r7
      exact wpAny_truthy_bool ⟨H7, I7, q7⟩
end
section
variable {K : PySem.W.Frag} {mg : Str → Option Value} {W : WX} {ta tb tc td : TE} {r r' r2 : R2} {f g h : D → D → Option D} {ma mb mc md : ME}
theorem sim_chain3 (ok : Ok2 K r f) (ok' : Ok2 K r' g) (ok2 : Ok2 K r2 h) (ha : SimE K mg W ta ma) (hb : SimE K mg W tb mb) (hc : SimE K mg W tc mc) (hd : SimE K mg W td md) :
    SimE K mg W (tChain3 r r' r2 ta tb tc td) (mChain3 f g h ma mb mc md) := by
  intro Y H0 io T τ e s H Q rl p
  refine ha.then rl (P := PostE K mg W Y H0 io T τ s Q) p id postE_exc fun d e1 p v H1 rl1 => ?_
  refine hb.then rl1 (P := PostE K mg W Y H0 io T τ s Q) p id postE_exc1 fun d2 e2 p v2 H2 rl2 => ?_
  obtain ⟨i, rfl⟩ : ∃ i, d = .int i := by cases d <;> first | exact ⟨_, rfl⟩ | exact False.elim p
  obtain ⟨j, rfl⟩ : ∃ j, d2 = .int j := by cases d2 <;> first | exact ⟨_, rfl⟩ | exact False.elim p
  simp only at p
  obtain ⟨P, as, bs, o1, o2⟩ := rl2.top2
  obtain rfl := o1.int
  obtain rfl := o2.int
  cases hf : f (.int i) (.int j) with
  | none => rw [hf] at p; exact p.elim
  | some z =>
    rw [hf] at p
    obtain ⟨k, rfl⟩ : ∃ k, z = .bl k := by cases z <;> first | exact ⟨_, rfl⟩ | exact False.elim p
    refine ok Y H0 io T τ e2 s H2 _ _ _ _ (.bl k) _ hf rl2 fun v H3 rl3 => ?_
    obtain rfl := rl3.isBl
    refine ⟨k, rfl, ?_⟩
    cases k with
    | false => rw [if_neg Bool.false_ne_true]; exact p _ _ rl3
    | true =>
      rw [if_pos rfl]
      simp only at p
      refine hc.then (rl3.pop.int (i := j)) (P := PostE K mg W Y H0 io T τ s Q) p id postE_exc1 fun d3 e3 p' v3 H4 rl4 => ?_
      obtain ⟨k3, rfl⟩ : ∃ k3, d3 = .int k3 := by cases d3 <;> first | exact ⟨_, rfl⟩ | exact False.elim p'
      obtain ⟨P', as', bs', o3, o4⟩ := rl4.top2
      obtain rfl := o3.int
      simp only at p'
      cases hg : g (.int j) (.int k3) with
      | none => rw [hg] at p'; exact p'.elim
      | some z2 =>
        rw [hg] at p'
        obtain ⟨kk, rfl⟩ : ∃ kk, z2 = .bl kk := by cases z2 <;> first | exact ⟨_, rfl⟩ | exact False.elim p'
        refine ok' Y H0 io T τ e3 s H4 _ _ _ _ (.bl kk) _ hg rl4 fun v5 H5 rl5 => ?_
        obtain rfl := rl5.isBl
        refine ⟨kk, rfl, ?_⟩
        cases kk with
        | false => rw [if_neg Bool.false_ne_true]; exact p' _ _ rl5
        | true =>
          rw [if_pos rfl]
          simp only at p'
          refine hd.then (rl5.pop.int (i := k3)) (P := PostE K mg W Y H0 io T τ s Q) p' id postE_exc1 fun d6 e6 p6 v6 H6 rl6 => ?_
          cases hh : h (.int k3) d6 with
          | none => simp only [hh] at p6; exact False.elim p6
          | some x =>
            simp only [hh] at p6
            exact ok2 Y H0 io T τ e6 s H6 _ _ _ _ x Q hh rl6 p6
end
section
variable {X : Cx} {W : WX} {a b c d : Expr} {ma mb mc md : ME} {pos : Pos}
theorem dt_leLtLt (ha : DE X W a ma) (hb : DE X W b mb) (hc : DE X W c mc) (hd : DE X W d md) (hm : lastMarks [.LtE, .Lt, .Lt] [b, c, d] = false := by with_unfolding_all rfl) : DT X W (.Compare a [.LtE, .Lt, .Lt] [b, c, d] pos) (mT (mChain3 dLe dLtI dLtI ma mb mc md)) := by
  obtain ⟨ta, pa, sa⟩ := ha
  obtain ⟨tb, pb, sb⟩ := hb
  obtain ⟨tc, pc, sc⟩ := hc
  obtain ⟨td, pd, sd⟩ := hd
  exact ⟨_, pt_chain3 op_le op_lt op_lt pa pb pc pd hm, sim_test (sim_chain3 (ok_fI0 fun _ _ _ _ => rep_bl) (ok_fI0 fun _ _ _ _ => rep_bl) (ok_fI0 fun _ _ _ _ => rep_bl) sa sb sc sd)⟩
end
end Mi

namespace Mi
open PySem PySem.Spec PyProof.Rows L2
variable [TabsC]
section
variable {f g h : D → D → Option D} {ma mb mc md : ME} {e : Env} {i j k : Int} {d : D}
def kC3f (h : D → D → Option D) (k : Int) : Rs (D × Env) → Rs (D × Env)
  | .ok (d, e) => kof (h (.int k) d) e
  | .exc c fs e => .exc c fs e
  | .err => .err
def kC3e (h : D → D → Option D) (k : Int) (md : ME) (e : Env) : Option D → Rs (D × Env)
  | some (.bl true) => kC3f h k (md e)
  | some (.bl false) => .ok (.bl false, e)
  | _ => .err
def kC3d (g h : D → D → Option D) (j : Int) (md : ME) : Rs (D × Env) → Rs (D × Env)
  | .ok (.int k, e) => kC3e h k md e (g (.int j) (.int k))
  | .ok _ => .err
  | .exc c fs e => .exc c fs e
  | .err => .err
def kC3c (g h : D → D → Option D) (j : Int) (mc md : ME) (e : Env) : Option D → Rs (D × Env)
  | some (.bl true) => kC3d g h j md (mc e)
  | some (.bl false) => .ok (.bl false, e)
  | _ => .err
def kC3b (f g h : D → D → Option D) (i : Int) (mc md : ME) : Rs (D × Env) → Rs (D × Env)
  | .ok (.int j, e) => kC3c g h j mc md e (f (.int i) (.int j))
  | .ok _ => .err
  | .exc c fs e => .exc c fs e
  | .err => .err
def kC3a (f g h : D → D → Option D) (mb mc md : ME) : Rs (D × Env) → Rs (D × Env)
  | .ok (.int i, e) => kC3b f g h i mc md (mb e)
  | .ok (d, e) => (mb e).bind fun _ => .err
  | .exc c fs e => .exc c fs e
  | .err => .err
theorem mChain3_ap : mChain3 f g h ma mb mc md e = kC3a f g h mb mc md (ma e) := by
  unfold mChain3
  cases ma e with
  | err => rfl
  | exc _ _ _ => rfl
  | ok p =>
    obtain ⟨d, e1⟩ := p
    show (mb e1).bind _ = _
    cases d
    case int i =>
      show _ = kC3b f g h i mc md (mb e1)
      cases mb e1 with
      | err => rfl
      | exc _ _ _ => rfl
      | ok q =>
        obtain ⟨d2, e2⟩ := q
        cases d2
        case int j =>
          show (match f (.int i) (.int j) with | some (.bl true) => _ | some (.bl false) => _ | _ => _) = kC3c g h j mc md e2 (f (.int i) (.int j))
          cases f (.int i) (.int j) with
          | none => rfl
          | some z =>
            cases z
            case bl b =>
              cases b
              · rfl
              · show (mc e2).bind _ = kC3d g h j md (mc e2)
                cases mc e2 with
                | err => rfl
                | exc _ _ _ => rfl
                | ok r =>
                  obtain ⟨d3, e3⟩ := r
                  cases d3
                  case int k =>
                    show (match g (.int j) (.int k) with | some (.bl true) => _ | some (.bl false) => _ | _ => _) = kC3e h k md e3 (g (.int j) (.int k))
                    cases g (.int j) (.int k) with
                    | none => rfl
                    | some z =>
                      cases z
                      case bl b =>
                        cases b
                        · rfl
                        · show (md e3).bind _ = kC3f h k (md e3)
                          cases md e3 with
                          | err => rfl
                          | exc _ _ _ => rfl
                          | ok t =>
                            obtain ⟨d4, e4⟩ := t
                            show Rs.of ((h (.int k) d4).map _) = kof (h (.int k) d4) e4
                            cases h (.int k) d4 <;> rfl
                      all_goals rfl
                  all_goals rfl
            all_goals rfl
        all_goals rfl
    all_goals (show _ = (mb e1).bind fun _ => Rs.err; cases mb e1 <;> rfl)
theorem kC3a_ok : kC3a f g h mb mc md (.ok (.int i, e)) = kC3b f g h i mc md (mb e) := rfl
theorem kC3b_ok : kC3b f g h i mc md (.ok (.int j, e)) = kC3c g h j mc md e (f (.int i) (.int j)) := rfl
theorem kC3c_t : kC3c g h j mc md e (some (.bl true)) = kC3d g h j md (mc e) := rfl
theorem kC3c_f : kC3c g h j mc md e (some (.bl false)) = .ok (.bl false, e) := rfl
theorem kC3d_ok : kC3d g h j md (.ok (.int k, e)) = kC3e h k md e (g (.int j) (.int k)) := rfl
theorem kC3e_t : kC3e h k md e (some (.bl true)) = kC3f h k (md e) := rfl
theorem kC3e_f : kC3e h k md e (some (.bl false)) = .ok (.bl false, e) := rfl
theorem kC3f_ok : kC3f h k (.ok (d, e)) = kof (h (.int k) d) e := rfl
end
end Mi

namespace Mi
open PySem PySem.Spec PyProof.Rows L2
variable [TabsC]
end Mi

namespace Mi
open PySem PySem.Spec PyProof.Rows L2
variable [TabsC]
def DskA (K : PySem.W.Frag) (P : Addr → Prop) (H : Hp) (a dx p : Addr) (w : D) (ps : List D) : Prop :=
  ∃ vw vs, H a = some (.ins TabsC.C dx [("web", vw), ("past", V.ref p)]) ∧ H dx = some (.own a) ∧ H p = some (.lst vs) ∧ Rep K P H w vw ∧ Reps K P H ps vs
theorem DskA.own {K : PySem.W.Frag} {P : Addr → Prop} {H : Hp} {a dx p : Addr} {w : D} {ps : List D} (h : DskA K P H a dx p w ps) : Own K P H (.dsk w ps) (V.ref a) [a, dx, p] := by
  obtain ⟨vw, vs, h1, h2, h3, h4, h5⟩ := h
  unfold Own
  exact ⟨a, dx, p, vw, vs, rfl, h1, h2, h3, h4, h5, rfl⟩
theorem Own.dsk {K : PySem.W.Frag} {P : Addr → Prop} {H : Hp} {v : V} {as : List Addr} {w : D} {ps : List D} (h : Own K P H (.dsk w ps) v as) : ∃ a dx p, v = V.ref a ∧ as = [a, dx, p] ∧ DskA K P H a dx p w ps := by
  unfold Own at h
  obtain ⟨a, dx, p, vw, vs, e, h1, h2, h3, h4, h5, ea⟩ := h
  exact ⟨a, dx, p, e, ea, vw, vs, h1, h2, h3, h4, h5⟩
theorem DskA.mono {K : PySem.W.Frag} {P P' : Addr → Prop} {H H' : Hp} {a dx p : Addr} {w : D} {ps : List D} (m : Mono P H P' H') (st : ∀ x ∈ [a, dx, p], H' x = H x) (h : DskA K P H a dx p w ps) : DskA K P' H' a dx p w ps := by
  obtain ⟨vw, vs, h1, h2, h3, h4, h5⟩ := h
  exact ⟨vw, vs, by rw [st a (by simp)]; exact h1, by rw [st dx (by simp)]; exact h2, by rw [st p (by simp)]; exact h3, Rep.mono m _ h4, Reps.mono m _ h5⟩
inductive Fk where
  | ok (d w : D) (ps : List D) | exc (c : Str) (fs : List (Str × Int)) (w : D) (ps : List D) | err
abbrev MKD := D → List D → List D → Fk
end Mi

namespace Mi
open PySem PySem.Spec PyProof.Rows L2
variable [TabsC]
end Mi

namespace Mi
open PySem PySem.Spec PyProof.Rows L2
variable [TabsC]
end Mi

namespace Mi
open PySem PySem.Spec PyProof.Rows L2
variable [TabsC]
end Mi

namespace Mi
open PySem PySem.Spec PyProof.Rows L2
variable [TabsC]
section
variable {K : PySem.W.Frag} {P : Addr → Prop} {H : Hp}
theorem Owns.focus : ∀ (ds : List D) (n : Nat) {d : D} {vs : List V} {as : List Addr}, Owns K P H ds vs as → ds[n]? = some d →
    ∃ v pre b post, vs[n]? = some v ∧ Own K P H d v b ∧ as = pre ++ b ++ post ∧
      ∀ (P' : Addr → Prop) (H' : Hp), Mono P H P' H' → (∀ a ∈ pre ++ post, H' a = H a) → ∀ d' b', Own K P' H' d' v b' → Owns K P' H' (ds.set n d') vs (pre ++ b' ++ post)
  | [], n, d, vs, as, h, hi => by simp at hi
  | x :: ds, 0, d, vs, as, h, hi => by
    unfold Owns at h
    obtain ⟨v, r, bs, cs, e, h1, h2, ea⟩ := h
    obtain rfl : x = d := by simpa using hi
    subst e ea
    refine ⟨v, [], bs, cs, rfl, h1, rfl, fun P' H' m st d' b' o => ?_⟩
    rw [List.set_cons_zero, List.nil_append]
    unfold Owns
    exact ⟨v, r, b', cs, rfl, o, Owns.mono ds ⟨m, fun a ha => st a (by simpa using ha)⟩ h2, rfl⟩
  | x :: ds, n + 1, d, vs, as, h, hi => by
    unfold Owns at h
    obtain ⟨v0, r, bs, cs, e, h1, h2, ea⟩ := h
    subst e ea
    obtain ⟨v, pre, b, post, e1, o, e2, f⟩ := Owns.focus ds n h2 (by simpa using hi)
    subst e2
    refine ⟨v, bs ++ pre, b, post, by simpa using e1, o, by simp [List.append_assoc], fun P' H' m st d' b' o' => ?_⟩
    have q := f P' H' m (fun a ha => st a (by simp at ha ⊢; rcases ha with z | z <;> simp [z])) d' b' o'
    rw [List.set_cons_succ]
    unfold Owns
    exact ⟨v0, r, bs, pre ++ b' ++ post, rfl, Own.mono x ⟨m, fun a ha => st a (by simp [ha])⟩ h1, q, by simp [List.append_assoc]⟩
end
end Mi

namespace Mi
open PySem PySem.Spec PyProof.Rows L2
variable [TabsC]
end Mi

namespace Mi
open PySem PySem.Spec PyProof.Rows L2
variable [TabsC]
end Mi

namespace Mi
open PySem PySem.Spec PyProof.Rows L2
variable [TabsC]
end Mi

namespace Mi
open PySem PySem.Spec PyProof.Rows L2
variable [TabsC]
structure FormsOk (K : PySem.W.Frag) (w : World) (d : Addr) (tab : List (Str × List Int)) : Prop where
  kd : ∃ es n, KDict K w d es n
  get : ∀ z : Str, ∃ r, PySem.W.nsIn K d z = some r ∧ r.isSome = (tab.lookup z).isSome ∧ ∀ u zs, r = some u → tab.lookup z = some zs →
    ∃ (a : Addr) (o : Obj) (its : Array Value) (n : Nat), u = .ref a ∧ K.lookup a = some o ∧ o.cls = .type "tuple" ∧ o.data = .seq its n ∧ its.size ≤ sizeLine ∧ Vals (zs.map V.int) its.toList
end Mi

namespace Mi
open PySem PySem.Spec PyProof.Rows L2
variable [TabsC]
end Mi

namespace L2
open PySem PySem.Spec PyProof.Rows
end L2
namespace Mi
open PySem PySem.Spec PyProof.Rows L2
variable [TabsC]
end Mi

namespace Mi
open PySem PySem.Spec PyProof.Rows L2
variable [TabsC]
end Mi

namespace Mi
open PySem PySem.Spec PyProof.Rows L2
variable [TabsC]
end Mi

namespace Mi
open PySem PySem.Spec PyProof.Rows L2
variable [TabsC]
end Mi

namespace Mi
open PySem L2
variable [TabsC]
end Mi

namespace Mi
open PySem PySem.Spec PyProof.Rows L2
variable [TabsC]
end Mi

namespace Mi
open PySem PySem.Spec PyProof.Rows L2
variable [TabsC]
end Mi

namespace SrtO
open PySem PySem.W PyProof.Rows Srt
end SrtO
namespace Mi
open PySem PySem.Spec PyProof.Rows L2
variable [TabsC]
open PySem.W (EachIs dataLe AllAlike Sortable keyToks keyToksAll alike alikeAll)
end Mi

namespace Mi
open PySem PySem.Spec PyProof.Rows L2
def MaskG (m : Nat) : Prop := m = 7 ∨ m = 31 ∨ m = 127 ∨ m = 511
def orb (m : Nat) : Nat → Nat → List Nat
  | 0, _ => []
  | n + 1, i => i :: orb m n ((i * 5 + 1) % (m + 1))
theorem lcgI_next (m i : Nat) : ∀ k, lcgI m ((i * 5 + 1) % (m + 1)) k = lcgI m i (k + 1)
  | 0 => rfl
  | k + 1 => by
    show (lcgI m ((i * 5 + 1) % (m + 1)) k * 5 + 1) % (m + 1) = (lcgI m i (k + 1) * 5 + 1) % (m + 1)
    rw [lcgI_next m i k]
theorem orb_met (m : Nat) : ∀ (n i j : Nat), j ∈ orb m n i → ∃ k, k < n ∧ lcgI m i k = j
  | 0, _, _, h => nomatch h
  | n + 1, i, j, h => by
    rcases List.mem_cons.mp h with rfl | h
    · exact ⟨0, Nat.succ_pos _, rfl⟩
    · obtain ⟨k, hk, e⟩ := orb_met m n _ j h
      exact ⟨k + 1, Nat.succ_lt_succ hk, by rw [← lcgI_next]; exact e⟩
theorem orb511 : ((List.range 512).all fun j => (orb 511 512 0).contains j) = true := by decide +kernel
theorem orb_end : lcgN 511 512 = 0 := by decide +kernel
theorem lcg0 (m : Nat) : ∀ k, lcgI m 0 k = lcgN m k
  | 0 => rfl
  | k + 1 => by
    show (lcgI m 0 k * 5 + 1) % (m + 1) = (lcgN m k * 5 + 1) % (m + 1)
    rw [lcg0 m k]
theorem at511 {j : Nat} (hj : j ≤ 511) : ∃ b, b < 512 ∧ lcgN 511 b = j := by
  have h := List.all_eq_true.mp orb511 j (List.mem_range.mpr (by omega))
  obtain ⟨b, hb, e⟩ := orb_met 511 512 0 j (by simpa using h)
  exact ⟨b, hb, (lcg0 511 b).symm.trans e⟩
theorem again511 : ∀ k, lcgN 511 (512 + k) = lcgN 511 k
  | 0 => orb_end
  | k + 1 => by
    show (lcgN 511 (512 + k) * 5 + 1) % 512 = (lcgN 511 k * 5 + 1) % 512
    rw [again511 k]
theorem all_met {m : Nat} (hm : MaskG m) {i j : Nat} (hi : i ≤ m) (hj : j ≤ m) : ∃ k, k ≤ m ∧ lcgI m i k = j := by
  rcases hm with e | e | e | e
  · exact lcgI_all (.inl e) hi hj
  · exact lcgI_all (.inr (.inl e)) hi hj
  · exact lcgI_all (.inr (.inr e)) hi hj
  · subst e
    obtain ⟨a, ha, rfl⟩ := at511 hi
    obtain ⟨b, hb, rfl⟩ := at511 hj
    by_cases c : a ≤ b
    · exact ⟨b - a, by omega, by rw [lcgN_add, show a + (b - a) = b by omega]⟩
    · exact ⟨512 + b - a, by omega, by rw [lcgN_add, show a + (512 + b - a) = 512 + b by omega, again511]⟩
theorem MaskG.le {m : Nat} (h : MaskG m) : m ≤ 511 := by rcases h with e | e | e | e <;> omega
theorem MaskG.odd {m : Nat} (h : MaskG m) : m % 2 = 1 := by rcases h with e | e | e | e <;> subst e <;> rfl
theorem run_at {m : Nat} (hm : MaskG m) (h : Int) {j : Nat} (hj : j ≤ m) : ∃ n, n ≤ m + 12 ∧ runI m (SetTable.bits h) n = j := by
  obtain ⟨k, hk, e⟩ := all_met hm (runI_le m (SetTable.bits h) 12) hj
  exact ⟨12 + k, by omega, (runI_tail (bits_lt h) k).trans e⟩
theorem way_at {m : Nat} (hm : MaskG m) (h : Int) {j : Nat} (hj : j ≤ m) : ∃ k, k < 10 * SetTable.turns m ∧ way m h k = j := by
  obtain ⟨n, hn, rfl⟩ := run_at hm h hj
  obtain ⟨k, hk, e⟩ := run_nth m (SetTable.bits h) n
  exact ⟨k, by unfold SetTable.turns; omega, congrArg SetTable.Probe.j e⟩
theorem way_in (m : Nat) (h : Int) (k : Nat) : way m h k ≤ m := by
  have a : SetTable.bits h % (m + 1) ≤ m := Nat.le_of_lt_succ (Nat.mod_lt _ (Nat.succ_pos _))
  have b := runEnd_bd a
  have c := nth_in (m := m) k (runAt m (SetTable.bits h % (m + 1)) (SetTable.bits h)) (by
    show SetTable.bits h % (m + 1) + (SetTable.runEnd m (SetTable.bits h % (m + 1)) - SetTable.bits h % (m + 1)) ≤ m
    omega)
  exact Nat.le_trans (Nat.le_add_right _ _) c
structure GT (t : SetTable) (hs : List Int) : Prop where
  ris : Ris t.place.toList
  dm : t.dummies = #[]
  sz : t.place.toList.length = hs.length
  mok : MaskG t.mask
  bd : ∀ x ∈ t.place.toList, x ≤ t.mask
  met : ∀ q ∈ t.place.toList.zip hs, ∃ k, way t.mask q.2 k = q.1 ∧ ∀ k', k' < k → way t.mask q.2 k' ∈ t.place.toList
section
variable {t : SetTable} {hs : List Int} (T : GT t hs)
include T
theorem GT.gap (hl : hs.length ≤ t.mask) (h : Int) : ∃ K, K < 10 * SetTable.turns t.mask ∧ way t.mask h K ∉ t.place.toList ∧ ∀ k, k < K → way t.mask h k ∈ t.place.toList := by
  obtain ⟨j, hj, hn⟩ := st_missing t.place.toList (t.mask + 1) (by rw [T.sz]; omega)
  obtain ⟨k, hk, rfl⟩ := way_at T.mok h (Nat.le_of_lt_succ hj)
  obtain ⟨K, a, b, c⟩ := st_least (p := fun k => way t.mask h k ∉ t.place.toList) k hn
  exact ⟨K, Nat.lt_of_le_of_lt a hk, b, fun k' hk' => Classical.byContradiction (c k' hk')⟩
theorem GT.ahead {h : Int} {K j : Nat} (hK : way t.mask h K ∉ t.place.toList) (hq : (j, h) ∈ t.place.toList.zip hs) : ∃ k, k < K ∧ way t.mask h k = j := by
  obtain ⟨k, e, b⟩ := T.met (j, h) hq
  refine ⟨k, ?_, e⟩
  rcases Nat.lt_or_ge k K with c | c
  · exact c
  · exfalso
    rcases Nat.lt_or_ge K k with d | d
    · exact hK (b K d)
    · have : k = K := Nat.le_antisymm d c
      subst this
      exact hK (e ▸ (List.of_mem_zip hq).1)
theorem GT.into {h : Int} {K : Nat} (hK : way t.mask h K ∉ t.place.toList) (hb : ∀ k, k < K → way t.mask h k ∈ t.place.toList) :
    GT (t.put (way t.mask h K)).1 (hs.take (SetTable.below t.place (way t.mask h K)) ++ h :: hs.drop (SetTable.below t.place (way t.mask h K))) := by
  have hj := way_in t.mask h K
  have np : t.place[SetTable.below t.place (way t.mask h K)]? ≠ some (way t.mask h K) := fun e => hK (List.mem_of_getElem? (by rw [Array.getElem?_toList]; exact e))
  have pp := put_place t (way t.mask h K)
  have rr := ris_insert T.ris np
  have hpl : SetTable.below t.place (way t.mask h K) ≤ t.place.toList.length := by
    rw [Array.length_toList]; exact (below_cut T.ris _).1
  have key : ∀ x, x ∈ (t.put (way t.mask h K)).1.place.toList ↔ x = way t.mask h K ∨ x ∈ t.place.toList := fun x => by rw [pp]; exact mem_ins
  refine ⟨rr, put_dm T.dm _, ?_, T.mok, fun x hx => ?_, fun q hq => ?_⟩
  · rw [pp, len_ins _ hpl, len_ins _ (by rw [← T.sz]; exact hpl), T.sz]
  · rcases (key x).mp hx with rfl | hx
    · exact hj
    · exact T.bd x hx
  · show ∃ k, way t.mask q.2 k = q.1 ∧ ∀ k', k' < k → way t.mask q.2 k' ∈ (t.put (way t.mask h K)).1.place.toList
    have old : q = (way t.mask h K, h) ∨ q ∈ t.place.toList.zip hs := by
      rw [pp] at hq
      generalize SetTable.below t.place (way t.mask h K) = p at hq hpl
      rw [List.zip_append (by rw [List.length_take, List.length_take, T.sz])] at hq
      rcases List.mem_append.mp hq with hq | hq
      · have e : (t.place.toList.take p).zip (hs.take p) = (t.place.toList.zip hs).take p := List.take_zipWith.symm
        rw [e] at hq
        exact .inr (List.mem_of_mem_take hq)
      · rw [List.zip_cons_cons] at hq
        rcases List.mem_cons.mp hq with rfl | hq
        · exact .inl rfl
        · have e : (t.place.toList.drop p).zip (hs.drop p) = (t.place.toList.zip hs).drop p := List.drop_zipWith.symm
          rw [e] at hq
          exact .inr (List.mem_of_mem_drop hq)
    rcases old with rfl | hq
    · exact ⟨K, rfl, fun k' hk' => (key _).mpr (.inr (hb k' hk'))⟩
    · obtain ⟨k, e, b⟩ := T.met q hq
      exact ⟨k, e, fun k' hk' => (key _).mpr (.inr (b k' hk'))⟩
end
end Mi

namespace Mi
open PySem PySem.Spec PyProof.Rows L2
section
variable {m : Nat} (hm : MaskG m)
include hm
theorem seat_free (owner : Array (Option Nat)) (h : Int) {j : Nat} (hj : j ≤ m) (hf : oAt owner j = none) :
    ∃ K, SetTable.layClean.free m owner (SetTable.turns m) (SetTable.bits h % (m + 1)) (SetTable.bits h) = some (way m h K) ∧ oAt owner (way m h K) = none ∧ ∀ k, k < K → oAt owner (way m h k) ≠ none := by
  obtain ⟨n, hn, e⟩ := run_at hm h hj
  have there : oAt owner (way m h (off m (SetTable.bits h % (m + 1)) (SetTable.bits h) n)) = none := by
    have : way m h (off m (SetTable.bits h % (m + 1)) (SetTable.bits h) n) = j := by
      unfold way
      rw [nth_off, itL_run]
      exact e
    rw [this]
    exact hf
  obtain ⟨K, k1, k2, k3⟩ := st_least (p := fun k => oAt owner (way m h k) = none) _ there
  refine ⟨K, free_spec m owner _ n _ _ K (by unfold SetTable.turns; omega) k1 (fun k hk => ?_) (by show (oAt owner (way m h K)).isNone = true; rw [k2]; rfl), k2, k3⟩
  have := k3 k hk
  show (oAt owner (way m h k)).isNone = false
  cases q : oAt owner (way m h k) with
  | none => exact absurd q this
  | some _ => rfl
theorem seat_step {done : List Int} {owner : Array (Option Nat)} (W : L2.Own m done owner) (hl : done.length ≤ m) (h : Int) :
    ∃ j, SetTable.layClean.free m owner (SetTable.turns m) (SetTable.bits h % (m + 1)) (SetTable.bits h) = some j ∧ L2.Own m (done ++ [h]) (owner.setIfInBounds j (some done.length)) := by
  obtain ⟨ps, lp, inn⟩ := W.ps
  obtain ⟨j0, lt0, no0⟩ := st_missing ps (m + 1) (by omega)
  have free0 : oAt owner j0 = none := Classical.byContradiction fun c => no0 (inn j0 (Nat.le_of_lt_succ lt0) c)
  obtain ⟨K, e, gone, full⟩ := seat_free hm owner h (Nat.le_of_lt_succ lt0) free0
  have jm := way_in m h K
  have js : way m h K < owner.size := by rw [W.sz]; exact Nat.lt_succ_of_le jm
  have new := oAt_set_self (some done.length) js
  have same : ∀ i, i ≠ way m h K → oAt (owner.setIfInBounds (way m h K) (some done.length)) i = oAt owner i := fun i c => oAt_set_ne _ c
  have still : ∀ i, oAt owner i ≠ none → oAt (owner.setIfInBounds (way m h K) (some done.length)) i ≠ none := fun i c => by
    have : i ≠ way m h K := fun q => c (q ▸ gone)
    rw [same i this]; exact c
  refine ⟨_, e, by rw [Array.size_setIfInBounds]; exact W.sz, fun j k hj q => ?_, fun k hk => ?_, way m h K :: ps, by simp [lp], fun j hj q => ?_⟩
  · by_cases c : j = way m h K
    · subst c
      rw [new] at q
      cases q
      exact ⟨h, K, by simp, rfl, fun k' hk' => still _ (full k' hk')⟩
    · rw [same j c] at q
      obtain ⟨g, K', a, b, d⟩ := W.at_ j k hj q
      exact ⟨g, K', by rw [List.getElem?_append_left (List.getElem?_eq_some_iff.mp a).1]; exact a, b, fun k' hk' => still _ (d k' hk')⟩
  · rcases Nat.lt_or_ge k done.length with c | c
    · obtain ⟨j, hj, q⟩ := W.all k c
      have : j ≠ way m h K := fun z => by rw [z, gone] at q; cases q
      exact ⟨j, hj, by rw [same j this]; exact q⟩
    · have : k = done.length := by simp at hk; omega
      exact ⟨_, jm, this ▸ new⟩
  · by_cases c : j = way m h K
    · exact c ▸ List.mem_cons_self
    · rw [same j c] at q
      exact List.mem_cons_of_mem _ (inn j hj q)
theorem seat_all : ∀ (rest done : List Int) (owner : Array (Option Nat)), L2.Own m done owner → (done ++ rest).length ≤ m →
    ∃ owner', rest.foldl (stepF m) (some (owner, done.length)) = some (owner', (done ++ rest).length) ∧ L2.Own m (done ++ rest) owner'
  | [], done, owner, W, _ => ⟨owner, by rw [List.append_nil]; rfl, by rw [List.append_nil]; exact W⟩
  | h :: rest, done, owner, W, hl => by
    have hl' : done.length ≤ m := by simp at hl; omega
    obtain ⟨j, e, W'⟩ := seat_step hm W hl' h
    have as : (done ++ [h]) ++ rest = done ++ h :: rest := by simp
    obtain ⟨o2, f, W2⟩ := seat_all rest (done ++ [h]) _ W' (by rw [as]; exact hl)
    rw [as] at f W2
    refine ⟨o2, ?_, W2⟩
    rw [List.foldl_cons, stepF_some e]
    have : (done ++ [h]).length = done.length + 1 := by simp
    rw [this] at f
    exact f
theorem seat_lay {hs : Array Int} (hn : hs.size ≤ m) : ∃ owner, SetTable.layClean m hs = some owner ∧ L2.Own m hs.toList owner := by
  obtain ⟨owner, f, W⟩ := seat_all hm hs.toList [] _ (Own.init m) (by simpa using hn)
  refine ⟨owner, ?_, by simpa using W⟩
  rw [layClean_eq]
  have f' : hs.toList.foldl (stepF m) (some (Array.replicate (m + 1) none, 0)) = some (owner, ([] ++ hs.toList).length) := f
  rw [f']
  rfl
theorem anew (t : SetTable) {hs : Array Int} {wanted : Nat} (hw : SetTable.sizeAbove wanted - 1 = m) (hn : hs.size ≤ m) :
    ∃ t' order, t.relaid hs wanted = some (t', order) ∧ order.toList.Perm (List.range hs.size) ∧ GT t' (order.toList.map fun i => hs.getD i 0) ∧ t'.mask = m ∧ t'.led = t.led ∧ t'.plain = t.plain := by
  obtain ⟨owner, e, W⟩ := seat_lay hm hn
  obtain ⟨r1, r2⟩ := ris_live (fun j => owner.getD j none) (List.range (m + 1)) (show List.Pairwise _ _ from List.pairwise_lt_range)
  have nd : ((liveOf m owner).map (·.1)).Nodup := List.Pairwise.imp (fun h => Nat.ne_of_lt h) r1
  have lv := fun j k => mem_live (m := m) W.sz (j := j) (k := k)
  have len : (liveOf m owner).length = hs.size := by
    obtain ⟨ps, p1, p2⟩ := W.ps
    have a := nat_nodup_len _ ps nd fun x hx => by
      obtain ⟨⟨y, k⟩, hq, rfl⟩ := List.mem_map.mp hx
      obtain ⟨b1, b2⟩ := (lv y k).mp hq
      exact p2 y b1 (by rw [b2]; simp)
    have b := nat_nodup_len (List.range hs.size) ((liveOf m owner).map (·.2)) List.nodup_range fun k hk => by
      obtain ⟨j, b1, b2⟩ := W.all k (by simpa using hk)
      exact List.mem_map.mpr ⟨(j, k), (lv j k).mpr ⟨b1, b2⟩, rfl⟩
    simp at a b p1
    omega
  refine ⟨tabOf t m owner, ((liveOf m owner).map (·.2)).toArray, by rw [relaid_eq, hw, e]; rfl, ?_, ⟨r1, rfl, ?_, hm, fun x hx => ?_, fun q hq => ?_⟩, rfl, rfl, rfl⟩
  · refine perm_range hs.size _ (by simpa using len) fun k hk => ?_
    obtain ⟨j, b1, b2⟩ := W.all k (by simpa using hk)
    exact List.mem_map.mpr ⟨(j, k), (lv j k).mpr ⟨b1, b2⟩, rfl⟩
  · show ((liveOf m owner).map (·.1)).length = (((liveOf m owner).map (·.2)).map fun i => hs.getD i 0).length
    simp
  · exact Nat.le_of_lt_succ (List.mem_range.mp (r2 x hx))
  · have hq : q ∈ ((liveOf m owner).map (·.1)).zip (((liveOf m owner).map (·.2)).map fun i => hs.getD i 0) := hq
    rw [List.map_map, List.zip_map'] at hq
    obtain ⟨⟨j, k⟩, hl, rfl⟩ := List.mem_map.mp hq
    obtain ⟨b1, b2⟩ := (lv j k).mp hl
    obtain ⟨g, K, a1, a2, a3⟩ := W.at_ j k b1 b2
    have eg : hs.getD k 0 = g := by
      rw [Array.getD_eq_getD_getElem?, ← Array.getElem?_toList, a1]; rfl
    refine ⟨K, ?_, fun k' hk' => ?_⟩
    · show way m (hs.getD k 0) K = j
      rw [eg]; exact a2
    · show way m (hs.getD k 0) k' ∈ (liveOf m owner).map (·.1)
      rw [eg]
      cases z : oAt owner (way m g k') with
      | none => exact absurd z (a3 k' hk')
      | some k2 => exact List.mem_map.mpr ⟨(way m g k', k2), (lv _ _).mpr ⟨way_in m g k', z⟩, rfl⟩
end
end Mi

namespace Mi
open PySem PySem.Spec PyProof.Rows L2
section
variable {P : Program} {w : World} {A : Around} {E : Value → Shared → Prop} {s : Shared}
structure SG (P : Program) (w : World) (h : Heap) (a : Addr) (L : List (Addr × List Int)) (es : Array (Int × Value)) (ep : Nat) (t : SetTable) : Prop where
  ob : ∃ o, h.get? a = some o ∧ o.ExactSet ∧ o.data = .set es ep t
  rows : es.toList = rowsOf P w L
  tab : GT t (L.map fun p => thash P w p.2)
  nd : (L.map (·.2)).Nodup
  tup : ∀ p ∈ L, IsT P w h p.2 p.1
  plain : t.plain = true
  led : w.params.followText "set-order" = true ∨ t.led = true
  room : L.length * 5 < t.mask * 3
  few : L.length ≤ 300
variable {a : Addr} {L : List (Addr × List Int)} {es : Array (Int × Value)} {ep : Nat} {t : SetTable}
theorem SG.size (R : SG P w s.heap a L es ep t) : es.size = L.length := by
  rw [← Array.length_toList, R.rows]; exact List.length_map ..
theorem SG.plen (R : SG P w s.heap a L es ep t) : t.place.toList.length = L.length := by rw [R.tab.sz, List.length_map]
theorem SG.fits (R : SG P w s.heap a L es ep t) : t.fits es.size = true := by
  have a := R.plen
  have b := R.size
  have c := R.room
  rw [Array.length_toList] at a
  unfold SetTable.fits SetTable.fill
  rw [R.tab.dm]
  have e : t.place.size = es.size := by omega
  simp [e]
  omega
theorem SG.entry (R : SG P w s.heap a L es ep t) {i : Nat} {p : Addr × List Int} (h : L[i]? = some p) : es[i]? = some (thash P w p.2, Value.ref p.1) := by
  rw [← Array.getElem?_toList, R.rows, rowsOf, List.getElem?_map, h]; rfl
def hA (es : Array (Int × Value)) (i : Nat) : Int := (es[i]?.map (·.1)).getD 0
theorem sg_from (R : SG P w s.heap a L es ep t) {x : Addr} {k : List Int} (hx : IsT P w s.heap k x) (hu : A.units < cLine) {K : Nat} (hKf : K < 10 * SetTable.turns t.mask)
    (gap : way t.mask (thash P w k) K ∉ t.place.toList) (full : ∀ c, c < K → way t.mask (thash P w k) c ∈ t.place.toList) {Q : SetFound → Shared → Prop}
    (yes : k ∈ L.map (·.2) → Q (.there none) s) (no : k ∉ L.map (·.2) → Q (.free (way t.mask (thash P w k) K) false) s) :
    ∀ (f c : Nat) (stand : Option SetTable.Probe), stand.getD (t.probeStart (thash P w k)) = nth t.mask (runAt t.mask (SetTable.bits (thash P w k) % (t.mask + 1)) (SetTable.bits (thash P w k))) c → c ≤ K → K - c < f →
      (∀ (i : Nat) (p : Addr × List Int), L[i]? = some p → p.2 = k → ∃ c', c ≤ c' ∧ c' < K ∧ t.place.toList[i]? = some (way t.mask (thash P w k) c')) →
      wpAny (model P w) A (setSearchFrom a (.ref x) (thash P w k) true f stand) Q E s
  | 0, c, stand, _, _, hf, _ => absurd hf (Nat.not_lt_zero _)
  | f + 1, c, stand, hst, hc, hf, still => by
    obtain ⟨o, ho, hex, hd⟩ := R.ob
    generalize hh : thash P w k = h at *
    generalize hp0 : runAt t.mask (SetTable.bits h % (t.mask + 1)) (SetTable.bits h) = p0 at *
    have wy : ∀ q, (nth t.mask p0 q).j = way t.mask h q := fun q => by rw [← hp0]
    have sh : ∀ q, nth t.mask (nth t.mask p0 c) q = nth t.mask p0 (c + q) := fun q => (nth_add t.mask c p0 q).symm
    have nodum : ∀ n, (nth t.mask p0 n).dummy = none := fun n => by
      induction n with
      | zero => rw [← hp0]; rfl
      | succ n ih =>
        rw [nth_succ]
        unfold adv
        split <;> exact ih
    have ha : ∀ (i : Nat) (p : Addr × List Int), L[i]? = some p → hA es i = thash P w p.2 := fun i p hp => by
      unfold hA
      rw [R.entry hp]; rfl
    have spec := go_spec t R.tab.ris R.tab.dm (hA es) h (10 * SetTable.turns t.mask) (K - c) (nth t.mask p0 c) (nodum c) (by omega)
      (fun q hq => by rw [sh, wy]; exact full (c + q) (by omega)) (by rw [sh, wy, show c + (K - c) = K by omega]; exact gap)
    simp only [sh, wy] at spec
    rw [setSearchFrom_succ]
    refine wpAny_bind (wpAny_setState_of ho hd R.fits ?_)
    dsimp only
    refine wp_if_neg (by unfold SetTable.gaveWay; rw [R.tab.mok.odd]; decide) ?_
    rw [hst, show (fun i : Nat => (es[i]?.map (·.1)).getD 0) = hA es from rfl]
    have passed : ∀ q, (∀ k' i', k' < q → t.place.toList[i']? = some (way t.mask h (c + k')) → hA es i' ≠ h) → ∀ (i : Nat) (p : Addr × List Int), L[i]? = some p → p.2 = k → ∃ c', c + q ≤ c' ∧ c' < K ∧ t.place.toList[i]? = some (way t.mask h c') := fun q hno i p hp hk => by
      obtain ⟨c', a1, a2, a3⟩ := still i p hp hk
      refine ⟨c', ?_, a2, a3⟩
      rcases Nat.lt_or_ge c' (c + q) with z | z
      · exfalso
        refine hno (c' - c) i (by omega) (by rw [show c + (c' - c) = c' by omega]; exact a3) ?_
        rw [ha i p hp, hk, hh]
      · exact z
    rcases spec with ⟨q, i, hq, hi, hhi, hno, hpr⟩ | ⟨hno, hpr⟩
    · rw [show t.probe (hA es) h (nth t.mask p0 c) = _ from hpr]
      dsimp only
      have il : i < L.length := by rw [← R.plen]; exact (List.getElem?_eq_some_iff.mp hi).1
      obtain ⟨p, hp⟩ : ∃ p, L[i]? = some p := ⟨L[i], List.getElem?_eq_getElem il⟩
      have pm : p ∈ L := List.mem_of_getElem? hp
      have pt := R.tup p pm
      have hsl : t.slot (way t.mask h (c + q)) = .live i := slot_live R.tab.ris hi
      have rest : wpAny (model P w) A (searchRest a (.ref x) h true f es t (way t.mask h (c + q)) i (nth t.mask p0 (c + (q + 1)))) Q E s := by
        unfold searchRest
        rw [R.entry hp]
        dsimp only
        refine wpAny_bind (wpAny_holding (wpAny_eqBool_tuple hu pt hx ?_))
        refine wpAny_bind (wpAny_setState_of ho hd R.fits ?_)
        dsimp only
        by_cases kk : p.2 = k
        · exact wp_if_pos (by simp [kk]) (wpAny_pure (yes (List.mem_map.mpr ⟨p, pm, kk⟩)))
        · refine wp_if_neg (by simp [kk]) ?_
          rw [sameMem]
          dsimp only
          simp only [if_true, hsl, R.entry hp]
          refine wpAny_bind (wpAny_isSame_ref_self (wpAny_bind (wpAny_pure ?_)))
          simp only [if_true]
          refine wp_if_neg (by simp [kk]) ?_
          subst hh
          have hp0' := hp0
          refine sg_from R hx hu hKf gap full yes no f (c + (q + 1)) _ (by rw [hp0]; rfl) (by omega) (by omega) fun i0 q0 h0 k0 => ?_
          obtain ⟨c', a1, a2, a3⟩ := passed q hno i0 q0 h0 k0
          refine ⟨c', ?_, a2, a3⟩
          rcases Nat.lt_or_ge (c + q) c' with z | z
          · omega
          · exfalso
            have : c' = c + q := by omega
            subst this
            have s0 := slot_live R.tab.ris a3
            rw [hsl] at s0
            cases s0
            rw [hp] at h0
            cases h0
            exact kk k0
      by_cases hl : t.led = true
      · exact wp_if_neg (by simp [hl]) rest
      · refine wp_if_pos (by simp [hl]) ?_
        refine wpAny_bind (seen_tup hx (fun y hy => ?_) (wp_if_neg (by decide) rest))
        obtain ⟨e, he, rfl⟩ := List.mem_map.mp hy
        have he1 : e ∈ es.toList := by
          have : e ∈ es ∧ e.1 = h := by simpa using he
          simpa using this.1
        rw [R.rows] at he1
        obtain ⟨p2, hp2, rfl⟩ := List.mem_map.mp he1
        exact ⟨p2.2, p2.1, rfl, R.tup p2 hp2⟩
    · rw [show t.probe (hA es) h (nth t.mask p0 c) = _ from hpr, show c + (K - c) = K by omega]
      dsimp only
      refine wpAny_pure (no fun hm => ?_)
      obtain ⟨p, hp, hk⟩ := List.mem_map.mp hm
      obtain ⟨i, hi, e⟩ := List.getElem_of_mem hp
      have hi2 : L[i]? = some p := by rw [List.getElem?_eq_getElem hi, e]
      obtain ⟨c', a1, a2, _⟩ := passed (K - c) hno i p hi2 hk
      omega
end
end Mi

namespace Mi
open PySem PySem.Spec PyProof.Rows L2
section
variable {P : Program} {w : World} {A : Around} {E : Value → Shared → Prop} {s : Shared}
variable {a : Addr} {L : List (Addr × List Int)} {es : Array (Int × Value)} {ep : Nat} {t : SetTable}
theorem sg_at (R : SG P w s.heap a L es ep t) {x : Addr} {k : List Int} (hx : IsT P w s.heap k x) (hu : A.units < cLine) {Q : SetFound → Shared → Prop}
    (yes : k ∈ L.map (·.2) → Q (.there none) s)
    (no : ∀ K, k ∉ L.map (·.2) → way t.mask (thash P w k) K ∉ t.place.toList → (∀ c, c < K → way t.mask (thash P w k) c ∈ t.place.toList) → Q (.free (way t.mask (thash P w k) K) false) s) :
    wpAny (model P w) A (setSearch a (.ref x) (thash P w k) true) Q E s := by
  have room := R.room
  have lm := R.tab.mok.le
  obtain ⟨K, kf, gap, full⟩ := R.tab.gap (by rw [List.length_map]; omega) (thash P w k)
  unfold setSearch
  refine sg_from R hx hu kf gap full yes (fun hn => no K hn gap full) 100000 0 none rfl (Nat.zero_le _) (by unfold SetTable.turns at kf; omega) fun i p hp hk => ?_
  have il : i < t.place.toList.length := by rw [R.plen]; exact (List.getElem?_eq_some_iff.mp hp).1
  have hz : (t.place.toList[i], thash P w k) ∈ t.place.toList.zip (L.map fun p => thash P w p.2) := by
    refine List.mem_of_getElem? (i := i) ?_
    rw [List.getElem?_zip_eq_some]
    exact ⟨List.getElem?_eq_getElem il, by rw [List.getElem?_map, hp]; exact congrArg (fun z => some (thash P w z)) hk⟩
  obtain ⟨c, hc, e⟩ := R.tab.ahead gap hz
  exact ⟨c, Nat.zero_le _, hc, by rw [List.getElem?_eq_getElem il, ← e]⟩
theorem sg_relay {o : Obj} (ho : s.heap.get? a = some o) (hex : o.ExactSet) (hd : o.data = .set es ep t) (rows : es.toList = rowsOf P w L) (tab : GT t (L.map fun p => thash P w p.2)) (fl : L.length ≤ t.mask)
    (nd : (L.map (·.2)).Nodup) (tup : ∀ p ∈ L, IsT P w s.heap p.2 p.1) (pl : t.plain = true) (ld : w.params.followText "set-order" = true ∨ t.led = true) (few : L.length ≤ 300) {wanted m : Nat}
    (hw : SetTable.sizeAbove wanted - 1 = m) (hm : MaskG m) (hn : L.length * 5 < m * 3) {Q : Unit → Shared → Prop}
    (hQ : ∀ h' L' es' ep' t', Heap.SameBut a s.heap h' → SG P w h' a L' es' ep' t' → L'.Perm L → Q () { s with heap := h' }) : wpAny (model P w) A (setRelay a wanted) Q E s := by
  have size : es.size = L.length := by rw [← Array.length_toList, rows]; exact List.length_map ..
  have lm := hm.le
  have fits : t.fits es.size = true := by
    have a := tab.sz
    rw [List.length_map, Array.length_toList] at a
    unfold SetTable.fits SetTable.fill
    rw [tab.dm]
    have e : t.place.size = es.size := by omega
    simp [e]
    omega
  obtain ⟨t', order, e, perm, T, em, el, ep'⟩ := anew hm t (hs := es.map (·.1)) (wanted := wanted) hw (by rw [Array.size_map, size]; omega)
  rw [Array.size_map, size] at perm
  obtain ⟨L2, r1, r2, r3⟩ := order_rows L es order rows perm
  rw [← r3] at T
  have size2 : (order.filterMap (es[·]?)).size = es.size := by
    rw [← Array.length_toList, r1, size, ← r2.length_eq]; exact List.length_map ..
  rw [setRelay_eq]
  refine wpAny_bind (wpAny_setState_of ho hd fits ?_)
  dsimp only
  refine wp_if_neg (by rw [sizeLine_eq]; omega) ?_
  rw [e]
  dsimp only
  refine wpAny_bind (wp_if_neg (by rw [size2]; simp) (wpAny_pure ?_))
  dsimp only
  refine wpAny_storeSet_of ho hd (hQ _ L2 (order.filterMap (es[·]?)) (ep + 1) t' (Heap.SameBut.update ..) ?_ r2) (by rw [size2, size, sizeLine_eq]; omega)
  exact ⟨⟨_, store_at ho hd, ⟨hex.1, hex.2.1, hex.2.2⟩, rfl⟩, r1, T, (r2.map (·.2)).nodup_iff.mpr nd, fun p hp => isT_same (tup p (r2.mem_iff.mp hp)) ho hd (Heap.SameBut.update ..), by rw [ep']; exact pl, by rw [el]; exact ld, by rw [r2.length_eq, em]; exact hn, by rw [r2.length_eq]; exact few⟩
theorem grow5 : SetTable.sizeAbove (SetTable.grown 5) - 1 = 31 := by decide +kernel
theorem grow19 : SetTable.sizeAbove (SetTable.grown 19) - 1 = 127 := by decide +kernel
theorem grow77 : SetTable.sizeAbove (SetTable.grown 77) - 1 = 511 := by decide +kernel
theorem sg_add (R : SG P w s.heap a L es ep t) {x : Addr} {k : List Int} (hx : IsT P w s.heap k x) (hu : A.units < cLine) (few : L.length + 1 ≤ 300) {Q : Bool → Shared → Prop}
    (hQ : ∀ b h' L' es' ep' t', Heap.SameBut a s.heap h' → SG P w h' a L' es' ep' t' → (k ∈ L.map (·.2) → L' = L) → (k ∉ L.map (·.2) → L'.Perm ((x, k) :: L)) → Q b { s with heap := h' }) :
    wpAny (model P w) A (setAddHashed a (.ref x) (thash P w k)) Q E s := by
  obtain ⟨o, ho, hex, hd⟩ := R.ob
  have size := R.size
  have room := R.room
  unfold setAddHashed
  refine wpAny_holding ?_
  rw [show (100000 : Nat) = 99999 + 1 from rfl, setAddHashedIn_succ]
  refine wpAny_bind (wpAny_setState_of ho hd R.fits ?_)
  dsimp only
  refine wp_if_neg (by simp [byScan, Value.scannable]) ?_
  refine wpAny_bind (sg_at R hx hu (fun hm => ?_) fun K hm gap full => ?_)
  · exact wpAny_pure (hQ false s.heap L es ep t (Heap.SameBut.refl a s.heap) R (fun _ => rfl) fun z => absurd hm z)
  · dsimp only
    refine wpAny_bind (wpAny_setState_of ho hd R.fits ?_)
    have G := R.tab.into gap full
    have pe : (t.put (way t.mask (thash P w k) K)).2 = SetTable.below t.place (way t.mask (thash P w k) K) := rfl
    have qm : (t.put (way t.mask (thash P w k) K)).1.mask = t.mask := rfl
    have ql : (t.put (way t.mask (thash P w k) K)).1.led = t.led := rfl
    have qp : (t.put (way t.mask (thash P w k) K)).1.plain = t.plain := rfl
    have ins : (SetTable.insertAt es (SetTable.below t.place (way t.mask (thash P w k) K)) (thash P w k, Value.ref x)).toList = rowsOf P w (L.take (SetTable.below t.place (way t.mask (thash P w k) K)) ++ (x, k) :: L.drop (SetTable.below t.place (way t.mask (thash P w k) K))) := by
      rw [SetTable.toList_insertAt, rows_put, R.rows]
    have pm := put_perm L (SetTable.below t.place (way t.mask (thash P w k) K)) (x, k)
    have hh : (L.take (SetTable.below t.place (way t.mask (thash P w k) K)) ++ (x, k) :: L.drop (SetTable.below t.place (way t.mask (thash P w k) K))).map (fun p => thash P w p.2) = (L.map fun p => thash P w p.2).take (SetTable.below t.place (way t.mask (thash P w k) K)) ++ thash P w k :: (L.map fun p => thash P w p.2).drop (SetTable.below t.place (way t.mask (thash P w k) K)) := by
      rw [List.map_append, List.map_cons, List.map_take, List.map_drop]
    rw [← hh] at G
    generalize t.put (way t.mask (thash P w k) K) = pt at *
    obtain ⟨t1, p⟩ := pt
    dsimp only at pe qm ql qp G ⊢
    subst pe
    rw [qp]
    refine wp_if_pos R.plain (wpAny_bind (hashBy_tup hx ?_))
    simp only [if_true]
    generalize SetTable.insertAt es (SetTable.below t.place (way t.mask (thash P w k) K)) (thash P w k, Value.ref x) = es1 at *
    generalize L.take (SetTable.below t.place (way t.mask (thash P w k) K)) ++ (x, k) :: L.drop (SetTable.below t.place (way t.mask (thash P w k) K)) = L1 at *
    have len : L1.length = L.length + 1 := pm.length_eq
    have nd1 : (L1.map (·.2)).Nodup := (pm.map (·.2)).nodup_iff.mpr (List.nodup_cons.mpr ⟨hm, R.nd⟩)
    have es1l : es1.size = L.length + 1 := by rw [← Array.length_toList, ins, ← len]; exact List.length_map ..
    refine wpAny_bind (wpAny_storeSet_of ho hd ?_ (by rw [es1l, sizeLine_eq]; omega))
    have sb : Heap.SameBut a s.heap (s.heap.update a (Obj.putSet es1 t1)) := Heap.SameBut.update ..
    have ho1 := store_at (es' := es1) (t' := t1) ho hd
    generalize s.heap.update a (Obj.putSet es1 t1) = h1 at sb ho1 ⊢
    have tup1 : ∀ p ∈ L1, IsT P w h1 p.2 p.1 := fun p hp => by
      rcases List.mem_cons.mp (pm.mem_iff.mp hp) with rfl | hp
      · exact isT_same hx ho hd sb
      · exact isT_same (R.tup p hp) ho hd sb
    have pl1 : t1.plain = true := qp.trans R.plain
    have ld1 : w.params.followText "set-order" = true ∨ t1.led = true := by rw [ql]; exact R.led
    have fill : t1.fill = L.length + 1 := by
      have := G.sz
      rw [List.length_map, len, Array.length_toList] at this
      unfold SetTable.fill
      rw [G.dm, this]
      rfl
    by_cases hf : t1.tooFull = true
    · refine wp_if_pos (by simp [hf]) (wpAny_bind ?_)
      have hfull : (L.length + 1) * 5 ≥ t1.mask * 3 := by
        unfold SetTable.tooFull at hf
        rw [decide_eq_true_eq, fill] at hf
        exact hf
      rw [size]
      rw [qm] at hfull
      have go : ∀ m, SetTable.sizeAbove (SetTable.grown (L.length + 1)) - 1 = m → MaskG m → (L.length + 1) * 5 < m * 3 → wpAny (model P w) A (setRelay a (SetTable.grown (L.length + 1))) (fun _ s' => wpAny (model P w) A (pure true) Q E s') E { s with heap := h1 } := fun m e1 e2 e3 => by
        refine sg_relay (s := { s with heap := h1 }) ho1 ⟨hex.1, hex.2.1, hex.2.2⟩ rfl ins G (by rw [len, qm]; omega) nd1 tup1 pl1 ld1 (by omega) e1 e2 (by rw [len]; exact e3) ?_
        intro h2 L2 es2 ep2 t2 sb2 R2 pm2
        exact wpAny_pure (hQ true h2 L2 es2 ep2 t2 (sb.trans sb2) R2 (fun z => absurd z hm) fun _ => pm2.trans pm)
      rcases R.tab.mok with e | e | e | e
      · have : L.length = 4 := by omega
        exact go 31 (by rw [this]; exact grow5) (.inr (.inl rfl)) (by omega)
      · have : L.length = 18 := by omega
        exact go 127 (by rw [this]; exact grow19) (.inr (.inr (.inl rfl))) (by omega)
      · have : L.length = 76 := by omega
        exact go 511 (by rw [this]; exact grow77) (.inr (.inr (.inr rfl))) (by omega)
      · exfalso; omega
    · refine wp_if_neg (by simp [hf]) ?_
      refine wpAny_pure (hQ true h1 L1 es1 (ep + 1) t1 sb ⟨⟨_, ho1, ⟨hex.1, hex.2.1, hex.2.2⟩, rfl⟩, ins, G, nd1, tup1, pl1, ld1, ?_, by omega⟩ (fun z => absurd z hm) fun _ => pm)
      have : ¬ ((L.length + 1) * 5 ≥ t1.mask * 3) := fun c => hf (by unfold SetTable.tooFull; rw [decide_eq_true_eq, fill]; exact c)
      rw [len]
      omega
end
end Mi

namespace Mi
open PySem PySem.Spec PyProof.Rows L2
section
variable {P : Program} {w : World} {A : Around} {E : Value → Shared → Prop} {s : Shared}
theorem SG.keep {h h' : Heap} {a : Addr} {L : List (Addr × List Int)} {es : Array (Int × Value)} {ep : Nat} {t : SetTable} (R : SG P w h a L es ep t) (ha : ∀ o, h.get? a = some o → h'.get? a = some o) (ht : ∀ p ∈ L, IsT P w h' p.2 p.1) : SG P w h' a L es ep t :=
  ⟨let ⟨o, ho, r⟩ := R.ob; ⟨o, ha o ho, r⟩, R.rows, R.tab, R.nd, ht, R.plain, R.led, R.room, R.few⟩
theorem sg_new {h : Heap} {a : Addr} (ho : h.get? a = some { cls := .type "set", dict := none, data := .set #[] 0 (.fresh 0 0 (!w.params.followText "set-order")) }) : SG P w h a [] #[] 0 (.fresh 0 0 (!w.params.followText "set-order")) := by
  refine ⟨⟨_, ho, ⟨rfl, rfl, rfl⟩, rfl⟩, rfl, ⟨List.Pairwise.nil, rfl, rfl, .inl rfl, (fun _ z => nomatch z), (fun _ z => nomatch z)⟩, List.nodup_nil, (fun _ z => nomatch z), rfl, ?_, (by show 0 * 5 < 7 * 3; decide), Nat.zero_le _⟩
  show _ ∨ (!w.params.followText "set-order") = true
  cases w.params.followText "set-order"
  · exact .inr rfl
  · exact .inl rfl
theorem sg_loop {I : Addr} {fp wr : List Addr} {G : Array GenState → Array GenState → Prop} {n : Nat} {Pv : Nat → Value → Prop} {St : Nat → Shared → Prop} {R : Result → Shared → Prop}
    (W : WalksS P w A.in1 I fp wr G n Pv St) (S : Addr) (out : S ∉ fp) (ks : List (Addr × List Int)) (hn : n = ks.length) (few : ks.length ≤ 300) (val : ∀ i v, Pv i v → ∃ p, ks[i]? = some p ∧ v = .ref p.1)
    (h0 : Heap) (hk : ∀ p ∈ ks, IsT P w h0 p.2 p.1) (new : h0.get? S = none) (newW : ∀ b ∈ wr, h0.get? b = none) (hu : A.in1.units < cLine) (left : Nat) :
    ∀ (i : Nat) (s : Shared), n = i + left → St i s → (∀ b o, h0.get? b = some o → s.heap.get? b = some o) → (∃ L es ep t, SG P w s.heap S L es ep t ∧ Got ks i L) →
      (∀ s' L es ep t, Moved (S :: wr) G s s' → SG P w s'.heap S L es ep t → Got ks n L → (∀ b o, h0.get? b = some o → s'.heap.get? b = some o) → R (.ok (.ret .none)) s') →
      codeAny (model P w) A (.builtin "set.update.loop" ⟨[.ref S, .ref I], []⟩) R s := by
  have outW : S ∉ wr := fun h => out (W.sub _ h)
  have more : ∀ b ∈ wr, b ∈ S :: wr := fun b => List.mem_cons_of_mem _
  have old : ∀ {s s' : Shared}, Moved wr G s s' → (∀ b o, h0.get? b = some o → s.heap.get? b = some o) → ∀ b o, h0.get? b = some o → s'.heap.get? b = some o := fun m k b o e =>
    m.heap b o (fun z => by rw [newW b z] at e; cases e) (k b o e)
  induction left with
  | zero =>
    intro i s hi st kp ⟨L, es, ep, t, R0, g⟩ fin
    obtain rfl : i = n := by omega
    refine codeAny_builtin F.entry_set_update_loop ?_
    rw [Around.under_plainId F.plain_set_update_loop _]
    refine wpAny_bind (W.done s _ _ st fun s' m => wpAny_pure ?_)
    have k' := old m kp
    exact fin s' L es ep t (m.mono more) (R0.keep (fun o e => m.heap S o outW e) fun p hp => isT_keep (hk p (List.mem_of_mem_take (g.sub p hp))) k') g k'
  | succ left ih =>
    intro i s hi st kp ⟨L, es, ep, t, R0, g⟩ fin
    refine codeAny_builtin F.entry_set_update_loop ?_
    rw [Around.under_plainId F.plain_set_update_loop _]
    refine wpAny_bind (W.item i s _ _ (by omega) st fun v s' pv st' m => ?_)
    obtain ⟨p, hp, rfl⟩ := val i v pv
    have k' := old m kp
    have R1 : SG P w s'.heap S L es ep t := R0.keep (fun o e => m.heap S o outW e) fun q hq => isT_keep (hk q (List.mem_of_mem_take (g.sub q hq))) k'
    have tp : IsT P w s'.heap p.2 p.1 := isT_keep (hk p (List.mem_of_getElem? hp)) k'
    have gl := g.len
    refine wpAny_bind (m := holding [Value.ref p.1] (setAdd S (.ref p.1))) (wpAny_holding ?_)
    unfold setAdd
    refine wpAny_holding (wpAny_bind (wpAny_pyHash_tuple hu tp ?_))
    refine sg_add (s := { s' with toks := s'.toks + (p.2.length + 1) }) R1 tp hu (by omega) fun b h' L' es' ep' t' sb R2 c1 c2 => ?_
    have g2 : Got ks (i + 1) L' := by
      rcases Classical.em (p.2 ∈ L.map (·.2)) with c | c
      · rw [c1 c]; exact g.same hp c
      · exact g.more hp (c2 c)
    have k2 : ∀ b o, h0.get? b = some o → h'.get? b = some o := fun b o e => (sb.2 b (fun z => by rw [z, new] at e; cases e)).trans (k' b o e)
    refine wpAny_pure ⟨plainId_quiet F.plain_set_update_loop _, ih (i + 1) _ (by omega) (W.frame _ s' _ _ st' (Nat.le_add_right _ _) fun b hb o e => ?_) k2 ⟨L', es', ep', t', R2, g2⟩ fun s2 L2 es2 ep2 t2 m2 R3 g3 k3 => fin s2 L2 es2 ep2 t2 (Moved.trans W.gtrans ((m.mono more).then_heap (Nat.le_add_right _ _) fun b o hb e => ?_) m2) R3 g3 k3⟩
    · rw [sb.2 b fun z => out (z ▸ hb)]; exact e
    · rw [sb.2 b fun z => hb (by rw [z]; exact List.mem_cons_self)]; exact e
end
end Mi

namespace Mi
open PySem PySem.Spec PyProof.Rows L2
section
variable {P : Program} {w : World} {A : Around} {E : Value → Shared → Prop} {s : Shared}
theorem sg_set_list {l : Addr} {items : Array Value} (ks : List (Addr × List Int)) {Q : Value → Shared → Prop} (hh : A.handled = none) (hl : s.heap.IsList l items) (hit : items.toList = ks.map fun p => Value.ref p.1)
    (hk : ∀ p ∈ ks, IsT P w s.heap p.2 p.1) (few : ks.length ≤ 300) (hu : A.units + 3 < cLine)
    (h : ∀ (h' : Heap) (tk : Nat) L es ep t, SG P w h' s.heap.objs.size L es ep t → Got ks ks.length L → (∀ b o, s.heap.get? b = some o → h'.get? b = some o) → Q (.ref s.heap.objs.size) { s with heap := h', toks := tk }) :
    wpAny (model P w) A (call (.type "set") [.ref l]) Q E s := by
  have size : items.size = ks.length := by rw [← Array.length_toList, hit, List.length_map]
  have fresh : ∀ b, s.heap.objs.size ≤ b → s.heap.get? b = none := fun b hb => by
    cases q : s.heap.get? b with
    | none => rfl
    | some o => exact absurd (Nat.lt_of_lt_of_le (Heap.lt_size q) hb) (Nat.lt_irrefl _)
  have vals : ∀ (i : Nat) (v : Value), items[i]? = some v → ∃ p, ks[i]? = some p ∧ v = .ref p.1 := fun i v hv => by
    rw [← Array.getElem?_toList, hit, List.getElem?_map] at hv
    obtain ⟨p, hp, rfl⟩ := Option.map_eq_some_iff.mp hv
    exact ⟨p, hp, rfl⟩
  obtain ⟨c, tl, hmro⟩ := F.called_set.mro
  have hmade := F.called_set.made
  have hsub := F.called_set.sub
  refine wpAny_call (codeAny_of_tree ?_)
  show wpAny _ _ (callAny (.type "set") _) _ _ _
  refine wpAny_pure ⟨Code.quiet_builtin _ (by decide +kernel), codeAny_builtin F.entry_type_call ?_⟩
  rw [Around.under_plain (weight_type_call_type "set" [.ref l] []) rfl]
  have h1 := F.called_set.notType
  have h2 := F.called_set.canCreate
  have hct := F.typeCall_set_1 (.ref l)
  repeat (any_goals (first | assumption | wp_step))
  generalize hO : ({ cls := .type "set", dict := none, data := .set #[] 0 (.fresh 0 0 (!w.params.followText "set-order")) } : Obj) = O
  refine codeAny_mono (code_set_led1 (.ref l) (E := E) (Q₁ := fun obj s₁ => obj = .ref s.heap.objs.size ∧ s₁ = { s with heap := s.heap.push O }) (by subst hO; exact ⟨rfl, rfl⟩)) fun r s₁ hr => ?_
  have hS : (s.heap.push O).get? s.heap.objs.size = some O := Heap.get?_push_size _ (by subst hO; rfl)
  cases r with
  | error e => exact hr
  | ok fl =>
    cases fl with
    | ret obj =>
      obtain ⟨rfl, rfl⟩ := hr
      have hT : Shared.TypeIs { s with heap := s.heap.push O } (.ref s.heap.objs.size) "set" := ⟨_, hS, by subst hO; rfl⟩
      have hli := F.called_set.init.lookup
      have hbi := F.called_set.init.bind (.ref s.heap.objs.size)
      repeat (any_goals (first | assumption | wp_step))
      refine codeAny_mono (codeAny_call_builtin (R := wants (fun r s₂ => r = .none ∧ ∃ h' tk L es ep t, s₂ = { s with heap := h', toks := tk } ∧ SG P w h' s.heap.objs.size L es ep t ∧ Got ks ks.length L ∧
          (∀ b o, s.heap.get? b = some o → h'.get? b = some o)) E) F.called_set.init.plain F.entry_set_init (check_set_init_1 hT ?_)) fun r₂ s₂ hr₂ => ?_
      · obtain ⟨ol, hol, hcl, nl, hdl⟩ := hl
        obtain ⟨ocls, odict, odata, oslots⟩ := ol
        simp only at hcl hdl
        subst hcl; subst hdl
        have hol' : (s.heap.push O).get? l = some { cls := .type "list", dict := odict, data := .seq items nl, slots := oslots } := Heap.get?_push_of_some _ hol
        have hsls := F.sub_list_set
        have hslf := F.sub_list_frozenset
        have hne : (Value.type "list" == Value.type "dict") = false := by decide
        have hl0 : s.heap.IsList l items := ⟨_, hol, rfl, nl, rfl⟩
        have hl1 : (s.heap.push O).IsList l items := ⟨_, hol', rfl, nl, rfl⟩
        have lt : l < s.heap.objs.size := Heap.lt_size hol
        have ne1 : l ≠ (s.heap.push O).objs.size := by rw [Heap.size_push]; exact Nat.ne_of_lt (Nat.lt_succ_of_lt lt)
        have ne2 : s.heap.objs.size ∉ [(s.heap.push O).objs.size, l] := by
          rw [Heap.size_push]
          simp only [List.mem_cons, List.not_mem_nil, or_false, not_or]
          exact ⟨Nat.ne_of_lt (Nat.lt_succ_self _), Nat.ne_of_gt lt⟩
        have hh3 : A.in1.in1.in1.handled = none := by simp [hh]
        subst hO
        unfold Builtin.«set.__init__» noKeywords Builtin.Frozenset.updateFrom
        generalize hPI : pyIter = PI
        wp_walk
        subst hPI
        refine wpAny_pyIter_list hl1 ?_
        refine wpAny_bind (wpAny_runValue ?_)
        refine sg_loop ((Walks.list hh3 _ l ne1 items).toS) s.heap.objs.size ne2 ks size few vals s.heap hk (fresh _ (Nat.le_refl _)) (fun b hb => fresh b (by
            rw [List.mem_singleton.mp hb, Heap.size_push]
            exact Nat.le_succ _)) hu items.size 0 _ (by omega) ⟨⟨_, Heap.get?_push_size _ rfl, rfl, rfl⟩, (hl1.push _)⟩ (fun b o e => Heap.get?_push_of_some _ (Heap.get?_push_of_some _ e)) ?hS0 ?hR
        case hS0 =>
          have hget := Heap.get?_push_of_some { cls := .type "list_iterator", data := .fields #[.ref l, .int 0 0] } hS
          exact ⟨[], #[], 0, _, sg_new hget, Got.zero ks⟩
        case hR =>
          intro s' L es ep t hm hS' g' hkp
          obtain ⟨h', g2, d', tk', os'⟩ := s'
          have eg : g2 = s.gens := hm.gens
          have ed : d' = s.drawn := hm.drawn
          have eo : os' = s.os := hm.os
          subst eg; subst ed; subst eo
          refine wpAny_pure ?_
          show wpAny _ _ (ret Value.none) _ _ _
          rw [size] at g'
          exact wpAny_pure ⟨rfl, h', tk', L, es, ep, t, rfl, hS', g', hkp⟩
      · cases r₂ with
        | error e => exact hr₂
        | ok fl₂ =>
          cases fl₂ with
          | ret r =>
            obtain ⟨rfl, h', tk, L, es, ep, t, rfl, hS', g', hk'⟩ := hr₂
            repeat (any_goals (first | assumption | wp_step))
            exact h _ _ _ _ _ _ hS' g' hk'
          | _ => exact hr₂.elim
    | _ => exact hr.elim
theorem sg_set_tuple {l : Addr} {items : Array Value} (ks : List (Addr × List Int)) {Q : Value → Shared → Prop} (hh : A.handled = none) (hl : s.heap.IsTuple l items) (hit : items.toList = ks.map fun p => Value.ref p.1)
    (hk : ∀ p ∈ ks, IsT P w s.heap p.2 p.1) (few : ks.length ≤ 300) (hu : A.units + 3 < cLine)
    (h : ∀ (h' : Heap) (tk : Nat) L es ep t, SG P w h' s.heap.objs.size L es ep t → Got ks ks.length L → (∀ b o, s.heap.get? b = some o → h'.get? b = some o) → Q (.ref s.heap.objs.size) { s with heap := h', toks := tk }) :
    wpAny (model P w) A (call (.type "set") [.ref l]) Q E s := by
  have size : items.size = ks.length := by rw [← Array.length_toList, hit, List.length_map]
  have fresh : ∀ b, s.heap.objs.size ≤ b → s.heap.get? b = none := fun b hb => by
    cases q : s.heap.get? b with
    | none => rfl
    | some o => exact absurd (Nat.lt_of_lt_of_le (Heap.lt_size q) hb) (Nat.lt_irrefl _)
  have vals : ∀ (i : Nat) (v : Value), items[i]? = some v → ∃ p, ks[i]? = some p ∧ v = .ref p.1 := fun i v hv => by
    rw [← Array.getElem?_toList, hit, List.getElem?_map] at hv
    obtain ⟨p, hp, rfl⟩ := Option.map_eq_some_iff.mp hv
    exact ⟨p, hp, rfl⟩
  obtain ⟨c, tl, hmro⟩ := F.called_set.mro
  have hmade := F.called_set.made
  have hsub := F.called_set.sub
  refine wpAny_call (codeAny_of_tree ?_)
  show wpAny _ _ (callAny (.type "set") _) _ _ _
  refine wpAny_pure ⟨Code.quiet_builtin _ (by decide +kernel), codeAny_builtin F.entry_type_call ?_⟩
  rw [Around.under_plain (weight_type_call_type "set" [.ref l] []) rfl]
  have h1 := F.called_set.notType
  have h2 := F.called_set.canCreate
  have hct := F.typeCall_set_1 (.ref l)
  repeat (any_goals (first | assumption | wp_step))
  generalize hO : ({ cls := .type "set", dict := none, data := .set #[] 0 (.fresh 0 0 (!w.params.followText "set-order")) } : Obj) = O
  refine codeAny_mono (code_set_led1 (.ref l) (E := E) (Q₁ := fun obj s₁ => obj = .ref s.heap.objs.size ∧ s₁ = { s with heap := s.heap.push O }) (by subst hO; exact ⟨rfl, rfl⟩)) fun r s₁ hr => ?_
  have hS : (s.heap.push O).get? s.heap.objs.size = some O := Heap.get?_push_size _ (by subst hO; rfl)
  cases r with
  | error e => exact hr
  | ok fl =>
    cases fl with
    | ret obj =>
      obtain ⟨rfl, rfl⟩ := hr
      have hT : Shared.TypeIs { s with heap := s.heap.push O } (.ref s.heap.objs.size) "set" := ⟨_, hS, by subst hO; rfl⟩
      have hli := F.called_set.init.lookup
      have hbi := F.called_set.init.bind (.ref s.heap.objs.size)
      repeat (any_goals (first | assumption | wp_step))
      refine codeAny_mono (codeAny_call_builtin (R := wants (fun r s₂ => r = .none ∧ ∃ h' tk L es ep t, s₂ = { s with heap := h', toks := tk } ∧ SG P w h' s.heap.objs.size L es ep t ∧ Got ks ks.length L ∧
          (∀ b o, s.heap.get? b = some o → h'.get? b = some o)) E) F.called_set.init.plain F.entry_set_init (check_set_init_1 hT ?_)) fun r₂ s₂ hr₂ => ?_
      · obtain ⟨ol, hol, hcl, nl, hdl⟩ := hl
        obtain ⟨ocls, odict, odata, oslots⟩ := ol
        simp only at hcl hdl
        subst hcl; subst hdl
        have hol' : (s.heap.push O).get? l = some { cls := .type "tuple", dict := odict, data := .seq items nl, slots := oslots } := Heap.get?_push_of_some _ hol
        have hsls := F.sub_tuple_set
        have hslf := F.sub_tuple_frozenset
        have hne : (Value.type "tuple" == Value.type "dict") = false := by decide
        have hl0 : s.heap.IsTuple l items := ⟨_, hol, rfl, nl, rfl⟩
        have hl1 : (s.heap.push O).IsTuple l items := ⟨_, hol', rfl, nl, rfl⟩
        have lt : l < s.heap.objs.size := Heap.lt_size hol
        have ne1 : l ≠ (s.heap.push O).objs.size := by rw [Heap.size_push]; exact Nat.ne_of_lt (Nat.lt_succ_of_lt lt)
        have ne2 : s.heap.objs.size ∉ [(s.heap.push O).objs.size, l] := by
          rw [Heap.size_push]
          simp only [List.mem_cons, List.not_mem_nil, or_false, not_or]
          exact ⟨Nat.ne_of_lt (Nat.lt_succ_self _), Nat.ne_of_gt lt⟩
        have hh3 : A.in1.in1.in1.handled = none := by simp [hh]
        subst hO
        unfold Builtin.«set.__init__» noKeywords Builtin.Frozenset.updateFrom
        generalize hPI : pyIter = PI
        wp_walk
        subst hPI
        refine wpAny_pyIter_tuple hl1 ?_
        refine wpAny_bind (wpAny_runValue ?_)
        refine sg_loop ((Walks.tuple hh3 _ l ne1 items).toS) s.heap.objs.size ne2 ks size few vals s.heap hk (fresh _ (Nat.le_refl _)) (fun b hb => fresh b (by
            rw [List.mem_singleton.mp hb, Heap.size_push]
            exact Nat.le_succ _)) hu items.size 0 _ (by omega) ⟨⟨_, Heap.get?_push_size _ rfl, rfl, rfl⟩, (hl1.push _)⟩ (fun b o e => Heap.get?_push_of_some _ (Heap.get?_push_of_some _ e)) ?hS0 ?hR
        case hS0 =>
          have hget := Heap.get?_push_of_some { cls := .type "tuple_iterator", data := .fields #[.ref l, .int 0 0] } hS
          exact ⟨[], #[], 0, _, sg_new hget, Got.zero ks⟩
        case hR =>
          intro s' L es ep t hm hS' g' hkp
          obtain ⟨h', g2, d', tk', os'⟩ := s'
          have eg : g2 = s.gens := hm.gens
          have ed : d' = s.drawn := hm.drawn
          have eo : os' = s.os := hm.os
          subst eg; subst ed; subst eo
          refine wpAny_pure ?_
          show wpAny _ _ (ret Value.none) _ _ _
          rw [size] at g'
          exact wpAny_pure ⟨rfl, h', tk', L, es, ep, t, rfl, hS', g', hkp⟩
      · cases r₂ with
        | error e => exact hr₂
        | ok fl₂ =>
          cases fl₂ with
          | ret r =>
            obtain ⟨rfl, h', tk, L, es, ep, t, rfl, hS', g', hk'⟩ := hr₂
            repeat (any_goals (first | assumption | wp_step))
            exact h _ _ _ _ _ _ hS' g' hk'
          | _ => exact hr₂.elim
    | _ => exact hr.elim
end
end Mi

namespace Mi
open PySem PySem.Spec PyProof.Rows L2
variable [TabsC]
open PySem.W (EachIs dataLe AllAlike Sortable keyToks keyToksAll alike alikeAll)
section
variable {P : Program} {w : World} {A : Around} {E : Value → Shared → Prop} {s : Shared}
theorem reads_items {h : Heap} : ∀ {k : List Int} {vs : List Value}, ItemsAre (intKind P w) k vs → ReadsAll h vs (k.map PyData.int) []
  | _, _, .nil => .nil
  | _, _, .cons h1 t => by
    obtain ⟨t0, rfl⟩ := Value.isInt_shape h1
    exact ReadsAll.cons (as := []) (.int _ _) (reads_items t)
theorem reads_isT {h : Heap} {k : List Int} {b : Addr} (x : IsT P w h k b) : Reads h (.ref b) (pyT k) [] := by
  obtain ⟨o, items, n, ho, hc, hd, hi⟩ := x
  exact .tuple ho hc hd (reads_items hi)
theorem each_refs : ∀ L : List (Addr × List Int), EachIs (fun u (b : V × PyData) => RelV b.1 u) (L.map fun q => Value.ref q.1) (L.map fun q => (V.ref q.1, pyT q.2))
  | [] => .nil
  | q :: L => .cons rfl (each_refs L)
theorem each_isT {h : Heap} : ∀ {L : List (Addr × List Int)}, (∀ q ∈ L, IsT P w h q.2 q.1) → ∀ a : Addr, EachIs (fun u (b : V × PyData) => ∃ as, Reads h u b.2 as ∧ a ∉ as) (L.map fun q => Value.ref q.1) (L.map fun q => (V.ref q.1, pyT q.2))
  | [], _, _ => .nil
  | q :: L, h, a => .cons ⟨[], reads_isT (h q List.mem_cons_self), (fun z => nomatch z)⟩ (each_isT (fun r hr => h r (List.mem_cons_of_mem _ hr)) a)
theorem refs_perm : ∀ {L : List (Addr × List Int)} {vs : List Value}, vs.Perm (L.map fun q => Value.ref q.1) → ∃ L1 : List (Addr × List Int), vs = L1.map (fun q => Value.ref q.1) ∧ L1.Perm L := by
  intro L vs h
  have key : ∀ {xs ys : List Value}, xs.Perm ys → ∀ L : List (Addr × List Int), ys = L.map (fun q => Value.ref q.1) → ∃ L1 : List (Addr × List Int), xs = L1.map (fun q => Value.ref q.1) ∧ L1.Perm L := by
    intro xs ys h
    induction h with
    | nil => intro L e; exact ⟨[], rfl, by cases L with | nil => exact List.Perm.refl _ | cons _ _ => cases e⟩
    | cons x _ ih =>
      intro L e
      cases L with
      | nil => cases e
      | cons q L =>
        rw [List.map_cons] at e
        injection e with e1 e2
        obtain ⟨L1, rfl, p⟩ := ih L e2
        exact ⟨q :: L1, by rw [List.map_cons, e1], p.cons q⟩
    | swap x y l =>
      intro L e
      match L, e with
      | q :: r :: L, e =>
        rw [List.map_cons, List.map_cons] at e
        injection e with e1 e2
        injection e2 with e2 e3
        exact ⟨r :: q :: L, by rw [List.map_cons, List.map_cons, e1, e2, e3], List.Perm.swap _ _ _⟩
      | [], e => cases e
      | [_], e => cases e
    | trans _ _ a b =>
      intro L e
      obtain ⟨L1, e1, p1⟩ := b L e
      obtain ⟨L2, e2, p2⟩ := a L1 e1
      exact ⟨L2, e2, p2.trans p1⟩
  exact key h L rfl
theorem sg_sorted {a : Addr} {L : List (Addr × List Int)} {es : Array (Int × Value)} {ep : Nat} {t : SetTable} {Q : Value → Shared → Prop} (R : SG P w s.heap a L es ep t) (hh : A.handled = none) (ne : ∀ p ∈ L, p.2 ≠ []) (hu : A.units + 64 < cLine)
    (hQ : ∀ s' p (out : List Value) (c : Nat) (L' : List (Addr × List Int)), (∀ b o, s.heap.get? b = some o → s'.heap.get? b = some o) → s'.gens = s.gens → s'.os = s.os → s.heap.objs.size ≤ p →
      s'.heap.get? p = some (seqObj "list" out.toArray c) → EachIs (fun u (b : V × PyData) => RelV b.1 u) out ((L'.map fun q => (V.ref q.1, pyT q.2)).mergeSort (dataLe false Prod.snd)) → L'.Perm L → Q (.ref p) s') :
    wpAny (model P w) A (call (.builtin "sorted") [.ref a]) Q E s := by
  obtain ⟨o, ho, hex, hd⟩ := R.ob
  have size := R.size
  have few := R.few
  refine Calls.call_function_entry kind_sorted plain_sorted entry_sorted (args_sorted1 _) ?_
  unfold Builtin.«sorted»
  refine wpAny_bind (m := checkCount "sorted" 1 1 _) (wpAny_pure ?_)
  refine wpAny_bind (collect_set (A := A.in1) hh ⟨o, ho, hex.1, hd⟩ R.fits (by unfold scanBound; omega) R.tab.ris R.led fun s1 vs k1 hz g1 o1 pm => ?_)
  have er : es.toList.map (·.2) = L.map fun q => Value.ref q.1 := by
    rw [R.rows, rowsOf, List.map_map]; rfl
  rw [er] at pm
  obtain ⟨L1, rfl, pL⟩ := refs_perm pm
  have len : L1.length = L.length := pL.length_eq
  refine wpAny_bind (wpAny_newList ?_ (by rw [List.length_map, len, sizeLine_eq]; omega))
  have at_ : (s1.heap.push (seqObj "list" (L1.map fun q => Value.ref q.1).toArray 0)).get? s1.heap.objs.size = some (seqObj "list" (L1.map fun q => Value.ref q.1).toArray 0) := Heap.get?_push_size _ rfl
  have tk : ∀ q ∈ L1, IsT P w (s1.heap.push (seqObj "list" (L1.map fun q => Value.ref q.1).toArray 0)) q.2 q.1 := fun q hq => isT_keep (R.tup q (pL.mem_iff.mp hq)) fun b u e => Heap.get?_push_of_some _ (k1 b u e)
  have sn : (L1.map fun q => (V.ref q.1, pyT q.2)).map Prod.snd = (L1.map (·.2)).map pyT := by rw [List.map_map, List.map_map]; rfl
  refine wpAny_bind (wpAny_holding (PySem.W.list_sort_data (s := { s1 with heap := s1.heap.push (seqObj "list" (L1.map fun q => Value.ref q.1).toArray 0) }) (bs := L1.map fun q => (V.ref q.1, pyT q.2)) (enc := Prod.snd) at_ (each_refs L1) (each_isT tk s1.heap.objs.size) ?_ ?_ (by rw [List.length_map, len, sizeLine_eq]; omega) (fun b hb => ?_) fun out ol eo => ?_))
  · rw [sn]
    intro d hd d' hd'
    obtain ⟨z, _, rfl⟩ := List.mem_map.mp hd
    obtain ⟨z', _, rfl⟩ := List.mem_map.mp hd'
    unfold pyT
    simp only [alike]
    exact alike_ints z z'
  · rw [sn]
    refine .inl fun d hd => ?_
    obtain ⟨z, hz, rfl⟩ := List.mem_map.mp hd
    obtain ⟨q, hq, rfl⟩ := List.mem_map.mp hz
    have := ne q (pL.mem_iff.mp hq)
    generalize q.2 = k at this
    cases k with
    | nil => exact (this rfl).elim
    | cons x xs => exact ⟨.int x, xs.map PyData.int, rfl⟩
  · obtain ⟨q, _, rfl⟩ := List.mem_map.mp hb
    have := depth_ints q.2
    show A.units + 1 + 1 + (pyT q.2).depth < cLine
    unfold pyT PyData.depth
    omega
  · obtain ⟨c, hc⟩ := sortedHeap_at (vs := L1.map fun q => Value.ref q.1) (out := out.toArray) at_
    refine wpAny_pure ⟨_, rfl, hQ _ s1.heap.objs.size out c L1 (fun b u e => ?_) g1 o1 hz hc eo pL⟩
    have q := k1 b u e
    have lt := Heap.lt_size q
    show (sortedHeap (s1.heap.push (seqObj "list" (L1.map fun q => Value.ref q.1).toArray 0)) s1.heap.objs.size (L1.map fun q => Value.ref q.1) out.toArray).get? b = some u
    rw [sortedHeap_old (Nat.ne_of_lt lt) (by rw [size_push']; exact Nat.lt_succ_of_lt lt)]
    exact Heap.get?_push_of_some _ q
end
end Mi

namespace Mi
open PySem PySem.Spec PyProof.Rows L2
variable [TabsC]
open PySem.W (EachIs dataLe AllAlike Sortable keyToks keyToksAll alike alikeAll)
structure SG0 (P : Program) (w : World) (h : Heap) (a : Addr) (L : List (Addr × List Int)) : Prop where
  ex : ∃ es ep t, (∃ o, h.get? a = some o ∧ o.ExactSet ∧ o.data = .set es ep t) ∧ es.toList = rowsOf P w L ∧ GT t (L.map fun p => thash P w p.2) ∧ (L.map (·.2)).Nodup ∧ t.plain = true ∧ (w.params.followText "set-order" = true ∨ t.led = true) ∧ L.length * 5 < t.mask * 3 ∧ L.length ≤ 300
def SGO (P : Program) (w : World) (a : Addr) (L : List (Addr × List Int)) : HO := .ext fun h => SG0 P w h a L
theorem SG.zero {P : Program} {w : World} {h : Heap} {a : Addr} {L : List (Addr × List Int)} {es : Array (Int × Value)} {ep : Nat} {t : SetTable} (R : SG P w h a L es ep t) : SG0 P w h a L := ⟨es, ep, t, R.ob, R.rows, R.tab, R.nd, R.plain, R.led, R.room, R.few⟩
theorem SG0.back {P : Program} {w : World} {h : Heap} {a : Addr} {L : List (Addr × List Int)} (R : SG0 P w h a L) (tup : ∀ p ∈ L, IsT P w h p.2 p.1) : ∃ es ep t, SG P w h a L es ep t := by
  obtain ⟨es, ep, t, a1, a2, a3, a4, a5, a6, a7, a8⟩ := R.ex
  exact ⟨es, ep, t, a1, a2, a3, a4, tup, a5, a6, a7, a8⟩
theorem sgo_new {P : Program} {w : World} {H : Hp} {h : Heap} {a : Addr} {L : List (Addr × List Int)} (R : SG0 P w h a L) : ObjOk P w H h a (SGO P w a L) := by
  obtain ⟨es, ep, t, ⟨o, ho, r⟩, q⟩ := R.ex
  refine ⟨R, ⟨o, ho⟩, fun h1 h2 p k => ?_⟩
  obtain ⟨es', ep', t', ⟨o', ho', r'⟩, q'⟩ := SG0.ex p
  exact ⟨es', ep', t', ⟨o', k o' ho', r'⟩, q'⟩
def rSetG (K : PySem.W.Frag) (P : Program) (w : World) : List V → Hp → VK → Prop := fun xs H Q => ∃ (l : Addr) (ks : List (Addr × List Int)), xs = [V.ref l] ∧ (SqL K H l (ks.map fun p => V.ref p.1) ∨ SqT K H l (ks.map fun p => V.ref p.1)) ∧ (∀ p ∈ ks, SqT K H p.1 (p.2.map V.int)) ∧ ks.length ≤ 300 ∧
  ∀ a L, H a = none → (∀ p ∈ L, p ∈ ks) → (∀ p ∈ ks, p.2 ∈ L.map (·.2)) → (L.map (·.2)).Nodup → Q (.ref a) (upd H a (SGO P w a L))
theorem cr_setG {X : Cx} (hc : X.calm = true) (hu : X.A.units + 64 < cLine) : CallR X (.type "set") (rSetG X.K X.prog X.w) := by
  intro pins s σ H xs us Q I r h
  obtain ⟨l, ks, rfl, hl, hk, few, q⟩ := h
  rw [Vals.ref1 r]
  have new : H s.heap.objs.size = none := I.hok.fresh (Nat.le_refl _)
  have fin : ∀ (h' : Heap) (tk : Nat) (L : List (Addr × List Int)) (es : Array (Int × Value)) (ep : Nat) (t : SetTable), SG X.prog X.w h' s.heap.objs.size L es ep t → Got ks ks.length L → (∀ b o, s.heap.get? b = some o → h'.get? b = some o) → _ := fun h' tk L es ep t R g k =>
    (⟨.ref s.heap.objs.size, upd H s.heap.objs.size (SGO X.prog X.w s.heap.objs.size L), I.laid (t' := tk) k (Nat.le_refl _) (sgo_new R.zero), rfl, q _ L new (fun p hp => List.mem_of_mem_take (g.sub p hp)) (fun p hp => g.all p (by rw [List.take_length]; exact hp)) R.nd⟩ : ∃ v H', Inv X pins σ H' { s with heap := h', toks := tk } ∧ RelV v (Value.ref s.heap.objs.size) ∧ Q v H')
  rcases hl with hl | hl
  · obtain ⟨its, rv, pl, hz⟩ := I.list hl
    exact sg_set_list ks (I.ok.hd hc) pl.isList (by simpa using refs_of_vals rv) (fun p hp => I.isT (hk p hp)) few (by omega) fin
  · obtain ⟨its, rv, pl, hz⟩ := I.tuple hl
    exact sg_set_tuple (items := its.toArray) ks (I.ok.hd hc) pl (by simpa using refs_of_vals rv) (fun p hp => I.isT (hk p hp)) few (by omega) fin
def rSortedG (K : PySem.W.Frag) (P : Program) (w : World) : List V → Hp → VK → Prop := fun vs H Q => ∃ (a : Addr) (L : List (Addr × List Int)), vs = [V.ref a] ∧ H a = some (SGO P w a L) ∧ (∀ p ∈ L, SqT K H p.1 (p.2.map V.int)) ∧ (∀ p ∈ L, p.2 ≠ []) ∧ L.length ≤ 300 ∧
  ∀ (L' : List (Addr × List Int)) (p : Addr), L'.Perm L → H p = none → Q (.ref p) (upd H p (.lst (((L'.map fun q => (V.ref q.1, pyT q.2)).mergeSort (dataLe false Prod.snd)).map (·.1))))
theorem cr_sortedG {X : Cx} (hc : X.calm = true) (hu : X.A.units + 64 < cLine) : CallR X (.builtin "sorted") (rSortedG X.K X.prog X.w) := by
  intro pins s σ H vs us Q I r h
  obtain ⟨a, L, rfl, ha, hk, ne, few, q⟩ := h
  have R0 : SG0 X.prog X.w s.heap a L := (I.hok a _ ha).1
  obtain ⟨es, ep, t, R⟩ := R0.back fun p hp => I.isT (hk p hp)
  rw [Vals.ref1 r]
  refine sg_sorted R (I.ok.hd hc) ne hu fun s' p out c L' k g o hp hg eo pm => ?_
  have ll : (((L'.map fun q => (V.ref q.1, pyT q.2)).mergeSort (dataLe false Prod.snd)).map (·.1)).length ≤ sizeLine := by
    rw [List.length_map, List.length_mergeSort, List.length_map, pm.length_eq, sizeLine_eq]; omega
  have new : H p = none := I.hok.fresh hp
  have J : Inv X pins σ (upd H p (.lst (((L'.map fun q => (V.ref q.1, pyT q.2)).mergeSort (dataLe false Prod.snd)).map (·.1)))) { s with heap := s'.heap, gens := s'.gens, drawn := s'.drawn, toks := s'.toks } :=
    I.call (ch := []) (Un.laid k hp new) (I.hok.laid k hp ⟨ll, out, c, vals_each eo, hg⟩) (by rw [g]; exact I.bare) (fun _ z => nomatch z)
  have e : s' = { s with heap := s'.heap, gens := s'.gens, drawn := s'.drawn, toks := s'.toks } := by
    cases s'; cases s; cases o; rfl
  rw [e]
  exact ⟨.ref p, _, J, rfl, q L' p pm new⟩
def dSortSetG (a : D) : Option D := (items a).bind fun ds => (tupsD ds).bind fun zs => if zs.length ≤ 300 ∧ (zs.all fun z => !z.isEmpty) = true then some (.own ((sortT (nubT zs)).map tupZ)) else none
def rSG (K : PySem.W.Frag) (P : Program) (w : World) : List V → Hp → VK → Prop := fun vs H Q => rSetG K P w vs H fun v H2 => rSortedG K P w [v] H2 Q
theorem nat_le_nub : ∀ zs : List (List Int), (nubT zs).length ≤ zs.length
  | [] => Nat.le_refl _
  | z :: zs => by
    have ih := nat_le_nub zs
    unfold nubT
    split
    · exact Nat.le_succ_of_le ih
    · exact Nat.succ_le_succ ih
theorem sortT_perm_eq {a b : List (List Int)} (h : a.Perm b) : sortT a = sortT b := sortT_uniq ((sortT_perm a).trans h) (sortT_srt a)
theorem ok_sortSetG {K : PySem.W.Frag} {P : Program} {w : World} : OkL K (rSG K P w) (fn1 dSortSetG) := by
  refine okL1 dSortSetG (fn1_of _) fun Y H0 io T τ e s H a va d Q hf r q => ?_
  obtain ⟨ds, h4, h2⟩ := Option.bind_eq_some_iff.mp (show (items a).bind _ = some d from hf)
  obtain ⟨zs, h5, h6⟩ := Option.bind_eq_some_iff.mp h2
  by_cases c : zs.length ≤ 300 ∧ (zs.all fun z => !z.isEmpty) = true
  · rw [if_pos c] at h6
    cases h6
    obtain rfl := tupsD_eq h5
    obtain ⟨P', as, nd, o, g⟩ := r.swap1
    obtain ⟨p1, v1, a1, rfl, t1, w1, _⟩ := o.seqA h4
    obtain ⟨R1, rfl⟩ := Owns.reps (plains_tups zs) w1
    obtain ⟨ks, rfl, e2, e3⟩ := reps_addrs R1
    have hz : zs.length = ks.length := by rw [← e2, List.length_map]
    have ne : ∀ p ∈ ks, p.2 ≠ [] := fun p hp z => by
      have := List.all_eq_true.mp c.2 p.2 (by rw [← e2]; exact List.mem_map.mpr ⟨p, hp, rfl⟩)
      rw [z] at this
      cases this
    refine ⟨p1, ks, rfl, t1, fun p hp => rep_sq (e3 p hp), by omega, fun b L hb h7 h8 h9 => ?_⟩
    have m1 : Mono P' H P' (upd H b (SGO P w b L)) := mono_newP hb
    have pk : (L.map (·.2)).Perm (nubT zs) := perm_nodup h9 (nodup_nubT zs) fun x => by
      rw [mem_nubT, ← e2]
      constructor
      · intro h
        obtain ⟨p, hp', rfl⟩ := List.mem_map.mp h
        exact List.mem_map.mpr ⟨p, h7 p hp', rfl⟩
      · intro h
        obtain ⟨p, hp', rfl⟩ := List.mem_map.mp h
        exact h8 p hp'
    have lL : L.length ≤ 300 := by
      have a := pk.length_eq
      have b := nat_le_nub zs
      rw [List.length_map] at a
      omega
    refine ⟨b, L, rfl, upd_same, fun p hp => rep_sq (Rep.mono m1 _ (e3 p (h7 p hp))), fun p hp => ne p (h7 p hp), lL, fun L' p hp hf => ?_⟩
    have sn : (L'.map fun q => (V.ref q.1, pyT q.2)).map Prod.snd = (L'.map (·.2)).map pyT := by rw [List.map_map, List.map_map]; rfl
    have si := sorted_is (zs := L'.map (·.2)) (L0 := L'.map fun q => (V.ref q.1, pyT q.2)) sn
    rw [sortT_perm_eq ((hp.map (·.2)).trans pk)] at si
    have rb := reps_back (K := K) (P := P') (H := H) ((L'.map fun q => (V.ref q.1, pyT q.2)).mergeSort (dataLe false Prod.snd)) fun x hx => by
      have hx := (List.mergeSort_perm _ _).mem_iff.mp hx
      obtain ⟨q, hq, rfl⟩ := List.mem_map.mp hx
      exact ⟨q.2, rfl, e3 q (h7 q (hp.mem_iff.mp hq))⟩
    rw [si] at rb
    have hs1 : Same H (upd H b (SGO P w b L)) := same_new hb
    have hs2 : Same (upd H b (SGO P w b L)) (upd (upd H b (SGO P w b L)) p (.lst (((L'.map fun q => (V.ref q.1, pyT q.2)).mergeSort (dataLe false Prod.snd)).map (·.1)))) := same_new hf
    have hs' := hs1.trans hs2
    have hp0 : H p = none := by
      by_cases z : p = b
      · rw [z]; exact hb
      · rw [upd_ne z] at hf; exact hf
    refine q _ _ (g _ (.own ((sortT (nubT zs)).map tupZ)) _ [p] hs' (by simp) (fun z hz => ?_) fun P2 hP hT _ => ?_)
    · obtain rfl := List.mem_singleton.mp hz
      exact ⟨.inr hp0, _, upd_same, fun _ z => nomatch z⟩
    · unfold Own
      exact ⟨p, _, [], rfl, upd_same, Owns.of (Reps.mono (swap_plain (as := []) hs' hP) _ rb), rfl⟩
  · rw [if_neg c] at h6; cases h6
theorem de_sortSetG {X : Cx} {W : WX} {a : Expr} {mas : MA} {p p2 pos pos2 : Pos} (hu : X.A.units + 64 < cLine) (B : BI X.mg) (ha : DA X W [a] mas) (hc : X.calm = true := by rfl) (hg : Gl X "sorted" := by rfl) (hg2 : Gl X "set" := by rfl)
    (he : starEach [a] X.env = (false, eval a X.env) :: starEach [] X.env := by rfl) (hpl : (backTo pos2 (starEach [] X.env)).any (·.1) = false := by rfl) (hpl2 : (backTo pos (starEach [] X.env)).any (·.1) = false := by rfl) :
    DE X W (.Call (.Name "sorted" p) [.Call (.Name "set" p2) [a] [] pos2] [] pos) (mOpL (fn1 dSortSetG) mas) := by
  obtain ⟨t, pa, s⟩ := ha
  have sim : SimE X.K X.mg W (tCB (rSG X.K X.prog X.w) t) (mOpL (fn1 dSortSetG) mas) := sim_opL ok_sortSetG s
  exact ⟨_, pe_callB (cr_sortedG hc hu) hg B.sorted boot_sorted (pa_cons (pe_callTy (cr_setG hc hu) hg2 B.set PyProof.Rows.boot_set pa (by decide) (by decide) he hpl) pa_nil) (by decide) (by decide) (by rfl) hpl2, sim⟩
theorem dSortSetG_tup {zs : List (List Int)} (hl : zs.length ≤ 300) (h : ∀ z ∈ zs, z ≠ []) : dSortSetG (.tup (zs.map tupZ)) = some (.own ((sortT (nubT zs)).map tupZ)) := by
  have c : zs.length ≤ 300 ∧ (zs.all fun z => !z.isEmpty) = true := ⟨hl, List.all_eq_true.mpr fun x hx => by
    have := h x hx
    cases x with
    | nil => exact (this rfl).elim
    | cons _ _ => rfl⟩
  show ((tupsD (zs.map tupZ)).bind fun zs => if zs.length ≤ 300 ∧ (zs.all fun z => !z.isEmpty) = true then some (D.own ((sortT (nubT zs)).map tupZ)) else none) = _
  rw [tupsD_tups, Option.bind_some, if_pos c]
end Mi

namespace Mi
def EV0 := And.intro (And.intro (And.intro (And.intro (@Mi.kof_some) (@Mi.kof_none)) (And.intro (@Mi.mOp1_ap) (And.intro (@Mi.k1_ok) (@Mi.k1_exc)))) (And.intro (And.intro (@Mi.mOp2_ap) (@Mi.k2a_ok)) (And.intro (@Mi.k2a_exc) (And.intro (@Mi.k2b_ok) (@Mi.k2b_exc))))) (And.intro (And.intro (And.intro (@Mi.mOpL_ap) (@Mi.kL_ok)) (And.intro (@Mi.kL_exc) (And.intro (@Mi.mCons_ap) (@Mi.kca_ok)))) (And.intro (And.intro (@Mi.kca_exc) (@Mi.kcb_ok)) (And.intro (@Mi.kcb_exc) (And.intro (@Mi.mNil_ap) (@Mi.mC_ap)))))
def EV1 := And.intro (And.intro (And.intro (And.intro (@Mi.mLst_ap) (@Mi.mTup_ap)) (And.intro (@Mi.kLst_ok) (And.intro (@Mi.kTup_ok) (@Mi.mVar_ap)))) (And.intro (And.intro (@Mi.kV_some) (@Mi.mFrz_ap)) (And.intro (@Mi.kF_some) (And.intro (@Mi.at0) (@Mi.atS))))) (And.intro (And.intro (And.intro (@Mi.set0) (@Mi.setS)) (And.intro (@Mi.mT_ap) (And.intro (@Mi.kT_ok) (@Mi.kT_exc)))) (And.intro (And.intro (@Mi.mNotT_ap) (@Mi.kN_ok)) (And.intro (@Mi.kN_exc) (And.intro (@Mi.mAndT_ap) (@Mi.kA_ok)))))
def EV2 := And.intro (And.intro (And.intro (And.intro (@Mi.kA_exc) (@Mi.mOrT_ap)) (And.intro (@Mi.kO_ok) (And.intro (@Mi.kO_exc) (@Mi.mAndV_ap)))) (And.intro (And.intro (@Mi.kAV_ok) (@Mi.mChain_ap)) (And.intro (@Mi.kCh_ok) (And.intro (@Mi.kCh1_ok) (@Mi.kCh2_ok))))) (And.intro (And.intro (And.intro (@Mi.mSeq_ap) (@Mi.kS_nx)) (And.intro (@Mi.kS_rt) (And.intro (@Mi.kS_exc) (@Mi.kS_bk)))) (And.intro (And.intro (@Mi.kS_ct) (@Mi.mNext_ap)) (And.intro (@Mi.mDrop_ap) (And.intro (@Mi.kD_ok) (@Mi.kD_exc)))))
def EV3 := And.intro (And.intro (And.intro (And.intro (@Mi.mRet_ap) (@Mi.kR_ok)) (And.intro (@Mi.kR_exc) (And.intro (@Mi.mIfS_ap) (@Mi.kI_ok)))) (And.intro (And.intro (@Mi.kI_exc) (@Mi.mAsg_ap)) (And.intro (@Mi.kG_ok) (And.intro (@Mi.kG_exc) (@Mi.kG2_some))))) (And.intro (And.intro (And.intro (@Mi.mgName_ap) (@Mi.mgTup_ap)) (And.intro (@Mi.mgCons_ap) (And.intro (@Mi.kgs_some) (@Mi.mgNil_ap)))) (And.intro (And.intro (@Mi.ownAt_ap) (@Mi.kw_own)) (And.intro (@Mi.mSlotIx_ap) (And.intro (@Mi.kX_some) (@Mi.kX2_ok)))))
def EV4 := And.intro (And.intro (And.intro (And.intro (@Mi.kX3_some) (@Mi.mCall_ap)) (And.intro (@Mi.kc_ok) (And.intro (@Mi.kf_ok) (@Mi.kf_exc)))) (And.intro (And.intro (@Mi.mCallO_ap) (@Mi.kq_some)) (And.intro (@Mi.kq2_ok) (And.intro (@Mi.kq3_some) (@Mi.kq4_ok))))) (And.intro (And.intro (And.intro (@Mi.mSetIx_ap) (@Mi.ky_ok)) (And.intro (@Mi.ky2_some) (And.intro (@Mi.ky3_ok) (@Mi.ky4_some)))) (And.intro (And.intro (@Mi.mItL_ap) (@Mi.kIL_ok)) (And.intro (@Mi.kRs_some) (And.intro (@Mi.mItT_ap) (@Mi.kIT_ok)))))
def EV5 := And.intro (And.intro (And.intro (And.intro (@Mi.mRng1_ap) (@Mi.kr1_ok)) (And.intro (@Mi.mRng2_ap) (And.intro (@Mi.kr2_ok) (@Mi.mFor_ap)))) (And.intro (And.intro (@Mi.kFo_ok) (@Mi.mLoop_nil)) (And.intro (@Mi.kl1_some) (And.intro (@Mi.kl2_nx) (@Mi.kl2_ct))))) (And.intro (And.intro (And.intro (@Mi.kl2_bk) (@Mi.kl2_rt)) (And.intro (@Mi.kl2_exc) (And.intro (@Mi.mLc_ap) (@Mi.kLc_ok)))) (And.intro (And.intro (@Mi.lc_nil) (@Mi.kz1_some)) (And.intro (@Mi.kz2_ok) (And.intro (@Mi.kz3_ok) (@Mi.mYes_ap)))))
def EV6 := And.intro (And.intro (And.intro (And.intro (@Mi.mTry_ap) (@Mi.kTr_nx)) (And.intro (@Mi.kTr_rt) (And.intro (@Mi.mMeth_ap) (@Mi.kMe_lst)))) (And.intro (And.intro (@Mi.kMe_own) (@Mi.dAdd_int)) (And.intro (@Mi.dAdd_str) (And.intro (@Mi.dAdd_tup) (@Mi.dAdd_ll))))) (And.intro (And.intro (And.intro (@Mi.dAdd_lo) (@Mi.dAdd_ol)) (And.intro (@Mi.dAdd_oo) (And.intro (@Mi.dSub_int) (@Mi.dMul_int)))) (And.intro (And.intro (@Mi.dMod_int) (@Mi.dFdiv_int)) (And.intro (@Mi.dPow_int) (And.intro (@Mi.dNeg_int) (@Mi.dLe_int)))))
def EV7 := And.intro (And.intro (And.intro (And.intro (@Mi.dLtI_int) (@Mi.dLt_int)) (And.intro (@Mi.dEq_int) (And.intro (@Mi.dNe_int) (@Mi.dMax2_int)))) (And.intro (And.intro (@Mi.dMin2_int) (@Mi.fn1_ap)) (And.intro (@Mi.fn2_ap) (And.intro (@Mi.dLen_tup) (@Mi.dLen_lst))))) (And.intro (And.intro (And.intro (@Mi.dLen_cst) (@Mi.dLen_own)) (And.intro (@Mi.fnM_ap) (And.intro (@Mi.kfn_nx) (@Mi.kfn_rt)))) (And.intro (And.intro (@Mi.kfn_exc) (@Mi.fnO_ap)) (And.intro (@Mi.kfo_nx) (And.intro (@Mi.kfo_rt) (@Mi.env0)))))
def EV8 := And.intro (And.intro (And.intro (And.intro (@Mi.envN) (@Mi.envS)) (And.intro (@Mi.wipeN) (And.intro (@Mi.wipeS) (@Mi.lit_own)))) (And.intro (And.intro (@Mi.lit_lst) (@Mi.lit_cst)) (And.intro (@Mi.ix_own) (And.intro (@Mi.ix_lst) (@Mi.ix_cst))))) (And.intro (And.intro (And.intro (@Mi.ix_tup) (@Mi.dix_own)) (And.intro (@Mi.dix_lst) (And.intro (@Mi.dix_cst) (@Mi.dix_tup)))) (And.intro (And.intro (@Mi.rng0) (@Mi.toL)) (And.intro (@Mi.end_lawL) (And.intro (@Mi.btw_int) (@Mi.btw_bl)))))
def EV9 := And.intro (And.intro (And.intro (And.intro (@Mi.btw_non) (@Mi.btw_str)) (And.intro (@Mi.is_non_int) (And.intro (@Mi.is_bl_int) (@Mi.is_int_int)))) (And.intro (And.intro (@Mi.is_str_int) (@Mi.is_tup_int)) (And.intro (@Mi.is_lst_int) (And.intro (@Mi.is_cst_int) (@Mi.is_dic_int))))) (And.intro (And.intro (And.intro (@Mi.is_own_int) (@Mi.is_non_bool)) (And.intro (@Mi.is_bl_bool) (And.intro (@Mi.is_int_bool) (@Mi.is_str_bool)))) (And.intro (And.intro (@Mi.is_tup_bool) (@Mi.is_lst_bool)) (And.intro (@Mi.is_cst_bool) (And.intro (@Mi.is_dic_bool) (@Mi.is_own_bool)))))
def EV10 := And.intro (And.intro (And.intro (And.intro (@Mi.is_non_tuple) (@Mi.is_bl_tuple)) (And.intro (@Mi.is_int_tuple) (And.intro (@Mi.is_str_tuple) (@Mi.is_tup_tuple)))) (And.intro (And.intro (@Mi.is_lst_tuple) (@Mi.is_cst_tuple)) (And.intro (@Mi.is_dic_tuple) (And.intro (@Mi.is_own_tuple) (@Mi.is_non_list))))) (And.intro (And.intro (And.intro (@Mi.is_bl_list) (@Mi.is_int_list)) (And.intro (@Mi.is_str_list) (And.intro (@Mi.is_tup_list) (@Mi.is_lst_list)))) (And.intro (And.intro (@Mi.is_cst_list) (@Mi.is_dic_list)) (And.intro (@Mi.is_own_list) (And.intro (@Mi.is_non_str) (@Mi.is_bl_str)))))
def EV11 := And.intro (And.intro (And.intro (And.intro (@Mi.is_int_str) (@Mi.is_str_str)) (And.intro (@Mi.is_tup_str) (And.intro (@Mi.is_lst_str) (@Mi.is_cst_str)))) (And.intro (And.intro (@Mi.is_dic_str) (@Mi.is_own_str)) (And.intro (@Mi.cast_lit) (And.intro (@Mi.mPart_ap) (@Mi.kPt_ok))))) (And.intro (And.intro (And.intro (@Mi.mNoPart_ap) (@Mi.mSl_ap)) (And.intro (@Mi.kSl1_ok) (And.intro (@Mi.kSl2_ok) (@Mi.kSl3_ok)))) (And.intro (And.intro (@Mi.dSl_tup) (@Mi.dSl_lst)) (And.intro (@Mi.dSl_cst) (And.intro (@Mi.mZip_ap) (@Mi.kZ_tup)))))
def EV12 := And.intro (And.intro (And.intro (And.intro (@Mi.kZ_lst) (@Mi.at_0)) (And.intro (@Mi.at_1) (And.intro (@Mi.at_2) (@Mi.at_3)))) (And.intro (And.intro (@Mi.isT_non) (@Mi.isT_bl)) (And.intro (@Mi.isT_int) (And.intro (@Mi.isT_str) (@Mi.isT_tup))))) (And.intro (And.intro (And.intro (@Mi.isT_lst) (@Mi.isT_cst)) (And.intro (@Mi.isT_dic) (And.intro (@Mi.isT_own) (@Mi.dInt_bl)))) (And.intro (And.intro (@Mi.mLR1_ap) (@Mi.kLR1_ok)) (And.intro (@Mi.dNotIn2) (And.intro (@Mi.dIn2) (@Mi.mSt_ap)))))
def EV13 := And.intro (And.intro (And.intro (And.intro (@Mi.kSt1_ok) (@Mi.kSt2_ok)) (And.intro (@Mi.kSt3_ok) (And.intro (@Mi.mBor_ap) (@Mi.frzE_nil)))) (And.intro (And.intro (@Mi.frzE_none) (@Mi.frzE_some)) (And.intro (@Mi.frzE_any) (And.intro (@Mi.kBo_bl) (@Mi.kBo_int))))) (And.intro (And.intro (And.intro (@Mi.kBo_str) (@Mi.kBo_non)) (And.intro (@Mi.kBo_exc) (And.intro (@Mi.kw_str) (@Mi.kw_int)))) (And.intro (And.intro (@Mi.kw_bl) (@Mi.kw_non)) (And.intro (@Mi.kw_tup) (And.intro (@Mi.kw_lst) (@Mi.capsOf_nil)))))
def EV14 := And.intro (And.intro (And.intro (And.intro (@Mi.capsOf_cons) (@Mi.kCp_some)) (And.intro (@Mi.shalE_nil) (And.intro (@Mi.shalE_none) (@Mi.shalE_some)))) (And.intro (And.intro (@Mi.kIn_some) (@Mi.shal_int)) (And.intro (@Mi.shal_bl) (And.intro (@Mi.shal_str) (@Mi.shal_non))))) (And.intro (And.intro (And.intro (@Mi.shal_own) (@Mi.shal_tup)) (And.intro (@Mi.shal_lst) (And.intro (@Mi.shals_nil) (@Mi.shals_cons)))) (And.intro (And.intro (@Mi.mChain3_ap) (@Mi.kC3a_ok)) (And.intro (@Mi.kC3b_ok) (And.intro (@Mi.kC3c_t) (@Mi.kC3c_f)))))
def EV15 := And.intro (And.intro (@Mi.kC3d_ok) (@Mi.kC3e_t)) (And.intro (@Mi.kC3e_f) (@Mi.kC3f_ok))
def EVA := And.intro (And.intro (And.intro (And.intro (Mi.EV0) (Mi.EV1)) (And.intro (Mi.EV2) (Mi.EV3))) (And.intro (And.intro (Mi.EV4) (Mi.EV5)) (And.intro (Mi.EV6) (Mi.EV7)))) (And.intro (And.intro (And.intro (Mi.EV8) (Mi.EV9)) (And.intro (Mi.EV10) (Mi.EV11))) (And.intro (And.intro (Mi.EV12) (Mi.EV13)) (And.intro (Mi.EV14) (Mi.EV15))))
def EVB := And.intro (And.intro (And.intro (And.intro (@Bool.and_self) (And.intro (@Bool.and_true) (@Bool.true_and))) (And.intro (@Bool.and_false) (And.intro (@Bool.false_and) (@Nat.zero_add)))) (And.intro (And.intro (@Bool.not_true) (And.intro (@Bool.not_false) (@Bool.false_eq_true))) (And.intro (And.intro (@decide_true) (@decide_false)) (And.intro (@and_self) (@and_true))))) (And.intro (And.intro (And.intro (@true_and) (And.intro (@not_true_eq_false) (@not_false_eq_true))) (And.intro (And.intro (@Bool.or_self) (@Bool.or_true)) (And.intro (@Bool.or_false) (@Bool.false_or)))) (And.intro (And.intro (@Bool.true_or) (And.intro (@false_and) (@and_false))) (And.intro (And.intro (@true_or) (@or_true)) (And.intro (@false_or) (@or_false)))))
end Mi
namespace Lw
open PySem PySem.Spec PyProof.Rows L2 Mi
noncomputable section
section
variable [TabsC]
def topS (i : Nat) : Stmt := PySem.Challenge.pw_likeshares_k01_webs_and_what_is_near.main.body.getD i (.Pass ⟨0, 0, 0, 0⟩)
abbrev s_is_whole : Stmt := topS 14
abbrev s_are_rising : Stmt := topS 16
abbrev s_near_rows : Stmt := topS 20
abbrev s_w_cell : Stmt := topS 26
abbrev s_w_take : Stmt := topS 28
abbrev s_w_whole : Stmt := topS 29
abbrev s_w_kind : Stmt := topS 31
abbrev s_w_tied : Stmt := topS 33
abbrev s_w_known : Stmt := topS 36
abbrev s_is_between : Stmt := topS 15
abbrev s_near_in : Stmt := topS 21
abbrev s_shared_in : Stmt := topS 23
abbrev s_w_box : Stmt := topS 27
abbrev s_w_odd : Stmt := topS 30
abbrev s_w_near : Stmt := topS 34
abbrev s_w_order : Stmt := topS 35
abbrev s_w_is_web : Stmt := topS 38
abbrev s_is_pair : Stmt := topS 17
abbrev s_look_at_place : Stmt := topS 19
abbrev s_w_web : Stmt := topS 37
abbrev s_w_others : Stmt := topS 39
abbrev s_is_web : Stmt := topS 18
abbrev s_near : Stmt := topS 22
abbrev s_shared : Stmt := topS 24
abbrev s_w_same : Stmt := topS 32
abbrev s_w_asked : Stmt := topS 40
abbrev s_law : Stmt := topS 41
theorem sc_is_whole : FnScope ["thing"] ["thing"] (defScope s_is_whole) := ⟨rfl, rfl, rfl, by decide +kernel, rfl, by decide +kernel, by decide +kernel⟩
theorem sc_are_rising : FnScope ["things", "one", "other"] ["things"] (defScope s_are_rising) := ⟨rfl, rfl, rfl, by decide +kernel, rfl, by decide +kernel, by decide +kernel⟩
theorem sc_near_rows : FnScope ["web", "found", "one", "other", "place", "row"] ["web"] (defScope s_near_rows) := ⟨rfl, rfl, rfl, by decide +kernel, rfl, by decide +kernel, by decide +kernel⟩
theorem sc_w_cell : FnScope ["_law_script", "_law_k"] ["_law_script", "_law_k"] (defScope s_w_cell) := ⟨rfl, rfl, rfl, by decide +kernel, rfl, by decide +kernel, by decide +kernel⟩
theorem sc_w_take : FnScope ["_law_box_here", "_law_many", "_law_digit"] ["_law_box_here", "_law_many"] (defScope s_w_take) := ⟨rfl, rfl, rfl, by decide +kernel, rfl, by decide +kernel, by decide +kernel⟩
theorem sc_w_whole : FnScope ["_law_thing"] ["_law_thing"] (defScope s_w_whole) := ⟨rfl, rfl, rfl, by decide +kernel, rfl, by decide +kernel, by decide +kernel⟩
theorem sc_w_kind : FnScope ["_law_e", "_law_kinds", "_law_words", "_law_kind_here"] ["_law_e"] (defScope s_w_kind) := ⟨rfl, rfl, rfl, by decide +kernel, rfl, by decide +kernel, by decide +kernel⟩
theorem sc_w_tied : FnScope ["_law_web_here", "_law_one", "_law_other"] ["_law_web_here", "_law_one", "_law_other"] (defScope s_w_tied) := ⟨rfl, rfl, rfl, by decide +kernel, rfl, by decide +kernel, by decide +kernel⟩
theorem sc_w_known : FnScope ["_law_kind_here", "_law_found", "_law_step", "_law_many", "_law_steps", "_law_pairs", "_law_one", "_law_side", "_law_other", "_law_pair"] ["_law_kind_here"] (defScope s_w_known) := ⟨rfl, rfl, rfl, by decide +kernel, rfl, by decide +kernel, by decide +kernel⟩
theorem sc_is_between : FnScope ["thing", "least", "most"] ["thing", "least", "most"] (defScope s_is_between) := ⟨rfl, rfl, rfl, by decide +kernel, rfl, by decide +kernel, by decide +kernel⟩
theorem sc_near_in : FnScope ["web", "place"] ["web", "place"] (defScope s_near_in) := ⟨rfl, rfl, rfl, by decide +kernel, rfl, by decide +kernel, by decide +kernel⟩
theorem sc_shared_in : FnScope ["web", "one", "other", "rows", "place"] ["web", "one", "other"] (defScope s_shared_in) := ⟨rfl, rfl, rfl, by decide +kernel, rfl, by decide +kernel, by decide +kernel⟩
theorem sc_w_box : FnScope ["_law_script", "_law_k", "_law_cell_here", "_law_number", "_law_mixed", "_law_j"] ["_law_script", "_law_k"] (defScope s_w_box) := ⟨rfl, rfl, rfl, by decide +kernel, rfl, by decide +kernel, by decide +kernel⟩
theorem sc_w_odd : FnScope ["_law_box_here", "_law_some"] ["_law_box_here"] (defScope s_w_odd) := ⟨rfl, rfl, rfl, by decide +kernel, rfl, by decide +kernel, by decide +kernel⟩
theorem sc_w_near : FnScope ["_law_web_here", "_law_place", "_law_other"] ["_law_web_here", "_law_place"] (defScope s_w_near) := ⟨rfl, rfl, rfl, by decide +kernel, rfl, by decide +kernel, by decide +kernel⟩
theorem sc_w_order : FnScope ["_law_box_here", "_law_many", "_law_left", "_law_place"] ["_law_box_here", "_law_many"] (defScope s_w_order) := ⟨rfl, rfl, rfl, by decide +kernel, rfl, by decide +kernel, by decide +kernel⟩
theorem sc_w_is_web : FnScope ["_law_thing", "_law_pair", "_law_one"] ["_law_thing"] (defScope s_w_is_web) := ⟨rfl, rfl, rfl, by decide +kernel, rfl, by decide +kernel, by decide +kernel⟩
theorem sc_is_pair : FnScope ["thing", "many", "one"] ["thing", "many"] (defScope s_is_pair) := ⟨rfl, rfl, rfl, by decide +kernel, rfl, by decide +kernel, by decide +kernel⟩
theorem sc_look_at_place : FnScope ["web", "place"] ["web", "place"] (defScope s_look_at_place) := ⟨rfl, rfl, rfl, by decide +kernel, rfl, by decide +kernel, by decide +kernel⟩
theorem sc_w_web : FnScope ["_law_box_here", "_law_most", "_law_many", "_law_way", "_law_kinds", "_law_names", "_law_pairs", "_law_chance", "_law_ties", "_law_one", "_law_every", "_law_other", "_law_pair", "_law_kind_here"] ["_law_box_here", "_law_most"] (defScope s_w_web) := ⟨rfl, rfl, rfl, by decide +kernel, rfl, by decide +kernel, by decide +kernel⟩
theorem sc_w_others : FnScope ["_law_box_here", "_law_web_here", "_law_at", "_law_odd_here", "_law_new", "_law_some", "_law_webs", "_law_many", "_law_ties", "_law_one", "_law_other", "_law_pair", "_law_turn"] ["_law_box_here", "_law_web_here"] (defScope s_w_others) := ⟨rfl, rfl, rfl, by decide +kernel, rfl, by decide +kernel, by decide +kernel⟩
theorem sc_is_web : FnScope ["thing", "pair"] ["thing"] (defScope s_is_web) := ⟨rfl, rfl, rfl, by decide +kernel, rfl, by decide +kernel, by decide +kernel⟩
theorem sc_near : FnScope ["web", "place"] ["web", "place"] (defScope s_near) := ⟨rfl, rfl, rfl, by decide +kernel, rfl, by decide +kernel, by decide +kernel⟩
theorem sc_shared : FnScope ["web", "one", "other"] ["web", "one", "other"] (defScope s_shared) := ⟨rfl, rfl, rfl, by decide +kernel, rfl, by decide +kernel, by decide +kernel⟩
theorem sc_w_same : FnScope ["_law_found", "_law_due", "_law_one", "_law_other"] ["_law_found", "_law_due"] (defScope s_w_same) := ⟨rfl, rfl, rfl, by decide +kernel, rfl, by decide +kernel, by decide +kernel⟩
theorem sc_w_asked : FnScope ["_law_way", "_law_web_here", "_law_one", "_law_other", "_law_e"] ["_law_way", "_law_web_here", "_law_one", "_law_other"] (defScope s_w_asked) := ⟨rfl, rfl, rfl, by decide +kernel, rfl, by decide +kernel, by decide +kernel⟩
theorem sc_law : FnScope ["_law_script", "_law_k", "_law_box_here", "_law_web_here", "_law_thing", "_law_rows", "_law_one", "_law_bad", "_law_told", "_law_other", "_law_due", "_law_place"] ["_law_script"] (defScope s_law) := ⟨rfl, rfl, rfl, by decide +kernel, rfl, by decide +kernel, by decide +kernel⟩
def kd (x : Str) : Option Str := if x = "NoPlace" then some "! place" else none
def names : List Str := ["NoPlace"]
structure Tx (K : PySem.W.Frag) (mg : Str → Option Value) where
  B : BI mg
  a_is_whole : Addr
  d_is_whole : FuncData
  F_is_whole : Fun K "is_whole" "is_whole" s_is_whole a_is_whole d_is_whole
  g_is_whole : mg "is_whole" = some (.ref a_is_whole)
  b_is_whole : Binds K d_is_whole ["thing"] []
  a_are_rising : Addr
  d_are_rising : FuncData
  F_are_rising : Fun K "are_rising" "are_rising" s_are_rising a_are_rising d_are_rising
  g_are_rising : mg "are_rising" = some (.ref a_are_rising)
  b_are_rising : Binds K d_are_rising ["things"] []
  a_near_rows : Addr
  d_near_rows : FuncData
  F_near_rows : Fun K "near_rows" "near_rows" s_near_rows a_near_rows d_near_rows
  g_near_rows : mg "near_rows" = some (.ref a_near_rows)
  b_near_rows : Binds K d_near_rows ["web"] []
  a_w_cell : Addr
  d_w_cell : FuncData
  F_w_cell : Fun K "_law_cell" "_law_cell" s_w_cell a_w_cell d_w_cell
  g_w_cell : mg "_law_cell" = some (.ref a_w_cell)
  b_w_cell : Binds K d_w_cell ["_law_script", "_law_k"] []
  a_w_take : Addr
  d_w_take : FuncData
  F_w_take : Fun K "_law_take" "_law_take" s_w_take a_w_take d_w_take
  g_w_take : mg "_law_take" = some (.ref a_w_take)
  b_w_take : Binds K d_w_take ["_law_box_here", "_law_many"] []
  a_w_whole : Addr
  d_w_whole : FuncData
  F_w_whole : Fun K "_law_whole" "_law_whole" s_w_whole a_w_whole d_w_whole
  g_w_whole : mg "_law_whole" = some (.ref a_w_whole)
  b_w_whole : Binds K d_w_whole ["_law_thing"] []
  a_w_kind : Addr
  d_w_kind : FuncData
  F_w_kind : Fun K "_law_kind" "_law_kind" s_w_kind a_w_kind d_w_kind
  g_w_kind : mg "_law_kind" = some (.ref a_w_kind)
  b_w_kind : Binds K d_w_kind ["_law_e"] []
  a_w_tied : Addr
  d_w_tied : FuncData
  F_w_tied : Fun K "_law_tied" "_law_tied" s_w_tied a_w_tied d_w_tied
  g_w_tied : mg "_law_tied" = some (.ref a_w_tied)
  b_w_tied : Binds K d_w_tied ["_law_web_here", "_law_one", "_law_other"] []
  a_w_known : Addr
  d_w_known : FuncData
  F_w_known : Fun K "_law_known" "_law_known" s_w_known a_w_known d_w_known
  g_w_known : mg "_law_known" = some (.ref a_w_known)
  b_w_known : Binds K d_w_known ["_law_kind_here"] []
  a_is_between : Addr
  d_is_between : FuncData
  F_is_between : Fun K "is_between" "is_between" s_is_between a_is_between d_is_between
  g_is_between : mg "is_between" = some (.ref a_is_between)
  b_is_between : Binds K d_is_between ["thing", "least", "most"] []
  a_near_in : Addr
  d_near_in : FuncData
  F_near_in : Fun K "near_in" "near_in" s_near_in a_near_in d_near_in
  g_near_in : mg "near_in" = some (.ref a_near_in)
  b_near_in : Binds K d_near_in ["web", "place"] []
  a_shared_in : Addr
  d_shared_in : FuncData
  F_shared_in : Fun K "shared_in" "shared_in" s_shared_in a_shared_in d_shared_in
  g_shared_in : mg "shared_in" = some (.ref a_shared_in)
  b_shared_in : Binds K d_shared_in ["web", "one", "other"] []
  a_w_box : Addr
  d_w_box : FuncData
  F_w_box : Fun K "_law_box" "_law_box" s_w_box a_w_box d_w_box
  g_w_box : mg "_law_box" = some (.ref a_w_box)
  b_w_box : Binds K d_w_box ["_law_script", "_law_k"] []
  a_w_odd : Addr
  d_w_odd : FuncData
  F_w_odd : Fun K "_law_odd" "_law_odd" s_w_odd a_w_odd d_w_odd
  g_w_odd : mg "_law_odd" = some (.ref a_w_odd)
  b_w_odd : Binds K d_w_odd ["_law_box_here"] []
  a_w_near : Addr
  d_w_near : FuncData
  F_w_near : Fun K "_law_near" "_law_near" s_w_near a_w_near d_w_near
  g_w_near : mg "_law_near" = some (.ref a_w_near)
  b_w_near : Binds K d_w_near ["_law_web_here", "_law_place"] []
  a_w_order : Addr
  d_w_order : FuncData
  F_w_order : Fun K "_law_order" "_law_order" s_w_order a_w_order d_w_order
  g_w_order : mg "_law_order" = some (.ref a_w_order)
  b_w_order : Binds K d_w_order ["_law_box_here", "_law_many"] []
  a_w_is_web : Addr
  d_w_is_web : FuncData
  F_w_is_web : Fun K "_law_is_web" "_law_is_web" s_w_is_web a_w_is_web d_w_is_web
  g_w_is_web : mg "_law_is_web" = some (.ref a_w_is_web)
  b_w_is_web : Binds K d_w_is_web ["_law_thing"] []
  a_is_pair : Addr
  d_is_pair : FuncData
  F_is_pair : Fun K "is_pair" "is_pair" s_is_pair a_is_pair d_is_pair
  g_is_pair : mg "is_pair" = some (.ref a_is_pair)
  b_is_pair : Binds K d_is_pair ["thing", "many"] []
  a_look_at_place : Addr
  d_look_at_place : FuncData
  F_look_at_place : Fun K "look_at_place" "look_at_place" s_look_at_place a_look_at_place d_look_at_place
  g_look_at_place : mg "look_at_place" = some (.ref a_look_at_place)
  b_look_at_place : Binds K d_look_at_place ["web", "place"] []
  a_w_web : Addr
  d_w_web : FuncData
  F_w_web : Fun K "_law_web" "_law_web" s_w_web a_w_web d_w_web
  g_w_web : mg "_law_web" = some (.ref a_w_web)
  b_w_web : Binds K d_w_web ["_law_box_here", "_law_most"] []
  a_w_others : Addr
  d_w_others : FuncData
  F_w_others : Fun K "_law_others" "_law_others" s_w_others a_w_others d_w_others
  g_w_others : mg "_law_others" = some (.ref a_w_others)
  b_w_others : Binds K d_w_others ["_law_box_here", "_law_web_here"] []
  a_is_web : Addr
  d_is_web : FuncData
  F_is_web : Fun K "is_web" "is_web" s_is_web a_is_web d_is_web
  g_is_web : mg "is_web" = some (.ref a_is_web)
  b_is_web : Binds K d_is_web ["thing"] []
  a_near : Addr
  d_near : FuncData
  F_near : Fun K "near" "near" s_near a_near d_near
  g_near : mg "near" = some (.ref a_near)
  b_near : Binds K d_near ["web", "place"] []
  a_shared : Addr
  d_shared : FuncData
  F_shared : Fun K "shared" "shared" s_shared a_shared d_shared
  g_shared : mg "shared" = some (.ref a_shared)
  b_shared : Binds K d_shared ["web", "one", "other"] []
  a_w_same : Addr
  d_w_same : FuncData
  F_w_same : Fun K "_law_same" "_law_same" s_w_same a_w_same d_w_same
  g_w_same : mg "_law_same" = some (.ref a_w_same)
  b_w_same : Binds K d_w_same ["_law_found", "_law_due"] []
  a_w_asked : Addr
  d_w_asked : FuncData
  F_w_asked : Fun K "_law_asked" "_law_asked" s_w_asked a_w_asked d_w_asked
  g_w_asked : mg "_law_asked" = some (.ref a_w_asked)
  b_w_asked : Binds K d_w_asked ["_law_way", "_law_web_here", "_law_one", "_law_other"] []
  a_law : Addr
  d_law : FuncData
  F_law : Fun K "law" "law" s_law a_law d_law
  g_law : mg "law" = some (.ref a_law)
  b_law : Binds K d_law ["_law_script"] []
  k_MOST_PLACES : Tok
  c_MOST_PLACES : mg "MOST_PLACES" = some (.int 16 k_MOST_PLACES)
  A_LikeError : Addr
  l_LikeError : mg "LikeError" = some (.ref A_LikeError)
  A_NoPlace : Addr
  l_NoPlace : mg "NoPlace" = some (.ref A_NoPlace)
  A_NoLot : Addr
  l_NoLot : mg "NoLot" = some (.ref A_NoLot)
  A_NoOrder : Addr
  l_NoOrder : mg "NoOrder" = some (.ref A_NoOrder)
  A_NotLike : Addr
  l_NotLike : mg "NotLike" = some (.ref A_NotLike)
  A_NoNumbers : Addr
  l_NoNumbers : mg "NoNumbers" = some (.ref A_NoNumbers)
  A_NoNumber : Addr
  l_NoNumber : mg "NoNumber" = some (.ref A_NoNumber)
  A_NoTable : Addr
  l_NoTable : mg "NoTable" = some (.ref A_NoTable)
  A_NoText : Addr
  l_NoText : mg "NoText" = some (.ref A_NoText)
  A_NoRow : Addr
  l_NoRow : mg "NoRow" = some (.ref A_NoRow)
  A_TooMany : Addr
  l_TooMany : mg "TooMany" = some (.ref A_TooMany)
  e_NoPlace : ExC K mg "NoPlace" A_NoPlace
  x_NoPlace : L2.ExcC K A_NoPlace
  k_NoPlace_NoPlace : PySem.W.kitOne K (.ref A_NoPlace) (.ref A_NoPlace) = some true
  k_NoPlace_NoLot : PySem.W.kitOne K (.ref A_NoPlace) (.ref A_NoLot) = some false
  k_NoPlace_NoOrder : PySem.W.kitOne K (.ref A_NoPlace) (.ref A_NoOrder) = some false
  k_NoPlace_NotLike : PySem.W.kitOne K (.ref A_NoPlace) (.ref A_NotLike) = some false
  k_NoPlace_NoNumbers : PySem.W.kitOne K (.ref A_NoPlace) (.ref A_NoNumbers) = some false
  k_NoPlace_NoNumber : PySem.W.kitOne K (.ref A_NoPlace) (.ref A_NoNumber) = some false
  k_NoPlace_NoTable : PySem.W.kitOne K (.ref A_NoPlace) (.ref A_NoTable) = some false
  k_NoPlace_NoText : PySem.W.kitOne K (.ref A_NoPlace) (.ref A_NoText) = some false
  k_NoPlace_NoRow : PySem.W.kitOne K (.ref A_NoPlace) (.ref A_NoRow) = some false
  k_NoPlace_TooMany : PySem.W.kitOne K (.ref A_NoPlace) (.ref A_TooMany) = some false
  kv_NoPlace : PySem.W.kitOne K (.ref A_NoPlace) (.type "ValueError") = some true
  m_NoPlace : PySem.W.exmOne K (.ref A_NoPlace) (.ref A_LikeError) = some true
theorem Tx.caught {K : PySem.W.Frag} {mg : Str → Option Value} (T : Tx K mg) : CaughtBy K mg (.ref T.A_LikeError) names := by
  intro x hx D hD
  simp only [names, List.mem_cons, List.not_mem_nil, or_false] at hx
  rcases hx with rfl
  · rw [T.l_NoPlace] at hD; cases hD; exact T.m_NoPlace
def m_is_whole : MS := mRet (mAndV (mOpL (fn2 dIsi) (mCons (mVar 0) (mCons (mC (.raw (.ty "int"))) (mNil)))) (mOp1 dNot (mOpL (fn2 dIsi) (mCons (mVar 0) (mCons (mC (.raw (.ty "bool"))) (mNil))))))
def F_is_whole : MF := fnM 1 (m_is_whole)
section
variable {P : Program} {w : World} {K : PySem.W.Frag} {mg : Str → Option Value} {base : Heap}
theorem ok_is_whole (T : Tx K mg) : FnOk P w K mg base (L2N.CX P w) 1 T.a_is_whole T.d_is_whole ["thing"] (spF K mg 1 (F_is_whole)) := by
  refine fn_ok T.F_is_whole sc_is_whole fun cdv A outer s H E hr tk => ?_
  unfold m_is_whole
  exact (db_one (ds_ret (de_andV (de_callB call_isi ok_isi T.B.isi (da_cons (de_var 0) (da_cons (de_bltn (v := .ty "int") rfl T.B.int boot_int rfl) (da_nil))) boot_isinstance) (de_one (de_notV (de_callB call_isi ok_isi T.B.isi (da_cons (de_var 0) (da_cons (de_bltn (v := .ty "bool") rfl T.B.bool boot_bool rfl) (da_nil))) boot_isinstance))))))
end
def m_are_rising : MS := mRet (mOpL (fn1 dAll) (mCons (mLc [1, 2] (mZip (mCons (mSl (mVar 0) (mNoPart) (mPart (mOp1 dNeg (mC (.int 1))))) (mCons (mSl (mVar 0) (mPart (mC (.int 1))) (mNoPart)) (mNil)))) (mgTup 2 (mgCons (mgName 1) (mgCons (mgName 2) (mgNil)))) (mYes) (mOp2 dLt (mVar 1) (mVar 2))) (mNil)))
def F_are_rising : MF := fnM 3 (m_are_rising)
section
variable {P : Program} {w : World} {K : PySem.W.Frag} {mg : Str → Option Value} {base : Heap}
theorem ok_are_rising (T : Tx K mg) : FnOk P w K mg base (L2N.CX P w) 1 T.a_are_rising T.d_are_rising ["things"] (spF K mg 1 (F_are_rising)) := by
  refine fn_ok T.F_are_rising sc_are_rising fun cdv A outer s H E hr tk => ?_
  unfold m_are_rising
  exact (db_one (ds_ret (de_callB (cr_all rfl) ok_all T.B.all (da_cons (de_lc (own := [("one", 1), ("other", 2)]) sc_are_rising.nd (di_zip T.B (da_cons (de_sl (de_var 0) (do_none) (do_some (de_neg (de_int)))) (da_cons (de_sl (de_var 0) (do_some (de_int)) (do_none)) (da_nil)))) rfl (by decide) (by decide) (fun _ _ _ _ _ => dg_tup rfl (dgs_cons (dg_name (i := 1) sc_are_rising.nd) (dgs_cons (dg_name (i := 2) sc_are_rising.nd) (dgs_nil)))) (fun _ _ _ _ _ => de_lt (hu64 hr) (de_var 1) (de_var 2))) (da_nil)) boot_all)))
end
def m_near_rows : MS := mSeq (mAsg (mLc [4] (mRng1 (mCons (mSlotIx 0 (mC (.int 0))) (mNil))) (mgName 4) (mYes) (mLst (mNil))) (mgName 1)) (mSeq (mFor (mItT (mSlotIx 0 (mC (.int 1)))) (mgTup 2 (mgCons (mgName 2) (mgCons (mgName 3) (mgNil)))) (mSeq (mDrop (mAppAt 1 (mVar 2) 3)) (mDrop (mAppAt 1 (mVar 3) 2)))) (mRet (mLc [5] (mItL (mFrz 1)) (mgName 5) (mYes) (mOpL (fn1 dSortX) (mCons (mVar 5) (mNil))))))
def l_near_rows_0 : MS := mSeq (mDrop (mAppAt 1 (mVar 2) 3)) (mDrop (mAppAt 1 (mVar 3) 2))
def F_near_rows : MF := fnM 6 (m_near_rows)
section
variable {P : Program} {w : World} {K : PySem.W.Frag} {mg : Str → Option Value} {base : Heap}
theorem ok_near_rows (T : Tx K mg) : FnOk P w K mg base (L2N.CX P w) 1 T.a_near_rows T.d_near_rows ["web"] (spF K mg 1 (F_near_rows)) := by
  refine fn_ok T.F_near_rows sc_near_rows fun cdv A outer s H E hr tk => ?_
  unfold m_near_rows
  exact (db_cons (ds_setLc (i := 1) (own := [("place", 4)]) sc_near_rows.nd (di_rng1 T.B (da_cons (de_slotIx 0 (de_int)) (da_nil))) rfl (by decide) (by decide) (fun _ _ _ _ _ => dg_name (i := 4) sc_near_rows.nd) (fun _ _ _ _ _ => de_lst (da_nil)) rfl) (db_cons (ds_for (passes_of rfl) rfl (di_tup (de_slotIx 0 (de_int))) (dg_tup rfl (dgs_cons (dg_name (i := 2) sc_near_rows.nd) (dgs_cons (dg_name (i := 3) sc_near_rows.nd) (dgs_nil)))) (db_cons (ds_expr (de_appAt 1 3 (de_var 2))) (db_one (ds_expr (de_appAt 1 2 (de_var 3)))))) (db_one (ds_ret (de_lc (own := [("row", 5)]) sc_near_rows.nd (di_list (de_frz 1)) rfl (by decide) (by decide) (fun _ _ _ _ _ => dg_name (i := 5) sc_near_rows.nd) (fun _ _ _ _ _ => de_callB ((cr_sortedI.or cr_sortedIT).or (cr_sortD (hu64 hr))) ok_sortX T.B.sorted (da_cons (de_var 5) (da_nil)) boot_sorted))))))
end
def m_w_cell : MS := mSeq (mIfS (mT (mOp2 dLt (mVar 1) (mOpL (fn1 dLen) (mCons (mVar 0) (mNil))))) (mRet (mSlotIx 0 (mVar 1))) (mNext)) (mRet (mOp2 dAdd (mOp2 dMul (mC (.int 6151)) (mVar 1)) (mC (.int 29))))
def F_w_cell : MF := fnM 2 (m_w_cell)
section
variable {P : Program} {w : World} {K : PySem.W.Frag} {mg : Str → Option Value} {base : Heap}
theorem ok_w_cell (T : Tx K mg) : FnOk P w K mg base (L2N.CX P w) 1 T.a_w_cell T.d_w_cell ["_law_script", "_law_k"] (spF K mg 2 (F_w_cell)) := by
  refine fn_ok T.F_w_cell sc_w_cell fun cdv A outer s H E hr tk => ?_
  unfold m_w_cell
  exact (db_cons (ds_if (dt_lt (hu64 hr) (de_var 1) (de_callB call_len ok_len T.B.len (da_cons (de_var 0) (da_nil)) boot_len)) (db_one (ds_ret (de_slotIx 0 (de_var 1)))) (db_nil)) (db_one (ds_ret (de_add (de_mul (de_int) (de_var 1)) (de_int)))))
end
def m_w_take : MS := mSeq (mAsg (mOp2 dMod (mSlotIx 0 (mC (.int 0))) (mVar 1)) (mgName 2)) (mSeq (mSetIx 0 (mOp2 dFdiv (mSlotIx 0 (mC (.int 0))) (mVar 1)) (mC (.int 0))) (mRet (mVar 2)))
def F_w_take : MO := fnO 3 (m_w_take)
section
variable {P : Program} {w : World} {K : PySem.W.Frag} {mg : Str → Option Value} {base : Heap}
theorem ok_w_take (T : Tx K mg) : FnOk P w K mg base (L2N.CX P w) 1 T.a_w_take T.d_w_take ["_law_box_here", "_law_many"] (spO K 2 (F_w_take)) := by
  refine fn_okO T.F_w_take sc_w_take fun cdv A outer s H E hr tk => ?_
  unfold m_w_take
  exact (db_cons (ds_set (i := 2) sc_w_take.nd (de_mod (de_slotIx 0 (de_int)) (de_var 1))) (db_cons (ds_setIx 0 (de_fdiv (de_slotIx 0 (de_int)) (de_var 1)) (de_int)) (db_one (ds_ret (de_var 2)))))
end
def m_w_whole : MS := mRet (mAndV (mOpL (fn2 dIsi) (mCons (mVar 0) (mCons (mC (.raw (.ty "int"))) (mNil)))) (mOp1 dNot (mOpL (fn2 dIsi) (mCons (mVar 0) (mCons (mC (.raw (.ty "bool"))) (mNil))))))
def F_w_whole : MF := fnM 1 (m_w_whole)
section
variable {P : Program} {w : World} {K : PySem.W.Frag} {mg : Str → Option Value} {base : Heap}
theorem ok_w_whole (T : Tx K mg) : FnOk P w K mg base (L2N.CX P w) 1 T.a_w_whole T.d_w_whole ["_law_thing"] (spF K mg 1 (F_w_whole)) := by
  refine fn_ok T.F_w_whole sc_w_whole fun cdv A outer s H E hr tk => ?_
  unfold m_w_whole
  exact (db_one (ds_ret (de_andV (de_callB call_isi ok_isi T.B.isi (da_cons (de_var 0) (da_cons (de_bltn (v := .ty "int") rfl T.B.int boot_int rfl) (da_nil))) boot_isinstance) (de_one (de_notV (de_callB call_isi ok_isi T.B.isi (da_cons (de_var 0) (da_cons (de_bltn (v := .ty "bool") rfl T.B.bool boot_bool rfl) (da_nil))) boot_isinstance))))))
end
def m_w_kind (x : Str) (a : Addr) : MS := mSeq (mAsg (mLst (mCons (mIsE 0 a (x == "NoPlace")) (mCons (mIsE 0 a (x == "NoLot")) (mCons (mIsE 0 a (x == "NoOrder")) (mCons (mIsE 0 a (x == "NotLike")) (mNil)))))) (mgName 1)) (mSeq (mAsg (mOp2 dAdd (mFrz 1) (mLst (mCons (mIsE 0 a (x == "NoNumbers")) (mCons (mIsE 0 a (x == "NoNumber")) (mCons (mIsE 0 a (x == "NoTable")) (mCons (mIsE 0 a (x == "NoText")) (mNil))))))) (mgName 1)) (mSeq (mAsg (mOp2 dAdd (mFrz 1) (mLst (mCons (mIsE 0 a (x == "NoRow")) (mCons (mIsE 0 a (x == "TooMany")) (mNil))))) (mgName 1)) (mSeq (mIfS (mOrT (mNotT (mT (mIsE 0 a true))) (mT (mOp2 dNe (mOpL (fn1 dSum) (mCons (mLc [3] (mItL (mFrz 1)) (mgName 3) (mYes) (mOpL (fn1 dInt) (mCons (mVar 3) (mNil)))) (mNil))) (mC (.int 1))))) (mRet (mC (.str "! none of the classes"))) (mNext)) (mSeq (mAsg (mLst (mCons (mC (.str "place")) (mCons (mC (.str "lot")) (mCons (mC (.str "order")) (mCons (mC (.str "like")) (mCons (mC (.str "numbers")) (mCons (mC (.str "number")) (mCons (mC (.str "table")) (mCons (mC (.str "text")) (mCons (mC (.str "row")) (mCons (mC (.str "many")) (mNil)))))))))))) (mgName 2)) (mRet (mOp2 dAdd (mC (.str "! ")) (mSlotIx 2 (mMeth dIndexB (mFrz 1) (mC (.bl true))))))))))
section
variable {P : Program} {w : World} {K : PySem.W.Frag} {mg : Str → Option Value} {base : Heap}
theorem ki_NoPlace (T : Tx K mg) {cdv : Value} {A : Around} {outer : List PySem.Env} {s : Shared} {H : Hp} {E : XK} {p : Addr × Obj} (hr : L2H.RoomH 0 (A.deeper (envOfC "_law_kind" (defScope s_w_kind) s.heap.objs.size T.a_w_kind cdv))) (hot : L2H.Hot1 A p) (hz : L2N.Zn (.ref T.A_NoPlace) none p.2) (hf : ∃ vs, p.2.data = .fields vs) :
    DB (L2H.cxH (L2N.CX P w) P w K mg base ["_law_e", "_law_kinds", "_law_words", "_law_kind_here"] "_law_kind" (defScope s_w_kind) T.a_w_kind cdv A outer s H E p) W0 [] (defBody s_w_kind) (m_w_kind "NoPlace" p.1) := by
  have hz := hz.zc
  unfold m_w_kind
  exact (db_cons (ds_set (i := 1) sc_w_kind.nd (de_lst (da_cons (de_isE (p := p) (D := T.A_NoPlace) (cv := .ref T.A_NoPlace) (cV := .ref T.A_NoPlace) 0 T.B List.mem_cons_self T.x_NoPlace hz hf (pe_glob rfl T.l_NoPlace rfl) (fun u r => r) T.k_NoPlace_NoPlace) (da_cons (de_isE (p := p) (D := T.A_NoPlace) (cv := .ref T.A_NoLot) (cV := .ref T.A_NoLot) 0 T.B List.mem_cons_self T.x_NoPlace hz hf (pe_glob rfl T.l_NoLot rfl) (fun u r => r) T.k_NoPlace_NoLot) (da_cons (de_isE (p := p) (D := T.A_NoPlace) (cv := .ref T.A_NoOrder) (cV := .ref T.A_NoOrder) 0 T.B List.mem_cons_self T.x_NoPlace hz hf (pe_glob rfl T.l_NoOrder rfl) (fun u r => r) T.k_NoPlace_NoOrder) (da_cons (de_isE (p := p) (D := T.A_NoPlace) (cv := .ref T.A_NotLike) (cV := .ref T.A_NotLike) 0 T.B List.mem_cons_self T.x_NoPlace hz hf (pe_glob rfl T.l_NotLike rfl) (fun u r => r) T.k_NoPlace_NotLike) (da_nil))))))) (db_cons (ds_set (i := 1) sc_w_kind.nd (de_add (de_frz 1) (de_lst (da_cons (de_isE (p := p) (D := T.A_NoPlace) (cv := .ref T.A_NoNumbers) (cV := .ref T.A_NoNumbers) 0 T.B List.mem_cons_self T.x_NoPlace hz hf (pe_glob rfl T.l_NoNumbers rfl) (fun u r => r) T.k_NoPlace_NoNumbers) (da_cons (de_isE (p := p) (D := T.A_NoPlace) (cv := .ref T.A_NoNumber) (cV := .ref T.A_NoNumber) 0 T.B List.mem_cons_self T.x_NoPlace hz hf (pe_glob rfl T.l_NoNumber rfl) (fun u r => r) T.k_NoPlace_NoNumber) (da_cons (de_isE (p := p) (D := T.A_NoPlace) (cv := .ref T.A_NoTable) (cV := .ref T.A_NoTable) 0 T.B List.mem_cons_self T.x_NoPlace hz hf (pe_glob rfl T.l_NoTable rfl) (fun u r => r) T.k_NoPlace_NoTable) (da_cons (de_isE (p := p) (D := T.A_NoPlace) (cv := .ref T.A_NoText) (cV := .ref T.A_NoText) 0 T.B List.mem_cons_self T.x_NoPlace hz hf (pe_glob rfl T.l_NoText rfl) (fun u r => r) T.k_NoPlace_NoText) (da_nil)))))))) (db_cons (ds_set (i := 1) sc_w_kind.nd (de_add (de_frz 1) (de_lst (da_cons (de_isE (p := p) (D := T.A_NoPlace) (cv := .ref T.A_NoRow) (cV := .ref T.A_NoRow) 0 T.B List.mem_cons_self T.x_NoPlace hz hf (pe_glob rfl T.l_NoRow rfl) (fun u r => r) T.k_NoPlace_NoRow) (da_cons (de_isE (p := p) (D := T.A_NoPlace) (cv := .ref T.A_TooMany) (cV := .ref T.A_TooMany) 0 T.B List.mem_cons_self T.x_NoPlace hz hf (pe_glob rfl T.l_TooMany rfl) (fun u r => r) T.k_NoPlace_TooMany) (da_nil)))))) (db_cons (ds_if (dt_dw (dw_or (dt_not (dt_val (de_isE (p := p) (D := T.A_NoPlace) (b := true) (cv := .type "ValueError") (cV := .ty "ValueError") 0 T.B List.mem_cons_self T.x_NoPlace hz hf (pe_bltn rfl T.B.verr (by decide +kernel) rfl) (fun u r => r) T.kv_NoPlace))) (dw_or1 (dt_ne (huH hr) (de_callB (cr_sumH ⟨p, hot, List.mem_cons_self⟩) ok_sum T.B.sum (da_cons (de_lcH (own := [("_law_kind_here", 3)]) ⟨p, hot, List.mem_cons_self⟩ sc_w_kind.nd (de_frz 1) rfl (by decide) (by decide) (fun _ _ _ _ _ => dg_name (i := 3) sc_w_kind.nd) (fun _ _ _ _ _ => de_callTy call_int1 ok_int T.B.int (da_cons (de_var 3) (da_nil)) boot_int)) (da_nil)) boot_sum) (de_int))))) (db_one (ds_ret (de_str))) (db_nil)) (db_cons (ds_set (i := 2) sc_w_kind.nd (de_lst (da_cons (de_str) (da_cons (de_str) (da_cons (de_str) (da_cons (de_str) (da_cons (de_str) (da_cons (de_str) (da_cons (de_str) (da_cons (de_str) (da_cons (de_str) (da_cons (de_str) (da_nil))))))))))))) (db_one (ds_ret (de_add (de_str) (de_slotIx 2 (de_index (de_frz 1) (de_bl)))))))))))
end
theorem q_NoPlace_NoPlace : (("NoPlace" : Str) == ("NoPlace" : Str)) = true := by decide +kernel
theorem q_NoPlace_NoLot : (("NoPlace" : Str) == ("NoLot" : Str)) = false := by decide +kernel
theorem q_NoPlace_NoOrder : (("NoPlace" : Str) == ("NoOrder" : Str)) = false := by decide +kernel
theorem q_NoPlace_NotLike : (("NoPlace" : Str) == ("NotLike" : Str)) = false := by decide +kernel
theorem q_NoPlace_NoNumbers : (("NoPlace" : Str) == ("NoNumbers" : Str)) = false := by decide +kernel
theorem q_NoPlace_NoNumber : (("NoPlace" : Str) == ("NoNumber" : Str)) = false := by decide +kernel
theorem q_NoPlace_NoTable : (("NoPlace" : Str) == ("NoTable" : Str)) = false := by decide +kernel
theorem q_NoPlace_NoText : (("NoPlace" : Str) == ("NoText" : Str)) = false := by decide +kernel
theorem q_NoPlace_NoRow : (("NoPlace" : Str) == ("NoRow" : Str)) = false := by decide +kernel
theorem q_NoPlace_TooMany : (("NoPlace" : Str) == ("TooMany" : Str)) = false := by decide +kernel
theorem ke_NoPlace (a : Addr) : fnM 4 (m_w_kind "NoPlace" a) [.raw (V.ref a)] = .ok (.str "! place") := by
  unfold m_w_kind
  simp -implicitDefEqProofs only [q_NoPlace_NoPlace, q_NoPlace_NoLot, q_NoPlace_NoOrder, q_NoPlace_NotLike, q_NoPlace_NoNumbers, q_NoPlace_NoNumber, q_NoPlace_NoTable, q_NoPlace_NoText, q_NoPlace_NoRow, q_NoPlace_TooMany, mIsE_ap, dCountB, dIndexB, blsD, dInt_bl, Mi.lc_cons, Mi.EVA, Mi.EVB, D.frz, frzs, D.plain, plains, List.length_cons, List.length_nil, List.length_set, Nat.reduceAdd, Nat.reduceLT, Nat.reduceLeDiff, sizeLine_eq, if_true, if_false, List.cons_append, List.nil_append, Option.map_some, Option.bind_some, Int.reduceToNat, Int.reducePow, Int.reduceNeg, Int.reduceEq, Int.reduceLT, Int.reduceLE, Int.reduceAdd, Int.reduceSub, Int.reduceMul, eq_self, Mi.dat]
  kernel_rfl
section
variable {P : Program} {w : World} {K : PySem.W.Frag} {mg : Str → Option Value} {base : Heap}
theorem ok_w_kind (T : Tx K mg) : FnHx P w K mg base (L2N.CX P w) 1 T.a_w_kind T.d_w_kind ["_law_e"] (spK K mg kd) := by
  refine fn_okK T.F_w_kind sc_w_kind rfl (m_w_kind) (fun c r a hk => ?_) fun cdv A outer s H E p c D hr hot hc hk hz hf => ?_
  · unfold kd at hk
    by_cases h0 : c = "NoPlace"
    · subst h0; rw [if_pos rfl] at hk; cases hk; exact ke_NoPlace a
    rw [if_neg h0] at hk
    cases hk
  · unfold kd at hk
    by_cases h0 : c = "NoPlace"
    · subst h0; rw [T.l_NoPlace] at hc; cases hc; exact ki_NoPlace T hr hot hz hf
    rw [if_neg h0] at hk
    cases hk
end
def m_w_tied : MS := mRet (mOp2 dIn (mTup (mCons (mOpL (fn2 dMin2) (mCons (mVar 1) (mCons (mVar 2) (mNil)))) (mCons (mOpL (fn2 dMax2) (mCons (mVar 1) (mCons (mVar 2) (mNil)))) (mNil)))) (mSlotIx 0 (mC (.int 1))))
def F_w_tied : MF := fnM 3 (m_w_tied)
section
variable {P : Program} {w : World} {K : PySem.W.Frag} {mg : Str → Option Value} {base : Heap}
theorem ok_w_tied (T : Tx K mg) : FnOk P w K mg base (L2N.CX P w) 1 T.a_w_tied T.d_w_tied ["_law_web_here", "_law_one", "_law_other"] (spF K mg 3 (F_w_tied)) := by
  refine fn_ok T.F_w_tied sc_w_tied fun cdv A outer s H E hr tk => ?_
  unfold m_w_tied
  exact (db_one (ds_ret (de_in (hu65 hr) (de_tup (da_cons (de_callB (call_min2 rfl) ok_min2 T.B.min (da_cons (de_var 1) (da_cons (de_var 2) (da_nil))) boot_min) (da_cons (de_callB (call_max2 rfl) ok_max2 T.B.max (da_cons (de_var 1) (da_cons (de_var 2) (da_nil))) boot_max) (da_nil)))) (de_slotIx 0 (de_int)))))
end
def m_w_known : MS := mSeq (mAsg (mLst (mNil)) (mgName 1)) (mSeq (mIfS (mT (mOp2 dLt (mVar 0) (mC (.int 2)))) (mSeq (mAsg (mOp2 dIx (mLst (mCons (mTup (mCons (mC (.int 5)) (mCons (mTup (mCons (mC (.int 1)) (mNil))) (mNil)))) (mCons (mTup (mCons (mC (.int 13)) (mCons (mTup (mCons (mC (.int 1)) (mCons (mC (.int 3)) (mCons (mC (.int 4)) (mNil))))) (mNil)))) (mNil)))) (mVar 0)) (mgTup 2 (mgCons (mgName 3) (mgCons (mgName 4) (mgNil))))) (mFor (mItT (mVar 4)) (mgName 2) (mAsg (mOp2 dAdd (mFrz 1) (mLc [6] (mRng1 (mCons (mVar 3) (mNil))) (mgName 6) (mYes) (mTup (mCons (mVar 6) (mCons (mOp2 dMod (mOp2 dAdd (mVar 6) (mVar 2)) (mVar 3)) (mNil)))))) (mgName 1)))) (mIfS (mT (mOp2 dLt (mVar 0) (mC (.int 5)))) (mSeq (mAsg (mLst (mNil)) (mgName 5)) (mSeq (mFor (mRng1 (mCons (mOp2 dAdd (mVar 0) (mC (.int 2))) (mNil))) (mgName 6) (mAsg (mOp2 dAdd (mFrz 5) (mLc [8] (mRng2 (mCons (mOp2 dAdd (mVar 6) (mC (.int 1))) (mCons (mOp2 dAdd (mVar 0) (mC (.int 2))) (mNil)))) (mgName 8) (mYes) (mTup (mCons (mVar 6) (mCons (mVar 8) (mNil)))))) (mgName 5))) (mSeq (mAsg (mOpL (fn1 dLen) (mCons (mFrz 5) (mNil))) (mgName 3)) (mFor (mRng1 (mCons (mVar 3) (mNil))) (mgName 6) (mAsg (mOp2 dAdd (mFrz 1) (mLc [8] (mRng1 (mCons (mVar 6) (mNil))) (mgName 8) (mT (mOp2 dEq (mOp1 dLenSet (mOp2 dAdd (mSlotIx 5 (mVar 6)) (mSlotIx 5 (mVar 8)))) (mC (.int 3)))) (mTup (mCons (mVar 6) (mCons (mVar 8) (mNil)))))) (mgName 1)))))) (mIfS (mT (mOp2 dLt (mVar 0) (mC (.int 8)))) (mSeq (mAsg (mOp2 dSub (mVar 0) (mC (.int 3))) (mgName 7)) (mSeq (mAsg (mOp2 dMul (mVar 7) (mVar 7)) (mgName 3)) (mFor (mRng1 (mCons (mVar 3) (mNil))) (mgName 6) (mSeq (mAsg (mOp2 dAdd (mFrz 1) (mLc [8] (mRng1 (mCons (mVar 6) (mNil))) (mgName 8) (mT (mOp2 dEq (mOp2 dFdiv (mVar 6) (mVar 7)) (mOp2 dFdiv (mVar 8) (mVar 7)))) (mTup (mCons (mVar 6) (mCons (mVar 8) (mNil)))))) (mgName 1)) (mAsg (mOp2 dAdd (mFrz 1) (mLc [8] (mRng1 (mCons (mVar 6) (mNil))) (mgName 8) (mT (mOp2 dEq (mOp2 dMod (mVar 6) (mVar 7)) (mOp2 dMod (mVar 8) (mVar 7)))) (mTup (mCons (mVar 6) (mCons (mVar 8) (mNil)))))) (mgName 1)))))) (mIfS (mT (mOp2 dEq (mVar 0) (mC (.int 8)))) (mSeq (mAsg (mC (.int 12)) (mgName 3)) (mFor (mRng1 (mCons (mVar 3) (mNil))) (mgName 6) (mAsg (mOp2 dAdd (mFrz 1) (mLc [8] (mRng1 (mCons (mVar 6) (mNil))) (mgName 8) (mT (mOp2 dNe (mOp2 dMod (mVar 6) (mC (.int 4))) (mOp2 dMod (mVar 8) (mC (.int 4))))) (mTup (mCons (mVar 6) (mCons (mVar 8) (mNil)))))) (mgName 1)))) (mSeq (mAsg (mC (.int 16)) (mgName 3)) (mFor (mRng1 (mCons (mVar 3) (mNil))) (mgName 6) (mAsg (mOp2 dAdd (mFrz 1) (mLc [2] (mItT (mTup (mCons (mC (.int 1)) (mCons (mC (.int 2)) (mCons (mC (.int 4)) (mCons (mC (.int 8)) (mCons (mC (.int 15)) (mNil)))))))) (mgName 2) (mT (mOp2 dLt (mVar 6) (mOp2 dXor (mVar 6) (mVar 2)))) (mTup (mCons (mVar 6) (mCons (mOp2 dXor (mVar 6) (mVar 2)) (mNil)))))) (mgName 1)))))))) (mRet (mTup (mCons (mVar 3) (mCons (mOpL (fn1 dTuple) (mCons (mOpL (fn1 dSortSet) (mCons (mLc [9] (mItL (mFrz 1)) (mgName 9) (mYes) (mTup (mCons (mOpL (fn1 dMin1) (mCons (mVar 9) (mNil))) (mCons (mOpL (fn1 dMax1) (mCons (mVar 9) (mNil))) (mNil))))) (mNil))) (mNil))) (mNil))))))
def F_w_known : MF := fnM 10 (m_w_known)
section
variable {P : Program} {w : World} {K : PySem.W.Frag} {mg : Str → Option Value} {base : Heap}
theorem ok_w_known (T : Tx K mg) : FnOk P w K mg base (L2N.CX P w) 1 T.a_w_known T.d_w_known ["_law_kind_here"] (spF K mg 1 (F_w_known)) := by
  refine fn_ok T.F_w_known sc_w_known fun cdv A outer s H E hr tk => ?_
  unfold m_w_known
  exact (db_cons (ds_set (i := 1) sc_w_known.nd (de_lst (da_nil))) (db_cons (ds_if (dt_lt (hu64 hr) (de_var 0) (de_int)) (db_cons (ds_asg (de_ix (de_lst (da_cons (de_tup (da_cons (de_int) (da_cons (de_tup (da_cons (de_int) (da_nil))) (da_nil)))) (da_cons (de_tup (da_cons (de_int) (da_cons (de_tup (da_cons (de_int) (da_cons (de_int) (da_cons (de_int) (da_nil))))) (da_nil)))) (da_nil)))) (de_var 0)) (dg_tup rfl (dgs_cons (dg_name (i := 3) sc_w_known.nd) (dgs_cons (dg_name (i := 4) sc_w_known.nd) (dgs_nil))))) (db_one (ds_for (passes_of rfl) rfl (di_tup (de_var 4)) (dg_name (i := 2) sc_w_known.nd) (db_one (ds_set (i := 1) sc_w_known.nd (de_add (de_frz 1) (de_lc (own := [("_law_one", 6)]) sc_w_known.nd (di_rng1 T.B (da_cons (de_var 3) (da_nil))) rfl (by decide) (by decide) (fun _ _ _ _ _ => dg_name (i := 6) sc_w_known.nd) (fun _ _ _ _ _ => de_tup (da_cons (de_var 6) (da_cons (de_mod (de_add (de_var 6) (de_var 2)) (de_var 3)) (da_nil))))))))))) (db_one (ds_if (dt_lt (hu64 hr) (de_var 0) (de_int)) (db_cons (ds_set (i := 5) sc_w_known.nd (de_lst (da_nil))) (db_cons (ds_for (passes_of rfl) rfl (di_rng1 T.B (da_cons (de_add (de_var 0) (de_int)) (da_nil))) (dg_name (i := 6) sc_w_known.nd) (db_one (ds_set (i := 5) sc_w_known.nd (de_add (de_frz 5) (de_lc (own := [("_law_other", 8)]) sc_w_known.nd (di_rng2 T.B (da_cons (de_add (de_var 6) (de_int)) (da_cons (de_add (de_var 0) (de_int)) (da_nil)))) rfl (by decide) (by decide) (fun _ _ _ _ _ => dg_name (i := 8) sc_w_known.nd) (fun _ _ _ _ _ => de_tup (da_cons (de_var 6) (da_cons (de_var 8) (da_nil))))))))) (db_cons (ds_set (i := 3) sc_w_known.nd (de_callB call_len ok_len T.B.len (da_cons (de_frz 5) (da_nil)) boot_len)) (db_one (ds_for (passes_of rfl) rfl (di_rng1 T.B (da_cons (de_var 3) (da_nil))) (dg_name (i := 6) sc_w_known.nd) (db_one (ds_set (i := 1) sc_w_known.nd (de_add (de_frz 1) (de_lcIf (own := [("_law_other", 8)]) sc_w_known.nd (di_rng1 T.B (da_cons (de_var 6) (da_nil))) rfl (by decide) (by decide) (fun _ _ _ _ _ => dg_name (i := 8) sc_w_known.nd) (fun _ _ _ _ _ => dt_eq (hu64 hr) (de_lenSet T.B (de_add (de_slotIx 5 (de_var 6)) (de_slotIx 5 (de_var 8)))) (de_int)) (fun _ _ _ _ _ => de_tup (da_cons (de_var 6) (da_cons (de_var 8) (da_nil))))))))))))) (db_one (ds_if (dt_lt (hu64 hr) (de_var 0) (de_int)) (db_cons (ds_set (i := 7) sc_w_known.nd (de_sub (de_var 0) (de_int))) (db_cons (ds_set (i := 3) sc_w_known.nd (de_mul (de_var 7) (de_var 7))) (db_one (ds_for (passes_of rfl) rfl (di_rng1 T.B (da_cons (de_var 3) (da_nil))) (dg_name (i := 6) sc_w_known.nd) (db_cons (ds_set (i := 1) sc_w_known.nd (de_add (de_frz 1) (de_lcIf (own := [("_law_other", 8)]) sc_w_known.nd (di_rng1 T.B (da_cons (de_var 6) (da_nil))) rfl (by decide) (by decide) (fun _ _ _ _ _ => dg_name (i := 8) sc_w_known.nd) (fun _ _ _ _ _ => dt_eq (hu64 hr) (de_fdiv (de_var 6) (de_var 7)) (de_fdiv (de_var 8) (de_var 7))) (fun _ _ _ _ _ => de_tup (da_cons (de_var 6) (da_cons (de_var 8) (da_nil))))))) (db_one (ds_set (i := 1) sc_w_known.nd (de_add (de_frz 1) (de_lcIf (own := [("_law_other", 8)]) sc_w_known.nd (di_rng1 T.B (da_cons (de_var 6) (da_nil))) rfl (by decide) (by decide) (fun _ _ _ _ _ => dg_name (i := 8) sc_w_known.nd) (fun _ _ _ _ _ => dt_eq (hu64 hr) (de_mod (de_var 6) (de_var 7)) (de_mod (de_var 8) (de_var 7))) (fun _ _ _ _ _ => de_tup (da_cons (de_var 6) (da_cons (de_var 8) (da_nil))))))))))))) (db_one (ds_if (dt_eq (hu64 hr) (de_var 0) (de_int)) (db_cons (ds_set (i := 3) sc_w_known.nd (de_int)) (db_one (ds_for (passes_of rfl) rfl (di_rng1 T.B (da_cons (de_var 3) (da_nil))) (dg_name (i := 6) sc_w_known.nd) (db_one (ds_set (i := 1) sc_w_known.nd (de_add (de_frz 1) (de_lcIf (own := [("_law_other", 8)]) sc_w_known.nd (di_rng1 T.B (da_cons (de_var 6) (da_nil))) rfl (by decide) (by decide) (fun _ _ _ _ _ => dg_name (i := 8) sc_w_known.nd) (fun _ _ _ _ _ => dt_ne (hu64 hr) (de_mod (de_var 6) (de_int)) (de_mod (de_var 8) (de_int))) (fun _ _ _ _ _ => de_tup (da_cons (de_var 6) (da_cons (de_var 8) (da_nil))))))))))) (db_cons (ds_set (i := 3) sc_w_known.nd (de_int)) (db_one (ds_for (passes_of rfl) rfl (di_rng1 T.B (da_cons (de_var 3) (da_nil))) (dg_name (i := 6) sc_w_known.nd) (db_one (ds_set (i := 1) sc_w_known.nd (de_add (de_frz 1) (de_lcIf (own := [("_law_step", 2)]) sc_w_known.nd (di_tup (de_tup (da_cons (de_int) (da_cons (de_int) (da_cons (de_int) (da_cons (de_int) (da_cons (de_int) (da_nil)))))))) rfl (by decide) (by decide) (fun _ _ _ _ _ => dg_name (i := 2) sc_w_known.nd) (fun _ _ _ _ _ => dt_lt (hu64 hr) (de_var 6) (de_xor (de_var 6) (de_var 2))) (fun _ _ _ _ _ => de_tup (da_cons (de_var 6) (da_cons (de_xor (de_var 6) (de_var 2)) (da_nil)))))))))))))))))) (db_one (ds_ret (de_tup (da_cons (de_var 3) (da_cons (de_callTy call_tuple_of ok_tuple T.B.tuple (da_cons (de_sortSet (hu64 hr) T.B (da_cons (de_lc (own := [("_law_pair", 9)]) sc_w_known.nd (di_list (de_frz 1)) rfl (by decide) (by decide) (fun _ _ _ _ _ => dg_name (i := 9) sc_w_known.nd) (fun _ _ _ _ _ => de_tup (da_cons (de_callB ((cr_min rfl).or (cr_minT (hu64 hr))) ok_min1 T.B.min (da_cons (de_var 9) (da_nil)) boot_min) (da_cons (de_callB ((cr_max rfl).or (cr_maxT (hu64 hr))) ok_max1 T.B.max (da_cons (de_var 9) (da_nil)) boot_max) (da_nil))))) (da_nil))) (da_nil)) boot_tuple) (da_nil))))))))
end
def m_is_between : MS := mRet (mAndV (mCall F_is_whole (mCons (mVar 0) (mNil))) (mChain dLe dLe (mVar 1) (mVar 0) (mVar 2)))
def F_is_between : MF := fnM 3 (m_is_between)
section
variable {P : Program} {w : World} {K : PySem.W.Frag} {mg : Str → Option Value} {base : Heap}
theorem ok_is_between (T : Tx K mg) : FnOk P w K mg base (L2N.CX P w) 2 T.a_is_between T.d_is_between ["thing", "least", "most"] (spF K mg 3 (F_is_between)) := by
  refine fn_ok T.F_is_between sc_is_between fun cdv A outer s H E hr tk => ?_
  unfold m_is_between
  exact (db_one (ds_ret (de_andV (de_call (ok_is_whole T) (hr.mono (by omega)) T.g_is_whole T.F_is_whole.kp T.b_is_whole tk (da_cons (de_var 0) (da_nil)) (cons_len nil_len)) (de_one (de_leLe (de_var 1) (de_var 0) (de_var 2))))))
end
def m_near_in : MS := mRet (mOpL (fn1 dTuple) (mCons (mOp2 dIx (mCall F_near_rows (mCons (mVar 0) (mNil))) (mVar 1)) (mNil)))
def F_near_in : MF := fnM 2 (m_near_in)
section
variable {P : Program} {w : World} {K : PySem.W.Frag} {mg : Str → Option Value} {base : Heap}
theorem ok_near_in (T : Tx K mg) : FnOk P w K mg base (L2N.CX P w) 2 T.a_near_in T.d_near_in ["web", "place"] (spF K mg 2 (F_near_in)) := by
  refine fn_ok T.F_near_in sc_near_in fun cdv A outer s H E hr tk => ?_
  unfold m_near_in
  exact (db_one (ds_ret (de_callTy call_tuple_of ok_tuple T.B.tuple (da_cons (de_ix (de_call (ok_near_rows T) (hr.mono (by omega)) T.g_near_rows T.F_near_rows.kp T.b_near_rows tk (da_cons (de_var 0) (da_nil)) (cons_len nil_len)) (de_var 1)) (da_nil)) boot_tuple)))
end
def m_shared_in : MS := mSeq (mAsg (mCall F_near_rows (mCons (mVar 0) (mNil))) (mgName 3)) (mRet (mOpL (fn1 dTuple) (mCons (mLc [4] (mItL (mOp2 dIx (mFrz 3) (mVar 1))) (mgName 4) (mT (mOp2 dIn (mVar 4) (mOp2 dIx (mFrz 3) (mVar 2)))) (mVar 4)) (mNil))))
def F_shared_in : MF := fnM 5 (m_shared_in)
section
variable {P : Program} {w : World} {K : PySem.W.Frag} {mg : Str → Option Value} {base : Heap}
theorem ok_shared_in (T : Tx K mg) : FnOk P w K mg base (L2N.CX P w) 2 T.a_shared_in T.d_shared_in ["web", "one", "other"] (spF K mg 3 (F_shared_in)) := by
  refine fn_ok T.F_shared_in sc_shared_in fun cdv A outer s H E hr tk => ?_
  unfold m_shared_in
  exact (db_cons (ds_set (i := 3) sc_shared_in.nd (de_call (ok_near_rows T) (hr.mono (by omega)) T.g_near_rows T.F_near_rows.kp T.b_near_rows tk (da_cons (de_var 0) (da_nil)) (cons_len nil_len))) (db_one (ds_ret (de_callTy call_tuple_of ok_tuple T.B.tuple (da_cons (de_lcIf (own := [("place", 4)]) sc_shared_in.nd (di_list (de_ix (de_frz 3) (de_var 1))) rfl (by decide) (by decide) (fun _ _ _ _ _ => dg_name (i := 4) sc_shared_in.nd) (fun _ _ _ _ _ => dt_in (hu65 hr) (de_var 4) (de_ix (de_frz 3) (de_var 2))) (fun _ _ _ _ _ => de_var 4)) (da_nil)) boot_tuple))))
end
def m_w_box : MS := mSeq (mAsg (mCall F_w_cell (mCons (mVar 0) (mCons (mVar 1) (mNil)))) (mgName 2)) (mSeq (mIfS (mT (mOp2 dEq (mOp2 dMod (mVar 2) (mC (.int 2))) (mC (.int 0)))) (mRet (mLst (mCons (mOp2 dFdiv (mVar 2) (mC (.int 2))) (mNil)))) (mNext)) (mSeq (mAsg (mC (.int 0)) (mgName 3)) (mSeq (mAsg (mOp2 dMod (mVar 2) (mC (.int 2147483647))) (mgName 4)) (mSeq (mFor (mRng1 (mCons (mC (.int 24)) (mNil))) (mgName 5) (mSeq (mAsg (mOp2 dMod (mOp2 dAdd (mOp2 dAdd (mOp2 dAdd (mOp2 dMul (mVar 4) (mC (.int 48271))) (mOp2 dMul (mOp2 dMul (mC (.int 7)) (mVar 5)) (mVar 5))) (mOp2 dMul (mC (.int 11)) (mVar 1))) (mC (.int 1))) (mC (.int 2147483647))) (mgName 4)) (mAsg (mOp2 dAdd (mOp2 dMul (mVar 3) (mC (.int 2147483647))) (mVar 4)) (mgName 3)))) (mRet (mLst (mCons (mVar 3) (mNil))))))))
def F_w_box : MF := fnM 6 (m_w_box)
section
variable {P : Program} {w : World} {K : PySem.W.Frag} {mg : Str → Option Value} {base : Heap}
theorem ok_w_box (T : Tx K mg) : FnOk P w K mg base (L2N.CX P w) 2 T.a_w_box T.d_w_box ["_law_script", "_law_k"] (spF K mg 2 (F_w_box)) := by
  refine fn_ok T.F_w_box sc_w_box fun cdv A outer s H E hr tk => ?_
  unfold m_w_box
  exact (db_cons (ds_set (i := 2) sc_w_box.nd (de_call (ok_w_cell T) (hr.mono (by omega)) T.g_w_cell T.F_w_cell.kp T.b_w_cell tk (da_cons (de_var 0) (da_cons (de_var 1) (da_nil))) (cons_len (cons_len nil_len)))) (db_cons (ds_if (dt_eq (hu64 hr) (de_mod (de_var 2) (de_int)) (de_int)) (db_one (ds_ret (de_lst (da_cons (de_fdiv (de_var 2) (de_int)) (da_nil))))) (db_nil)) (db_cons (ds_set (i := 3) sc_w_box.nd (de_int)) (db_cons (ds_set (i := 4) sc_w_box.nd (de_mod (de_var 2) (de_int))) (db_cons (ds_for (passes_of rfl) rfl (di_rng1 T.B (da_cons (de_int) (da_nil))) (dg_name (i := 5) sc_w_box.nd) (db_cons (ds_set (i := 4) sc_w_box.nd (de_mod (de_add (de_add (de_add (de_mul (de_var 4) (de_int)) (de_mul (de_mul (de_int) (de_var 5)) (de_var 5))) (de_mul (de_int) (de_var 1))) (de_int)) (de_int))) (db_one (ds_set (i := 3) sc_w_box.nd (de_add (de_mul (de_var 3) (de_int)) (de_var 4)))))) (db_one (ds_ret (de_lst (da_cons (de_var 3) (da_nil))))))))))
end
def m_w_odd : MS := mSeq (mAsg (mLst (mCons (mC .non) (mCons (mC (.bl true)) (mCons (mC (.int 7)) (mCons (mC (.str "")) (mCons (mC (.str "0")) (mCons (mTup (mNil)) (mCons (mLst (mNil)) (mCons (mC .dic) (mCons (mTup (mCons (mC (.int 1)) (mCons (mC (.int 2)) (mNil)))) (mCons (mTup (mCons (mC (.int 0)) (mNil))) (mCons (mTup (mCons (mC (.int 1)) (mCons (mC (.int 0)) (mNil)))) (mCons (mOp1 dNeg (mC (.int 1))) (mCons (mTup (mCons (mC (.int 0)) (mCons (mC (.int 1)) (mNil)))) (mCons (mLst (mCons (mTup (mCons (mC (.int 0)) (mCons (mC (.int 1)) (mNil)))) (mNil))) (mCons (mC (.bl false)) (mCons (mTup (mCons (mC (.int 2)) (mCons (mTup (mCons (mTup (mCons (mC (.int 0)) (mCons (mC (.int 1)) (mNil)))) (mNil))) (mNil)))) (mNil)))))))))))))))))) (mgName 1)) (mRet (mOp2 dIx (mFrz 1) (mCallO F_w_take 0 (mCons (mC (.int 16)) (mNil)))))
def F_w_odd : MO := fnO 2 (m_w_odd)
section
variable {P : Program} {w : World} {K : PySem.W.Frag} {mg : Str → Option Value} {base : Heap}
theorem ok_w_odd (T : Tx K mg) : FnOk P w K mg base (L2N.CX P w) 2 T.a_w_odd T.d_w_odd ["_law_box_here"] (spO K 1 (F_w_odd)) := by
  refine fn_okO T.F_w_odd sc_w_odd fun cdv A outer s H E hr tk => ?_
  unfold m_w_odd
  exact (db_cons (ds_set (i := 1) sc_w_odd.nd (de_lst (da_cons (de_non) (da_cons (de_bl) (da_cons (de_int) (da_cons (de_str) (da_cons (de_str) (da_cons (de_tup (da_nil)) (da_cons (de_lst (da_nil)) (da_cons (de_dic) (da_cons (de_tup (da_cons (de_int) (da_cons (de_int) (da_nil)))) (da_cons (de_tup (da_cons (de_int) (da_nil))) (da_cons (de_tup (da_cons (de_int) (da_cons (de_int) (da_nil)))) (da_cons (de_neg (de_int)) (da_cons (de_tup (da_cons (de_int) (da_cons (de_int) (da_nil)))) (da_cons (de_lst (da_cons (de_tup (da_cons (de_int) (da_cons (de_int) (da_nil)))) (da_nil))) (da_cons (de_bl) (da_cons (de_tup (da_cons (de_int) (da_cons (de_tup (da_cons (de_tup (da_cons (de_int) (da_cons (de_int) (da_nil)))) (da_nil))) (da_nil)))) (da_nil))))))))))))))))))) (db_one (ds_ret (de_ix (de_frz 1) (de_callO 0 (ok_w_take T) (hr.mono (by omega)) T.g_w_take T.F_w_take.kp T.b_w_take tk (da_cons (de_int) (da_nil)) (len1 (cons_len nil_len)))))))
end
def m_w_near : MS := mRet (mLc [2] (mRng1 (mCons (mSlotIx 0 (mC (.int 0))) (mNil))) (mgName 2) (mAndT (mT (mOp2 dNe (mVar 2) (mVar 1))) (mT (mCall F_w_tied (mCons (mVar 0) (mCons (mVar 1) (mCons (mVar 2) (mNil))))))) (mVar 2))
def F_w_near : MF := fnM 3 (m_w_near)
section
variable {P : Program} {w : World} {K : PySem.W.Frag} {mg : Str → Option Value} {base : Heap}
theorem ok_w_near (T : Tx K mg) : FnOk P w K mg base (L2N.CX P w) 2 T.a_w_near T.d_w_near ["_law_web_here", "_law_place"] (spF K mg 2 (F_w_near)) := by
  refine fn_ok T.F_w_near sc_w_near fun cdv A outer s H E hr tk => ?_
  unfold m_w_near
  exact (db_one (ds_ret (de_lcIf (own := [("_law_other", 2)]) sc_w_near.nd (di_rng1 T.B (da_cons (de_slotIx 0 (de_int)) (da_nil))) rfl (by decide) (by decide) (fun _ _ _ _ _ => dg_name (i := 2) sc_w_near.nd) (fun _ _ _ _ _ => dt_dw (dw_and (dt_ne (hu64 hr) (de_var 2) (de_var 1)) (dw_and1 (dt_val (de_call (ok_w_tied T) (hr.mono (by omega)) T.g_w_tied T.F_w_tied.kp T.b_w_tied takes0N (da_cons (de_var 0) (da_cons (de_var 1) (da_cons (de_var 2) (da_nil)))) (cons_len (cons_len (cons_len nil_len)))))))) (fun _ _ _ _ _ => de_var 2))))
end
def m_w_order : MS := mSeq (mAsg (mLR1 (mVar 1)) (mgName 2)) (mRet (mOpL (fn1 dTuple) (mCons (mLc [3] (mRng1 (mCons (mVar 1) (mNil))) (mgName 3) (mYes) (mPopAt 2 (mCallO F_w_take 0 (mCons (mBor (mOpL (fn1 dLen) (mCons (mVar 2) (mNil)))) (mNil))))) (mNil))))
def F_w_order : MO := fnO 4 (m_w_order)
section
variable {P : Program} {w : World} {K : PySem.W.Frag} {mg : Str → Option Value} {base : Heap}
theorem ok_w_order (T : Tx K mg) : FnOk P w K mg base (L2N.CX P w) 2 T.a_w_order T.d_w_order ["_law_box_here", "_law_many"] (spO K 2 (F_w_order)) := by
  refine fn_okO T.F_w_order sc_w_order fun cdv A outer s H E hr tk => ?_
  unfold m_w_order
  exact (db_cons (ds_set (i := 2) sc_w_order.nd (de_lRng1 T.B rfl (de_var 1))) (db_one (ds_ret (de_callTy call_tuple_of ok_tuple T.B.tuple (da_cons (de_lc (own := [("_law_place", 3)]) sc_w_order.nd (di_rng1 T.B (da_cons (de_var 1) (da_nil))) rfl (by decide) (by decide) (fun _ _ _ _ _ => dg_name (i := 3) sc_w_order.nd) (fun _ _ _ _ _ => de_popAt 2 (de_callO 0 (ok_w_take T) (hr.mono (by omega)) T.g_w_take T.F_w_take.kp T.b_w_take takes0N (da_cons (de_bor (de_callB call_len ok_len T.B.len (da_cons (de_var 2) (da_nil)) boot_len)) (da_nil)) (len1 (cons_len nil_len))))) (da_nil)) boot_tuple))))
end
def m_w_is_web : MS := mSeq (mIfS (mOrT (mNotT (mT (mOpL (fn2 dIsi) (mCons (mVar 0) (mCons (mC (.raw (.ty "tuple"))) (mNil)))))) (mOrT (mT (mOp2 dNe (mOpL (fn1 dLen) (mCons (mVar 0) (mNil))) (mC (.int 2)))) (mOrT (mNotT (mT (mCall F_w_whole (mCons (mSlotIx 0 (mC (.int 0))) (mNil))))) (mNotT (mT (mChain dLe dLe (mC (.int 1)) (mSlotIx 0 (mC (.int 0))) (mC (.int 16)))))))) (mRet (mC (.bl false))) (mNext)) (mSeq (mIfS (mNotT (mT (mOpL (fn2 dIsi) (mCons (mSlotIx 0 (mC (.int 1))) (mCons (mC (.raw (.ty "tuple"))) (mNil)))))) (mRet (mC (.bl false))) (mNext)) (mSeq (mFor (mItT (mSlotIx 0 (mC (.int 1)))) (mgName 1) (mSeq (mIfS (mOrT (mNotT (mT (mOpL (fn2 dIsi) (mCons (mVar 1) (mCons (mC (.raw (.ty "tuple"))) (mNil)))))) (mOrT (mT (mOp2 dNe (mOpL (fn1 dLen) (mCons (mVar 1) (mNil))) (mC (.int 2)))) (mNotT (mT (mOpL (fn1 dAll) (mCons (mLc [2] (mItT (mVar 1)) (mgName 2) (mYes) (mCall F_w_whole (mCons (mVar 2) (mNil)))) (mNil))))))) (mRet (mC (.bl false))) (mNext)) (mIfS (mNotT (mT (mChain3 dLe dLtI dLtI (mC (.int 0)) (mSlotIx 1 (mC (.int 0))) (mSlotIx 1 (mC (.int 1))) (mSlotIx 0 (mC (.int 0)))))) (mRet (mC (.bl false))) (mNext)))) (mRet (mOp2 dEq (mOpL (fn1 dList) (mCons (mSlotIx 0 (mC (.int 1))) (mNil))) (mOpL (fn1 dSortSetG) (mCons (mSlotIx 0 (mC (.int 1))) (mNil)))))))
def l_w_is_web_0 : MS := mSeq (mIfS (mOrT (mNotT (mT (mOpL (fn2 dIsi) (mCons (mVar 1) (mCons (mC (.raw (.ty "tuple"))) (mNil)))))) (mOrT (mT (mOp2 dNe (mOpL (fn1 dLen) (mCons (mVar 1) (mNil))) (mC (.int 2)))) (mNotT (mT (mOpL (fn1 dAll) (mCons (mLc [2] (mItT (mVar 1)) (mgName 2) (mYes) (mCall F_w_whole (mCons (mVar 2) (mNil)))) (mNil))))))) (mRet (mC (.bl false))) (mNext)) (mIfS (mNotT (mT (mChain3 dLe dLtI dLtI (mC (.int 0)) (mSlotIx 1 (mC (.int 0))) (mSlotIx 1 (mC (.int 1))) (mSlotIx 0 (mC (.int 0)))))) (mRet (mC (.bl false))) (mNext))
def F_w_is_web : MF := fnM 3 (m_w_is_web)
section
variable {P : Program} {w : World} {K : PySem.W.Frag} {mg : Str → Option Value} {base : Heap}
theorem ok_w_is_web (T : Tx K mg) : FnOk P w K mg base (L2N.CX P w) 2 T.a_w_is_web T.d_w_is_web ["_law_thing"] (spF K mg 1 (F_w_is_web)) := by
  refine fn_ok T.F_w_is_web sc_w_is_web fun cdv A outer s H E hr tk => ?_
  unfold m_w_is_web
  exact (db_cons (ds_if (dt_dw (dw_or (dt_not (dt_val (de_callB call_isi ok_isi T.B.isi (da_cons (de_var 0) (da_cons (de_bltn (v := .ty "tuple") rfl T.B.tuple boot_tuple rfl) (da_nil))) boot_isinstance))) (dw_or (dt_ne (hu64 hr) (de_callB call_len ok_len T.B.len (da_cons (de_var 0) (da_nil)) boot_len) (de_int)) (dw_or (dt_not (dt_val (de_call (ok_w_whole T) (hr.mono (by omega)) T.g_w_whole T.F_w_whole.kp T.b_w_whole tk (da_cons (de_slotIx 0 (de_int)) (da_nil)) (cons_len nil_len)))) (dw_or1 (dt_not (dt_leLe (de_int) (de_slotIx 0 (de_int)) (de_int)))))))) (db_one (ds_ret (de_bl))) (db_nil)) (db_cons (ds_if (dt_not (dt_val (de_callB call_isi ok_isi T.B.isi (da_cons (de_slotIx 0 (de_int)) (da_cons (de_bltn (v := .ty "tuple") rfl T.B.tuple boot_tuple rfl) (da_nil))) boot_isinstance))) (db_one (ds_ret (de_bl))) (db_nil)) (db_cons (ds_for (passes_of rfl) rfl (di_tup (de_slotIx 0 (de_int))) (dg_name (i := 1) sc_w_is_web.nd) (db_cons (ds_if (dt_dw (dw_or (dt_not (dt_val (de_callB call_isi ok_isi T.B.isi (da_cons (de_var 1) (da_cons (de_bltn (v := .ty "tuple") rfl T.B.tuple boot_tuple rfl) (da_nil))) boot_isinstance))) (dw_or (dt_ne (hu64 hr) (de_callB call_len ok_len T.B.len (da_cons (de_var 1) (da_nil)) boot_len) (de_int)) (dw_or1 (dt_not (dt_val (de_callB (cr_all rfl) ok_all T.B.all (da_cons (de_lc (own := [("_law_one", 2)]) sc_w_is_web.nd (di_tup (de_var 1)) rfl (by decide) (by decide) (fun _ _ _ _ _ => dg_name (i := 2) sc_w_is_web.nd) (fun _ _ _ _ _ => de_call (ok_w_whole T) (hr.mono (by omega)) T.g_w_whole T.F_w_whole.kp T.b_w_whole takes0N (da_cons (de_var 2) (da_nil)) (cons_len nil_len))) (da_nil)) boot_all))))))) (db_one (ds_ret (de_bl))) (db_nil)) (db_one (ds_if (dt_not (dt_leLtLt (de_int) (de_slotIx 1 (de_int)) (de_slotIx 1 (de_int)) (de_slotIx 0 (de_int)))) (db_one (ds_ret (de_bl))) (db_nil))))) (db_one (ds_ret (de_eq (hu64 hr) (de_callTy call_list_of ok_list T.B.list (da_cons (de_slotIx 0 (de_int)) (da_nil)) boot_list) (de_sortSetG (hu64 hr) T.B (da_cons (de_slotIx 0 (de_int)) (da_nil)))))))))
end
def m_is_pair : MS := mSeq (mIfS (mOrT (mNotT (mT (mOpL (fn2 dIsi) (mCons (mVar 0) (mCons (mC (.raw (.ty "tuple"))) (mNil)))))) (mOrT (mT (mOp2 dNe (mOpL (fn1 dLen) (mCons (mVar 0) (mNil))) (mC (.int 2)))) (mNotT (mT (mOpL (fn1 dAll) (mCons (mLc [2] (mItT (mVar 0)) (mgName 2) (mYes) (mCall F_is_between (mCons (mVar 2) (mCons (mC (.int 0)) (mCons (mOp2 dSub (mVar 1) (mC (.int 1))) (mNil)))))) (mNil))))))) (mRet (mC (.bl false))) (mNext)) (mRet (mOp2 dLt (mSlotIx 0 (mC (.int 0))) (mSlotIx 0 (mC (.int 1)))))
def F_is_pair : MF := fnM 3 (m_is_pair)
section
variable {P : Program} {w : World} {K : PySem.W.Frag} {mg : Str → Option Value} {base : Heap}
theorem ok_is_pair (T : Tx K mg) : FnOk P w K mg base (L2N.CX P w) 3 T.a_is_pair T.d_is_pair ["thing", "many"] (spF K mg 2 (F_is_pair)) := by
  refine fn_ok T.F_is_pair sc_is_pair fun cdv A outer s H E hr tk => ?_
  unfold m_is_pair
  exact (db_cons (ds_if (dt_dw (dw_or (dt_not (dt_val (de_callB call_isi ok_isi T.B.isi (da_cons (de_var 0) (da_cons (de_bltn (v := .ty "tuple") rfl T.B.tuple boot_tuple rfl) (da_nil))) boot_isinstance))) (dw_or (dt_ne (hu64 hr) (de_callB call_len ok_len T.B.len (da_cons (de_var 0) (da_nil)) boot_len) (de_int)) (dw_or1 (dt_not (dt_val (de_callB (cr_all rfl) ok_all T.B.all (da_cons (de_lc (own := [("one", 2)]) sc_is_pair.nd (di_tup (de_var 0)) rfl (by decide) (by decide) (fun _ _ _ _ _ => dg_name (i := 2) sc_is_pair.nd) (fun _ _ _ _ _ => de_call (ok_is_between T) (hr.mono (by omega)) T.g_is_between T.F_is_between.kp T.b_is_between takes0N (da_cons (de_var 2) (da_cons (de_int) (da_cons (de_sub (de_var 1) (de_int)) (da_nil)))) (cons_len (cons_len (cons_len nil_len))))) (da_nil)) boot_all))))))) (db_one (ds_ret (de_bl))) (db_nil)) (db_one (ds_ret (de_lt (hu64 hr) (de_slotIx 0 (de_int)) (de_slotIx 0 (de_int))))))
end
def m_look_at_place : MS := mIfS (mNotT (mT (mCall F_is_between (mCons (mVar 1) (mCons (mC (.int 0)) (mCons (mOp2 dSub (mSlotIx 0 (mC (.int 0))) (mC (.int 1))) (mNil))))))) ((fun e => .exc "NoPlace" [] e)) (mNext)
def F_look_at_place : MF := fnM 2 (m_look_at_place)
section
variable {P : Program} {w : World} {K : PySem.W.Frag} {mg : Str → Option Value} {base : Heap}
theorem ok_look_at_place (T : Tx K mg) : FnOk P w K mg base (L2N.CX P w) 3 T.a_look_at_place T.d_look_at_place ["web", "place"] (spF K mg 2 (F_look_at_place)) := by
  refine fn_ok T.F_look_at_place sc_look_at_place fun cdv A outer s H E hr tk => ?_
  unfold m_look_at_place
  exact (db_one (ds_if (dt_not (dt_val (de_call (ok_is_between T) (hr.mono (by omega)) T.g_is_between T.F_is_between.kp T.b_is_between tk (da_cons (de_var 1) (da_cons (de_int) (da_cons (de_sub (de_slotIx 0 (de_int)) (de_int)) (da_nil)))) (cons_len (cons_len (cons_len nil_len)))))) (db_one (ds_raise tk T.e_NoPlace)) (db_nil)))
end
def m_w_web : MS := mSeq (mAsg (mOp2 dAdd (mC (.int 1)) (mCallO F_w_take 0 (mCons (mVar 1) (mNil)))) (mgName 2)) (mSeq (mAsg (mCallO F_w_take 0 (mCons (mC (.int 5)) (mNil))) (mgName 3)) (mSeq (mAsg (mLc [13] (mRng1 (mCons (mC (.int 10)) (mNil))) (mgName 13) (mT (mOp2 dLe (mOp2 dIx (mLst (mCons (mC (.int 5)) (mCons (mC (.int 13)) (mCons (mC (.int 6)) (mCons (mC (.int 10)) (mCons (mC (.int 15)) (mCons (mC (.int 4)) (mCons (mC (.int 9)) (mCons (mC (.int 16)) (mCons (mC (.int 12)) (mCons (mC (.int 16)) (mNil)))))))))))) (mVar 13)) (mVar 1))) (mVar 13)) (mgName 4)) (mSeq (mIfS (mOrT (mT (mOp2 dLt (mVar 3) (mC (.int 2)))) (mT (mOp2 dEq (mFrz 4) (mLst (mNil))))) (mSeq (mAsg (mOp2 dAdd (mC (.int 2)) (mCallO F_w_take 0 (mCons (mC (.int 3)) (mNil)))) (mgName 7)) (mSeq (mAsg (mLst (mNil)) (mgName 8)) (mSeq (mFor (mRng1 (mCons (mVar 2) (mNil))) (mgName 9) (mAsg (mOp2 dAdd (mFrz 8) (mLc [11] (mRng2 (mCons (mOp2 dAdd (mVar 9) (mC (.int 1))) (mCons (mVar 2) (mNil)))) (mgName 11) (mT (mOp2 dEq (mCallO F_w_take 0 (mCons (mVar 7) (mNil))) (mC (.int 0)))) (mTup (mCons (mVar 9) (mCons (mVar 11) (mNil)))))) (mgName 8))) (mRet (mTup (mCons (mVar 2) (mCons (mOpL (fn1 dTuple) (mCons (mFrz 8) (mNil))) (mNil)))))))) (mNext)) (mSeq (mAsg (mCall F_w_known (mCons (mSlotIx 4 (mCallO F_w_take 0 (mCons (mOpL (fn1 dLen) (mCons (mFrz 4) (mNil))) (mNil)))) (mNil))) (mgTup 2 (mgCons (mgName 2) (mgCons (mgName 8) (mgNil))))) (mSeq (mAsg (mCallO F_w_order 0 (mCons (mVar 2) (mNil))) (mgName 5)) (mSeq (mAsg (mLc [9, 11] (mItT (mFrz 8)) (mgTup 2 (mgCons (mgName 9) (mgCons (mgName 11) (mgNil)))) (mYes) (mTup (mCons (mOpL (fn2 dMin2) (mCons (mSlotIx 5 (mVar 9)) (mCons (mSlotIx 5 (mVar 11)) (mNil)))) (mCons (mOpL (fn2 dMax2) (mCons (mSlotIx 5 (mVar 9)) (mCons (mSlotIx 5 (mVar 11)) (mNil)))) (mNil))))) (mgName 6)) (mSeq (mIfS (mT (mOp2 dEq (mVar 3) (mC (.int 3)))) (mSeq (mAsg (mLst (mNil)) (mgName 10)) (mSeq (mFor (mRng1 (mCons (mVar 2) (mNil))) (mgName 11) (mAsg (mOp2 dAdd (mFrz 10) (mLc [9] (mRng1 (mCons (mVar 11) (mNil))) (mgName 9) (mYes) (mTup (mCons (mVar 9) (mCons (mVar 11) (mNil)))))) (mgName 10))) (mAsg (mLc [12] (mItL (mFrz 10)) (mgName 12) (mT (mOp2 dNotIn (mVar 12) (mFrz 6))) (mVar 12)) (mgName 6)))) (mNext)) (mSeq (mIfS (mT (mOp2 dEq (mVar 3) (mC (.int 4)))) (mSeq (mAsg (mCallO F_w_take 0 (mCons (mVar 2) (mNil))) (mgName 9)) (mSeq (mAsg (mOpL (fn1 dTuple) (mCons (mOpL (fn1 dSortX) (mCons (mLst (mCons (mVar 9) (mCons (mOp2 dMod (mOp2 dAdd (mOp2 dAdd (mVar 9) (mC (.int 1))) (mCallO F_w_take 0 (mCons (mOp2 dSub (mVar 2) (mC (.int 1))) (mNil)))) (mVar 2)) (mNil)))) (mNil))) (mNil))) (mgName 12)) (mAsg (mOp2 dAdd (mLc [11] (mItL (mFrz 6)) (mgName 11) (mT (mOp2 dNe (mVar 11) (mVar 12))) (mVar 11)) (mOp2 dMul (mLst (mCons (mVar 12) (mNil))) (mOpL (fn1 dInt) (mCons (mOp2 dNotIn (mVar 12) (mFrz 6)) (mNil))))) (mgName 6)))) (mNext)) (mRet (mTup (mCons (mVar 2) (mCons (mOpL (fn1 dTuple) (mCons (mOpL (fn1 dSortX) (mCons (mFrz 6) (mNil))) (mNil))) (mNil)))))))))))))
def l_w_web_0 : MS := mAsg (mOp2 dAdd (mFrz 8) (mLc [11] (mRng2 (mCons (mOp2 dAdd (mVar 9) (mC (.int 1))) (mCons (mVar 2) (mNil)))) (mgName 11) (mT (mOp2 dEq (mCallO F_w_take 0 (mCons (mVar 7) (mNil))) (mC (.int 0)))) (mTup (mCons (mVar 9) (mCons (mVar 11) (mNil)))))) (mgName 8)
def l_w_web_1 : MS := mAsg (mOp2 dAdd (mFrz 10) (mLc [9] (mRng1 (mCons (mVar 11) (mNil))) (mgName 9) (mYes) (mTup (mCons (mVar 9) (mCons (mVar 11) (mNil)))))) (mgName 10)
def F_w_web : MO := fnO 14 (m_w_web)
section
variable {P : Program} {w : World} {K : PySem.W.Frag} {mg : Str → Option Value} {base : Heap}
theorem ok_w_web (T : Tx K mg) : FnOk P w K mg base (L2N.CX P w) 3 T.a_w_web T.d_w_web ["_law_box_here", "_law_most"] (spO K 2 (F_w_web)) := by
  refine fn_okO T.F_w_web sc_w_web fun cdv A outer s H E hr tk => ?_
  unfold m_w_web
  exact (db_cons (ds_set (i := 2) sc_w_web.nd (de_add (de_int) (de_callO 0 (ok_w_take T) (hr.mono (by omega)) T.g_w_take T.F_w_take.kp T.b_w_take tk (da_cons (de_var 1) (da_nil)) (len1 (cons_len nil_len))))) (db_cons (ds_set (i := 3) sc_w_web.nd (de_callO 0 (ok_w_take T) (hr.mono (by omega)) T.g_w_take T.F_w_take.kp T.b_w_take tk (da_cons (de_int) (da_nil)) (len1 (cons_len nil_len)))) (db_cons (ds_setLcIf (i := 4) (own := [("_law_kind_here", 13)]) sc_w_web.nd (di_rng1 T.B (da_cons (de_int) (da_nil))) rfl (by decide) (by decide) (fun _ _ _ _ _ => dg_name (i := 13) sc_w_web.nd) (fun _ _ _ _ _ => dt_le (de_ix (de_lst (da_cons (de_int) (da_cons (de_int) (da_cons (de_int) (da_cons (de_int) (da_cons (de_int) (da_cons (de_int) (da_cons (de_int) (da_cons (de_int) (da_cons (de_int) (da_cons (de_int) (da_nil)))))))))))) (de_var 13)) (de_var 1)) (fun _ _ _ _ _ => de_var 13) rfl) (db_cons (ds_if (dt_dw (dw_or (dt_lt (hu64 hr) (de_var 3) (de_int)) (dw_or1 (dt_eq (hu64 hr) (de_frz 4) (de_lst (da_nil)))))) (db_cons (ds_set (i := 7) sc_w_web.nd (de_add (de_int) (de_callO 0 (ok_w_take T) (hr.mono (by omega)) T.g_w_take T.F_w_take.kp T.b_w_take tk (da_cons (de_int) (da_nil)) (len1 (cons_len nil_len))))) (db_cons (ds_set (i := 8) sc_w_web.nd (de_lst (da_nil))) (db_cons (ds_for (passes_of rfl) rfl (di_rng1 T.B (da_cons (de_var 2) (da_nil))) (dg_name (i := 9) sc_w_web.nd) (db_one (ds_set (i := 8) sc_w_web.nd (de_add (de_frz 8) (de_lcIf (own := [("_law_other", 11)]) sc_w_web.nd (di_rng2 T.B (da_cons (de_add (de_var 9) (de_int)) (da_cons (de_var 2) (da_nil)))) rfl (by decide) (by decide) (fun _ _ _ _ _ => dg_name (i := 11) sc_w_web.nd) (fun _ _ _ _ _ => dt_eq (hu64 hr) (de_callO 0 (ok_w_take T) (hr.mono (by omega)) T.g_w_take T.F_w_take.kp T.b_w_take takes0N (da_cons (de_var 7) (da_nil)) (len1 (cons_len nil_len))) (de_int)) (fun _ _ _ _ _ => de_tup (da_cons (de_var 9) (da_cons (de_var 11) (da_nil))))))))) (db_one (ds_ret (de_tup (da_cons (de_var 2) (da_cons (de_callTy call_tuple_of ok_tuple T.B.tuple (da_cons (de_frz 8) (da_nil)) boot_tuple) (da_nil))))))))) (db_nil)) (db_cons (ds_asg (de_call (ok_w_known T) (hr.mono (by omega)) T.g_w_known T.F_w_known.kp T.b_w_known tk (da_cons (de_slotIx 4 (de_callO 0 (ok_w_take T) (hr.mono (by omega)) T.g_w_take T.F_w_take.kp T.b_w_take tk (da_cons (de_callB call_len ok_len T.B.len (da_cons (de_frz 4) (da_nil)) boot_len) (da_nil)) (len1 (cons_len nil_len)))) (da_nil)) (cons_len nil_len)) (dg_tup rfl (dgs_cons (dg_name (i := 2) sc_w_web.nd) (dgs_cons (dg_name (i := 8) sc_w_web.nd) (dgs_nil))))) (db_cons (ds_set (i := 5) sc_w_web.nd (de_callO 0 (ok_w_order T) (hr.mono (by omega)) T.g_w_order T.F_w_order.kp T.b_w_order tk (da_cons (de_var 2) (da_nil)) (len1 (cons_len nil_len)))) (db_cons (ds_set (i := 6) sc_w_web.nd (de_lc (own := [("_law_one", 9), ("_law_other", 11)]) sc_w_web.nd (di_tup (de_frz 8)) rfl (by decide) (by decide) (fun _ _ _ _ _ => dg_tup rfl (dgs_cons (dg_name (i := 9) sc_w_web.nd) (dgs_cons (dg_name (i := 11) sc_w_web.nd) (dgs_nil)))) (fun _ _ _ _ _ => de_tup (da_cons (de_callB (call_min2 rfl) ok_min2 T.B.min (da_cons (de_slotIx 5 (de_var 9)) (da_cons (de_slotIx 5 (de_var 11)) (da_nil))) boot_min) (da_cons (de_callB (call_max2 rfl) ok_max2 T.B.max (da_cons (de_slotIx 5 (de_var 9)) (da_cons (de_slotIx 5 (de_var 11)) (da_nil))) boot_max) (da_nil)))))) (db_cons (ds_if (dt_eq (hu64 hr) (de_var 3) (de_int)) (db_cons (ds_set (i := 10) sc_w_web.nd (de_lst (da_nil))) (db_cons (ds_for (passes_of rfl) rfl (di_rng1 T.B (da_cons (de_var 2) (da_nil))) (dg_name (i := 11) sc_w_web.nd) (db_one (ds_set (i := 10) sc_w_web.nd (de_add (de_frz 10) (de_lc (own := [("_law_one", 9)]) sc_w_web.nd (di_rng1 T.B (da_cons (de_var 11) (da_nil))) rfl (by decide) (by decide) (fun _ _ _ _ _ => dg_name (i := 9) sc_w_web.nd) (fun _ _ _ _ _ => de_tup (da_cons (de_var 9) (da_cons (de_var 11) (da_nil))))))))) (db_one (ds_set (i := 6) sc_w_web.nd (de_lcIf (own := [("_law_pair", 12)]) sc_w_web.nd (di_list (de_frz 10)) rfl (by decide) (by decide) (fun _ _ _ _ _ => dg_name (i := 12) sc_w_web.nd) (fun _ _ _ _ _ => dt_notIn (hu65 hr) (de_var 12) (de_frz 6)) (fun _ _ _ _ _ => de_var 12)))))) (db_nil)) (db_cons (ds_if (dt_eq (hu64 hr) (de_var 3) (de_int)) (db_cons (ds_set (i := 9) sc_w_web.nd (de_callO 0 (ok_w_take T) (hr.mono (by omega)) T.g_w_take T.F_w_take.kp T.b_w_take tk (da_cons (de_var 2) (da_nil)) (len1 (cons_len nil_len)))) (db_cons (ds_set (i := 12) sc_w_web.nd (de_callTy call_tuple_of ok_tuple T.B.tuple (da_cons (de_callB ((cr_sortedI.or cr_sortedIT).or (cr_sortD (hu64 hr))) ok_sortX T.B.sorted (da_cons (de_lst (da_cons (de_var 9) (da_cons (de_mod (de_add (de_add (de_var 9) (de_int)) (de_callO 0 (ok_w_take T) (hr.mono (by omega)) T.g_w_take T.F_w_take.kp T.b_w_take tk (da_cons (de_sub (de_var 2) (de_int)) (da_nil)) (len1 (cons_len nil_len)))) (de_var 2)) (da_nil)))) (da_nil)) boot_sorted) (da_nil)) boot_tuple)) (db_one (ds_set (i := 6) sc_w_web.nd (de_add (de_lcIf (own := [("_law_other", 11)]) sc_w_web.nd (di_list (de_frz 6)) rfl (by decide) (by decide) (fun _ _ _ _ _ => dg_name (i := 11) sc_w_web.nd) (fun _ _ _ _ _ => dt_ne (hu64 hr) (de_var 11) (de_var 12)) (fun _ _ _ _ _ => de_var 11)) (de_mul (de_lst (da_cons (de_var 12) (da_nil))) (de_callTy call_int1 ok_int T.B.int (da_cons (de_notIn (hu65 hr) (de_var 12) (de_frz 6)) (da_nil)) boot_int))))))) (db_nil)) (db_one (ds_ret (de_tup (da_cons (de_var 2) (da_cons (de_callTy call_tuple_of ok_tuple T.B.tuple (da_cons (de_callB ((cr_sortedI.or cr_sortedIT).or (cr_sortD (hu64 hr))) ok_sortX T.B.sorted (da_cons (de_frz 6) (da_nil)) boot_sorted) (da_nil)) boot_tuple) (da_nil)))))))))))))))
end
def m_w_others : MS := mSeq (mAsg (mVar 1) (mgTup 2 (mgCons (mgName 7) (mgCons (mgName 8) (mgNil))))) (mSeq (mAsg (mCallO F_w_take 0 (mCons (mOp2 dAdd (mOpL (fn1 dLen) (mCons (mVar 8) (mNil))) (mC (.int 1))) (mNil))) (mgName 2)) (mSeq (mAsg (mOp2 dIx (mOp2 dAdd (mVar 8) (mTup (mCons (mTup (mCons (mC (.int 0)) (mCons (mC (.int 1)) (mNil)))) (mNil)))) (mVar 2)) (mgTup 2 (mgCons (mgName 9) (mgCons (mgName 10) (mgNil))))) (mSeq (mAsg (mOp2 dIx (mLst (mCons (mVar 7) (mCons (mOp1 dNeg (mC (.int 1))) (mCons (mC (.bl true)) (mCons (mC .non) (mCons (mC (.str "0")) (mCons (mTup (mCons (mC (.int 0)) (mNil))) (mCons (mC (.int 0)) (mCons (mOp2 dPow (mC (.int 10)) (mC (.int 39))) (mCons (mVar 9) (mNil))))))))))) (mCallO F_w_take 0 (mCons (mC (.int 9)) (mNil)))) (mgName 3)) (mSeq (mAsg (mLst (mCons (mTup (mCons (mVar 3) (mCons (mVar 10) (mNil)))) (mCons (mTup (mCons (mVar 9) (mCons (mVar 3) (mNil)))) (mCons (mTup (mCons (mVar 10) (mCons (mVar 9) (mNil)))) (mCons (mTup (mCons (mVar 9) (mCons (mVar 9) (mNil)))) (mCons (mLst (mCons (mVar 9) (mCons (mVar 10) (mNil)))) (mCons (mTup (mCons (mVar 9) (mNil))) (mCons (mTup (mCons (mVar 9) (mCons (mVar 10) (mCons (mC (.int 0)) (mNil))))) (mCons (mVar 3) (mNil)))))))))) (mgName 4)) (mSeq (mAsg (mLc [11] (mItL (mFrz 4)) (mgName 11) (mYes) (mOp2 dAdd (mOp2 dAdd (mSl (mVar 8) (mNoPart) (mPart (mVar 2))) (mTup (mCons (mVar 11) (mNil)))) (mSl (mVar 8) (mPart (mOp2 dAdd (mVar 2) (mC (.int 1)))) (mNoPart)))) (mgName 5)) (mSeq (mAsg (mOp2 dAdd (mFrz 5) (mLst (mCons (mOp2 dAdd (mOp2 dAdd (mSl (mVar 8) (mNoPart) (mPart (mVar 2))) (mSl (mVar 8) (mPart (mVar 2)) (mPart (mOp2 dAdd (mVar 2) (mC (.int 1)))))) (mSl (mVar 8) (mPart (mVar 2)) (mNoPart))) (mCons (mSt (mVar 8) (mNoPart) (mNoPart)) (mCons (mOp2 dAdd (mSl (mVar 8) (mNoPart) (mPart (mVar 2))) (mSl (mVar 8) (mPart (mOp2 dAdd (mVar 2) (mC (.int 1)))) (mNoPart))) (mCons (mOpL (fn1 dList) (mCons (mVar 8) (mNil))) (mCons (mC .non) (mNil)))))))) (mgName 5)) (mSeq (mAsg (mLc [12] (mRng1 (mCons (mC (.int 4)) (mNil))) (mgName 12) (mYes) (mTup (mCons (mVar 7) (mCons (mOp2 dIx (mFrz 5) (mCallO F_w_take 0 (mCons (mC (.int 13)) (mNil)))) (mNil))))) (mgName 6)) (mSeq (mAsg (mOp2 dAdd (mFrz 6) (mLst (mCons (mTup (mCons (mC (.int 0)) (mCons (mVar 8) (mNil)))) (mCons (mTup (mCons (mC (.int 17)) (mCons (mVar 8) (mNil)))) (mCons (mTup (mCons (mC (.int 16)) (mCons (mVar 8) (mNil)))) (mCons (mTup (mCons (mC (.bl true)) (mCons (mVar 8) (mNil)))) (mCons (mTup (mCons (mC (.str "3")) (mCons (mVar 8) (mNil)))) (mCons (mTup (mCons (mOpL (fn2 dMax2) (mCons (mC (.int 1)) (mCons (mOp2 dSub (mVar 7) (mC (.int 1))) (mNil)))) (mCons (mVar 8) (mNil)))) (mCons (mLst (mCons (mVar 7) (mCons (mVar 8) (mNil)))) (mNil)))))))))) (mgName 6)) (mRet (mOp2 dAdd (mFrz 6) (mLst (mCons (mTup (mCons (mVar 7) (mNil))) (mCons (mOp2 dAdd (mVar 1) (mTup (mCons (mTup (mNil)) (mNil)))) (mCons (mVar 8) (mCons (mCallO F_w_odd 0 (mNil)) (mNil))))))))))))))))
def F_w_others : MO := fnO 13 (m_w_others)
section
variable {P : Program} {w : World} {K : PySem.W.Frag} {mg : Str → Option Value} {base : Heap}
theorem ok_w_others (T : Tx K mg) : FnOk P w K mg base (L2N.CX P w) 3 T.a_w_others T.d_w_others ["_law_box_here", "_law_web_here"] (spO K 2 (F_w_others)) := by
  refine fn_okO T.F_w_others sc_w_others fun cdv A outer s H E hr tk => ?_
  unfold m_w_others
  exact (db_cons (ds_asg (de_var 1) (dg_tup rfl (dgs_cons (dg_name (i := 7) sc_w_others.nd) (dgs_cons (dg_name (i := 8) sc_w_others.nd) (dgs_nil))))) (db_cons (ds_set (i := 2) sc_w_others.nd (de_callO 0 (ok_w_take T) (hr.mono (by omega)) T.g_w_take T.F_w_take.kp T.b_w_take tk (da_cons (de_add (de_callB call_len ok_len T.B.len (da_cons (de_var 8) (da_nil)) boot_len) (de_int)) (da_nil)) (len1 (cons_len nil_len)))) (db_cons (ds_asg (de_ix (de_add (de_var 8) (de_tup (da_cons (de_tup (da_cons (de_int) (da_cons (de_int) (da_nil)))) (da_nil)))) (de_var 2)) (dg_tup rfl (dgs_cons (dg_name (i := 9) sc_w_others.nd) (dgs_cons (dg_name (i := 10) sc_w_others.nd) (dgs_nil))))) (db_cons (ds_set (i := 3) sc_w_others.nd (de_ix (de_lst (da_cons (de_var 7) (da_cons (de_neg (de_int)) (da_cons (de_bl) (da_cons (de_non) (da_cons (de_str) (da_cons (de_tup (da_cons (de_int) (da_nil))) (da_cons (de_int) (da_cons (de_pow (de_int) (de_int)) (da_cons (de_var 9) (da_nil))))))))))) (de_callO 0 (ok_w_take T) (hr.mono (by omega)) T.g_w_take T.F_w_take.kp T.b_w_take tk (da_cons (de_int) (da_nil)) (len1 (cons_len nil_len))))) (db_cons (ds_set (i := 4) sc_w_others.nd (de_lst (da_cons (de_tup (da_cons (de_var 3) (da_cons (de_var 10) (da_nil)))) (da_cons (de_tup (da_cons (de_var 9) (da_cons (de_var 3) (da_nil)))) (da_cons (de_tup (da_cons (de_var 10) (da_cons (de_var 9) (da_nil)))) (da_cons (de_tup (da_cons (de_var 9) (da_cons (de_var 9) (da_nil)))) (da_cons (de_lst (da_cons (de_var 9) (da_cons (de_var 10) (da_nil)))) (da_cons (de_tup (da_cons (de_var 9) (da_nil))) (da_cons (de_tup (da_cons (de_var 9) (da_cons (de_var 10) (da_cons (de_int) (da_nil))))) (da_cons (de_var 3) (da_nil))))))))))) (db_cons (ds_set (i := 5) sc_w_others.nd (de_lc (own := [("_law_pair", 11)]) sc_w_others.nd (di_list (de_frz 4)) rfl (by decide) (by decide) (fun _ _ _ _ _ => dg_name (i := 11) sc_w_others.nd) (fun _ _ _ _ _ => de_add (de_add (de_sl (de_var 8) (do_none) (do_some (de_var 2))) (de_tup (da_cons (de_var 11) (da_nil)))) (de_sl (de_var 8) (do_some (de_add (de_var 2) (de_int))) (do_none))))) (db_cons (ds_set (i := 5) sc_w_others.nd (de_add (de_frz 5) (de_lst (da_cons (de_add (de_add (de_sl (de_var 8) (do_none) (do_some (de_var 2))) (de_sl (de_var 8) (do_some (de_var 2)) (do_some (de_add (de_var 2) (de_int))))) (de_sl (de_var 8) (do_some (de_var 2)) (do_none))) (da_cons (de_st (de_var 8) (do_none) (do_none)) (da_cons (de_add (de_sl (de_var 8) (do_none) (do_some (de_var 2))) (de_sl (de_var 8) (do_some (de_add (de_var 2) (de_int))) (do_none))) (da_cons (de_callTy call_list_of ok_list T.B.list (da_cons (de_var 8) (da_nil)) boot_list) (da_cons (de_non) (da_nil))))))))) (db_cons (ds_setLc (i := 6) (own := [("_law_turn", 12)]) sc_w_others.nd (di_rng1 T.B (da_cons (de_int) (da_nil))) rfl (by decide) (by decide) (fun _ _ _ _ _ => dg_name (i := 12) sc_w_others.nd) (fun _ _ _ _ _ => de_tup (da_cons (de_var 7) (da_cons (de_ix (de_frz 5) (de_callO 0 (ok_w_take T) (hr.mono (by omega)) T.g_w_take T.F_w_take.kp T.b_w_take takes0N (da_cons (de_int) (da_nil)) (len1 (cons_len nil_len)))) (da_nil)))) rfl) (db_cons (ds_set (i := 6) sc_w_others.nd (de_add (de_frz 6) (de_lst (da_cons (de_tup (da_cons (de_int) (da_cons (de_var 8) (da_nil)))) (da_cons (de_tup (da_cons (de_int) (da_cons (de_var 8) (da_nil)))) (da_cons (de_tup (da_cons (de_int) (da_cons (de_var 8) (da_nil)))) (da_cons (de_tup (da_cons (de_bl) (da_cons (de_var 8) (da_nil)))) (da_cons (de_tup (da_cons (de_str) (da_cons (de_var 8) (da_nil)))) (da_cons (de_tup (da_cons (de_callB (call_max2 rfl) ok_max2 T.B.max (da_cons (de_int) (da_cons (de_sub (de_var 7) (de_int)) (da_nil))) boot_max) (da_cons (de_var 8) (da_nil)))) (da_cons (de_lst (da_cons (de_var 7) (da_cons (de_var 8) (da_nil)))) (da_nil))))))))))) (db_one (ds_ret (de_add (de_frz 6) (de_lst (da_cons (de_tup (da_cons (de_var 7) (da_nil))) (da_cons (de_add (de_var 1) (de_tup (da_cons (de_tup (da_nil)) (da_nil)))) (da_cons (de_var 8) (da_cons (de_callO 0 (ok_w_odd T) (hr.mono (by omega)) T.g_w_odd T.F_w_odd.kp T.b_w_odd tk (da_nil) (len1 (nil_len))) (da_nil))))))))))))))))))
end
def m_is_web : MS := mSeq (mIfS (mOrT (mNotT (mT (mOpL (fn2 dIsi) (mCons (mVar 0) (mCons (mC (.raw (.ty "tuple"))) (mNil)))))) (mOrT (mT (mOp2 dNe (mOpL (fn1 dLen) (mCons (mVar 0) (mNil))) (mC (.int 2)))) (mNotT (mT (mCall F_is_between (mCons (mSlotIx 0 (mC (.int 0))) (mCons (mC (.int 1)) (mCons (mC (.int 16)) (mNil))))))))) (mRet (mC (.bl false))) (mNext)) (mSeq (mIfS (mOrT (mNotT (mT (mOpL (fn2 dIsi) (mCons (mSlotIx 0 (mC (.int 1))) (mCons (mC (.raw (.ty "tuple"))) (mNil)))))) (mNotT (mT (mOpL (fn1 dAll) (mCons (mLc [1] (mItT (mSlotIx 0 (mC (.int 1)))) (mgName 1) (mYes) (mCall F_is_pair (mCons (mVar 1) (mCons (mSlotIx 0 (mC (.int 0))) (mNil))))) (mNil)))))) (mRet (mC (.bl false))) (mNext)) (mRet (mCall F_are_rising (mCons (mSlotIx 0 (mC (.int 1))) (mNil)))))
def F_is_web : MF := fnM 2 (m_is_web)
section
variable {P : Program} {w : World} {K : PySem.W.Frag} {mg : Str → Option Value} {base : Heap}
theorem ok_is_web (T : Tx K mg) : FnOk P w K mg base (L2N.CX P w) 4 T.a_is_web T.d_is_web ["thing"] (spF K mg 1 (F_is_web)) := by
  refine fn_ok T.F_is_web sc_is_web fun cdv A outer s H E hr tk => ?_
  unfold m_is_web
  exact (db_cons (ds_if (dt_dw (dw_or (dt_not (dt_val (de_callB call_isi ok_isi T.B.isi (da_cons (de_var 0) (da_cons (de_bltn (v := .ty "tuple") rfl T.B.tuple boot_tuple rfl) (da_nil))) boot_isinstance))) (dw_or (dt_ne (hu64 hr) (de_callB call_len ok_len T.B.len (da_cons (de_var 0) (da_nil)) boot_len) (de_int)) (dw_or1 (dt_not (dt_val (de_call (ok_is_between T) (hr.mono (by omega)) T.g_is_between T.F_is_between.kp T.b_is_between tk (da_cons (de_slotIx 0 (de_int)) (da_cons (de_int) (da_cons (de_glob (d := .int 16) (v := .int 16) (u := .int 16 T.k_MOST_PLACES) rfl T.c_MOST_PLACES ⟨_, rfl⟩ (fun _ _ => by unfold Rep; rfl)) (da_nil)))) (cons_len (cons_len (cons_len nil_len)))))))))) (db_one (ds_ret (de_bl))) (db_nil)) (db_cons (ds_if (dt_dw (dw_or (dt_not (dt_val (de_callB call_isi ok_isi T.B.isi (da_cons (de_slotIx 0 (de_int)) (da_cons (de_bltn (v := .ty "tuple") rfl T.B.tuple boot_tuple rfl) (da_nil))) boot_isinstance))) (dw_or1 (dt_not (dt_val (de_callB (cr_all rfl) ok_all T.B.all (da_cons (de_lc (own := [("pair", 1)]) sc_is_web.nd (di_tup (de_slotIx 0 (de_int))) rfl (by decide) (by decide) (fun _ _ _ _ _ => dg_name (i := 1) sc_is_web.nd) (fun _ _ _ _ _ => de_call (ok_is_pair T) (hr.mono (by omega)) T.g_is_pair T.F_is_pair.kp T.b_is_pair takes0N (da_cons (de_var 1) (da_cons (de_slotIx 0 (de_int)) (da_nil))) (cons_len (cons_len nil_len)))) (da_nil)) boot_all)))))) (db_one (ds_ret (de_bl))) (db_nil)) (db_one (ds_ret (de_call (ok_are_rising T) (hr.mono (by omega)) T.g_are_rising T.F_are_rising.kp T.b_are_rising tk (da_cons (de_slotIx 0 (de_int)) (da_nil)) (cons_len nil_len))))))
end
def m_near : MS := mSeq (mDrop (mCall F_look_at_place (mCons (mVar 0) (mCons (mVar 1) (mNil))))) (mRet (mCall F_near_in (mCons (mVar 0) (mCons (mVar 1) (mNil)))))
def F_near : MF := fnM 2 (m_near)
section
variable {P : Program} {w : World} {K : PySem.W.Frag} {mg : Str → Option Value} {base : Heap}
theorem ok_near (T : Tx K mg) : FnOk P w K mg base (L2N.CX P w) 4 T.a_near T.d_near ["web", "place"] (spF K mg 2 (F_near)) := by
  refine fn_ok T.F_near sc_near fun cdv A outer s H E hr tk => ?_
  unfold m_near
  exact (db_cons (ds_expr (de_call (ok_look_at_place T) (hr.mono (by omega)) T.g_look_at_place T.F_look_at_place.kp T.b_look_at_place tk (da_cons (de_var 0) (da_cons (de_var 1) (da_nil))) (cons_len (cons_len nil_len)))) (db_one (ds_ret (de_call (ok_near_in T) (hr.mono (by omega)) T.g_near_in T.F_near_in.kp T.b_near_in tk (da_cons (de_var 0) (da_cons (de_var 1) (da_nil))) (cons_len (cons_len nil_len))))))
end
def m_shared : MS := mSeq (mDrop (mCall F_look_at_place (mCons (mVar 0) (mCons (mVar 1) (mNil))))) (mSeq (mDrop (mCall F_look_at_place (mCons (mVar 0) (mCons (mVar 2) (mNil))))) (mRet (mCall F_shared_in (mCons (mVar 0) (mCons (mVar 1) (mCons (mVar 2) (mNil)))))))
def F_shared : MF := fnM 3 (m_shared)
section
variable {P : Program} {w : World} {K : PySem.W.Frag} {mg : Str → Option Value} {base : Heap}
theorem ok_shared (T : Tx K mg) : FnOk P w K mg base (L2N.CX P w) 4 T.a_shared T.d_shared ["web", "one", "other"] (spF K mg 3 (F_shared)) := by
  refine fn_ok T.F_shared sc_shared fun cdv A outer s H E hr tk => ?_
  unfold m_shared
  exact (db_cons (ds_expr (de_call (ok_look_at_place T) (hr.mono (by omega)) T.g_look_at_place T.F_look_at_place.kp T.b_look_at_place tk (da_cons (de_var 0) (da_cons (de_var 1) (da_nil))) (cons_len (cons_len nil_len)))) (db_cons (ds_expr (de_call (ok_look_at_place T) (hr.mono (by omega)) T.g_look_at_place T.F_look_at_place.kp T.b_look_at_place tk (da_cons (de_var 0) (da_cons (de_var 2) (da_nil))) (cons_len (cons_len nil_len)))) (db_one (ds_ret (de_call (ok_shared_in T) (hr.mono (by omega)) T.g_shared_in T.F_shared_in.kp T.b_shared_in tk (da_cons (de_var 0) (da_cons (de_var 1) (da_cons (de_var 2) (da_nil)))) (cons_len (cons_len (cons_len nil_len))))))))
end
def m_w_same (Fs : MF) : MS := mSeq (mIfS (mT (mOpL (fn2 dIsiT) (mCons (mVar 1) (mCons (mTup (mCons (mC (.raw (.ty "tuple"))) (mCons (mC (.raw (.ty "list"))) (mNil)))) (mNil))))) (mSeq (mIfS (mOrT (mT (mOp2 dNe (mOpL (fn2 dIsi) (mCons (mVar 0) (mCons (mC (.raw (.ty "tuple"))) (mNil)))) (mOpL (fn2 dIsi) (mCons (mVar 1) (mCons (mC (.raw (.ty "tuple"))) (mNil)))))) (mT (mOp2 dNe (mOpL (fn2 dIsi) (mCons (mVar 0) (mCons (mC (.raw (.ty "list"))) (mNil)))) (mOpL (fn2 dIsi) (mCons (mVar 1) (mCons (mC (.raw (.ty "list"))) (mNil))))))) (mRet (mC (.bl false))) (mNext)) (mRet (mAndV (mOp2 dEq (mOpL (fn1 dLen) (mCons (mVar 0) (mNil))) (mOpL (fn1 dLen) (mCons (mVar 1) (mNil)))) (mOpL (fn1 dAll) (mCons (mLc [2, 3] (mZip (mCons (mVar 0) (mCons (mVar 1) (mNil)))) (mgTup 2 (mgCons (mgName 2) (mgCons (mgName 3) (mgNil)))) (mYes) (mCall Fs (mCons (mVar 2) (mCons (mVar 3) (mNil))))) (mNil)))))) (mNext)) (mRet (mAndV (mOp2 dEq (mVar 0) (mVar 1)) (mOp2 dEq (mOpL (fn2 dIsi) (mCons (mVar 0) (mCons (mC (.raw (.ty "bool"))) (mNil)))) (mOpL (fn2 dIsi) (mCons (mVar 1) (mCons (mC (.raw (.ty "bool"))) (mNil)))))))
def F_w_same : Nat → MF
  | 0 => fun _ => .err
  | k + 1 => fnM 4 (m_w_same (F_w_same k))
section
variable {P : Program} {w : World} {K : PySem.W.Frag} {mg : Str → Option Value} {base : Heap}
theorem ok_w_same (T : Tx K mg) : ∀ k : Nat, FnOk P w K mg base (L2N.CX P w) (1 + k) T.a_w_same T.d_w_same ["_law_found", "_law_due"] (spF K mg 2 (F_w_same k))
  | 0 => ⟨fun vs H Q E h => by obtain ⟨_, _, _, _, _, z⟩ := h; exact z.elim, fun A outer s H args us vs Q E _ _ _ _ h => by obtain ⟨_, _, _, _, _, z⟩ := h; exact z.elim⟩
  | k + 1 => by
    have ih := ok_w_same T k
    generalize hFs : F_w_same k = Fs at ih
    show FnOk P w K mg base (L2N.CX P w) (1 + k + 1) T.a_w_same T.d_w_same ["_law_found", "_law_due"] (spF K mg 2 (fnM 4 (m_w_same (F_w_same k))))
    rw [hFs]
    refine fn_ok T.F_w_same sc_w_same fun cdv A outer s H E hr tk => ?_
    unfold m_w_same
    exact (db_cons (ds_if (dt_val (de_callB call_isiA ok_isiA T.B.isi (da_cons (de_var 1) (da_cons (de_tup (da_cons (de_bltn (v := .ty "tuple") rfl T.B.tuple boot_tuple rfl) (da_cons (de_bltn (v := .ty "list") rfl T.B.list boot_list rfl) (da_nil)))) (da_nil))) boot_isinstance)) (db_cons (ds_if (dt_dw (dw_or (dt_ne (hu64 hr) (de_callB call_isi ok_isi T.B.isi (da_cons (de_var 0) (da_cons (de_bltn (v := .ty "tuple") rfl T.B.tuple boot_tuple rfl) (da_nil))) boot_isinstance) (de_callB call_isi ok_isi T.B.isi (da_cons (de_var 1) (da_cons (de_bltn (v := .ty "tuple") rfl T.B.tuple boot_tuple rfl) (da_nil))) boot_isinstance)) (dw_or1 (dt_ne (hu64 hr) (de_callB call_isi ok_isi T.B.isi (da_cons (de_var 0) (da_cons (de_bltn (v := .ty "list") rfl T.B.list boot_list rfl) (da_nil))) boot_isinstance) (de_callB call_isi ok_isi T.B.isi (da_cons (de_var 1) (da_cons (de_bltn (v := .ty "list") rfl T.B.list boot_list rfl) (da_nil))) boot_isinstance))))) (db_one (ds_ret (de_bl))) (db_nil)) (db_one (ds_ret (de_andV (de_eq (hu64 hr) (de_callB call_len ok_len T.B.len (da_cons (de_var 0) (da_nil)) boot_len) (de_callB call_len ok_len T.B.len (da_cons (de_var 1) (da_nil)) boot_len)) (de_one (de_callB (cr_all rfl) ok_all T.B.all (da_cons (de_lc (own := [("_law_one", 2), ("_law_other", 3)]) sc_w_same.nd (di_zip T.B (da_cons (de_var 0) (da_cons (de_var 1) (da_nil)))) rfl (by decide) (by decide) (fun _ _ _ _ _ => dg_tup rfl (dgs_cons (dg_name (i := 2) sc_w_same.nd) (dgs_cons (dg_name (i := 3) sc_w_same.nd) (dgs_nil)))) (fun _ _ _ _ _ => de_call ih (hr.mono (by omega)) T.g_w_same T.F_w_same.kp T.b_w_same takes0N (da_cons (de_var 2) (da_cons (de_var 3) (da_nil))) (cons_len (cons_len nil_len)))) (da_nil)) boot_all)))))) (db_nil)) (db_one (ds_ret (de_andV (de_eq (hu64 hr) (de_var 0) (de_var 1)) (de_one (de_eq (hu64 hr) (de_callB call_isi ok_isi T.B.isi (da_cons (de_var 0) (da_cons (de_bltn (v := .ty "bool") rfl T.B.bool boot_bool rfl) (da_nil))) boot_isinstance) (de_callB call_isi ok_isi T.B.isi (da_cons (de_var 1) (da_cons (de_bltn (v := .ty "bool") rfl T.B.bool boot_bool rfl) (da_nil))) boot_isinstance)))))))
end
def m_w_asked : MS := mTry 4 names (mSeq (mIfS (mT (mOp2 dEq (mVar 0) (mC (.int 0)))) (mRet (mCall F_near (mCons (mVar 1) (mCons (mVar 2) (mNil))))) (mNext)) (mRet (mCall F_shared (mCons (mVar 1) (mCons (mVar 2) (mCons (mVar 3) (mNil))))))) (mKindR kd)
def F_w_asked : MF := fnM 5 (m_w_asked)
section
variable {P : Program} {w : World} {K : PySem.W.Frag} {mg : Str → Option Value} {base : Heap}
theorem ok_w_asked (T : Tx K mg) : FnOk P w K mg base (L2N.CX P w) 5 T.a_w_asked T.d_w_asked ["_law_way", "_law_web_here", "_law_one", "_law_other"] (spF K mg 4 (F_w_asked)) := by
  refine fn_ok T.F_w_asked sc_w_asked fun cdv A outer s H E hr tk => ?_
  unfold m_w_asked
  exact (db_one (ds_try (i := 4) sc_w_asked.nd tk ⟨rfl, by decide, .inl T.l_LikeError⟩ T.caught (fun W2 pn xe tk2 po2 => db_cons (ds_if (dt_eq (hu64 hr) (de_var 0) (de_int)) (db_one (ds_ret (de_call (ok_near T) (hr.mono (by omega)) T.g_near T.F_near.kp T.b_near tk2 (da_cons (de_var 1) (da_cons (de_var 2) (da_nil))) (cons_len (cons_len nil_len))))) (db_nil)) (db_one (ds_ret (de_call (ok_shared T) (hr.mono (by omega)) T.g_shared T.F_shared.kp T.b_shared tk2 (da_cons (de_var 1) (da_cons (de_var 2) (da_cons (de_var 3) (da_nil)))) (cons_len (cons_len (cons_len nil_len))))))) (dsu_kindR (i := 4) (ok_w_kind T) (hr.mono (by omega)) T.g_w_kind T.F_w_kind.kp T.b_w_kind)))
end
def m_law : MS := mSeq (mFor (mRng1 (mCons (mOpL (fn2 dMax2) (mCons (mC (.int 1)) (mCons (mOpL (fn2 dMin2) (mCons (mOpL (fn1 dLen) (mCons (mVar 0) (mNil))) (mCons (mC (.int 4)) (mNil)))) (mNil)))) (mNil))) (mgName 1) (mSeq (mAsg (mCall F_w_box (mCons (mVar 0) (mCons (mVar 1) (mNil)))) (mgName 2)) (mSeq (mAsg (mCallO F_w_web 2 (mCons (mC (.int 16)) (mNil))) (mgName 3)) (mSeq (mFor (mItL (mOp2 dAdd (mLst (mCons (mVar 3) (mNil))) (mCallO F_w_others 2 (mCons (mVar 3) (mNil))))) (mgName 4) (mIfS (mNotT (mT (mCall (F_w_same 4) (mCons (mCall F_is_web (mCons (mVar 4) (mNil))) (mCons (mCall F_w_is_web (mCons (mVar 4) (mNil))) (mNil)))))) (mRet (mC (.bl false))) (mNext))) (mSeq (mAsg (mLc [11] (mRng1 (mCons (mSlotIx 3 (mC (.int 0))) (mNil))) (mgName 11) (mYes) (mCall F_w_near (mCons (mVar 3) (mCons (mVar 11) (mNil))))) (mgName 5)) (mSeq (mFor (mRng1 (mCons (mSlotIx 3 (mC (.int 0))) (mNil))) (mgName 6) (mSeq (mIfS (mNotT (mT (mCall (F_w_same 4) (mCons (mCall F_w_asked (mCons (mC (.int 0)) (mCons (mVar 3) (mCons (mVar 6) (mCons (mC (.int 0)) (mNil)))))) (mCons (mOpL (fn1 dTuple) (mCons (mOp2 dIx (mFrz 5) (mVar 6)) (mNil))) (mNil)))))) (mRet (mC (.bl false))) (mNext)) (mSeq (mAsg (mCallO F_w_take 2 (mCons (mSlotIx 3 (mC (.int 0))) (mNil))) (mgName 9)) (mSeq (mAsg (mOpL (fn1 dTuple) (mCons (mLc [11] (mItL (mOp2 dIx (mFrz 5) (mVar 6))) (mgName 11) (mT (mOp2 dIn (mVar 11) (mOp2 dIx (mFrz 5) (mVar 9)))) (mVar 11)) (mNil))) (mgName 10)) (mIfS (mOrT (mNotT (mT (mCall (F_w_same 4) (mCons (mCall F_w_asked (mCons (mC (.int 1)) (mCons (mVar 3) (mCons (mVar 6) (mCons (mVar 9) (mNil)))))) (mCons (mVar 10) (mNil)))))) (mNotT (mT (mCall (F_w_same 4) (mCons (mCall F_w_asked (mCons (mC (.int 1)) (mCons (mVar 3) (mCons (mVar 9) (mCons (mVar 6) (mNil)))))) (mCons (mVar 10) (mNil))))))) (mRet (mC (.bl false))) (mNext)))))) (mSeq (mAsg (mOp2 dIx (mLst (mCons (mSlotIx 3 (mC (.int 0))) (mCons (mOp1 dNeg (mC (.int 1))) (mCons (mC (.bl true)) (mCons (mC .non) (mCons (mC (.str "0")) (mCons (mTup (mCons (mC (.int 0)) (mNil))) (mCons (mOp2 dPow (mC (.int 10)) (mC (.int 39))) (mNil))))))))) (mCallO F_w_take 2 (mCons (mC (.int 7)) (mNil)))) (mgName 7)) (mSeq (mAsg (mLst (mCons (mCall F_w_asked (mCons (mC (.int 0)) (mCons (mVar 3) (mCons (mVar 7) (mCons (mC (.int 0)) (mNil)))))) (mCons (mCall F_w_asked (mCons (mC (.int 1)) (mCons (mVar 3) (mCons (mVar 7) (mCons (mC (.int 0)) (mNil)))))) (mCons (mCall F_w_asked (mCons (mC (.int 1)) (mCons (mVar 3) (mCons (mC (.int 0)) (mCons (mVar 7) (mNil)))))) (mNil))))) (mgName 8)) (mIfS (mT (mOp2 dNe (mFrz 8) (mOp2 dMul (mLst (mCons (mC (.str "! place")) (mNil))) (mC (.int 3))))) (mRet (mC (.bl false))) (mNext)))))))))) (mRet (mC (.bl true)))
def l_law_1 : MS := mIfS (mNotT (mT (mCall (F_w_same 4) (mCons (mCall F_is_web (mCons (mVar 4) (mNil))) (mCons (mCall F_w_is_web (mCons (mVar 4) (mNil))) (mNil)))))) (mRet (mC (.bl false))) (mNext)
def l_law_2 : MS := mSeq (mIfS (mNotT (mT (mCall (F_w_same 4) (mCons (mCall F_w_asked (mCons (mC (.int 0)) (mCons (mVar 3) (mCons (mVar 6) (mCons (mC (.int 0)) (mNil)))))) (mCons (mOpL (fn1 dTuple) (mCons (mOp2 dIx (mFrz 5) (mVar 6)) (mNil))) (mNil)))))) (mRet (mC (.bl false))) (mNext)) (mSeq (mAsg (mCallO F_w_take 2 (mCons (mSlotIx 3 (mC (.int 0))) (mNil))) (mgName 9)) (mSeq (mAsg (mOpL (fn1 dTuple) (mCons (mLc [11] (mItL (mOp2 dIx (mFrz 5) (mVar 6))) (mgName 11) (mT (mOp2 dIn (mVar 11) (mOp2 dIx (mFrz 5) (mVar 9)))) (mVar 11)) (mNil))) (mgName 10)) (mIfS (mOrT (mNotT (mT (mCall (F_w_same 4) (mCons (mCall F_w_asked (mCons (mC (.int 1)) (mCons (mVar 3) (mCons (mVar 6) (mCons (mVar 9) (mNil)))))) (mCons (mVar 10) (mNil)))))) (mNotT (mT (mCall (F_w_same 4) (mCons (mCall F_w_asked (mCons (mC (.int 1)) (mCons (mVar 3) (mCons (mVar 9) (mCons (mVar 6) (mNil)))))) (mCons (mVar 10) (mNil))))))) (mRet (mC (.bl false))) (mNext))))
def b_turn : MS := mSeq (mAsg (mCall F_w_box (mCons (mVar 0) (mCons (mVar 1) (mNil)))) (mgName 2)) (mSeq (mAsg (mCallO F_w_web 2 (mCons (mC (.int 16)) (mNil))) (mgName 3)) (mSeq (mFor (mItL (mOp2 dAdd (mLst (mCons (mVar 3) (mNil))) (mCallO F_w_others 2 (mCons (mVar 3) (mNil))))) (mgName 4) (mIfS (mNotT (mT (mCall (F_w_same 4) (mCons (mCall F_is_web (mCons (mVar 4) (mNil))) (mCons (mCall F_w_is_web (mCons (mVar 4) (mNil))) (mNil)))))) (mRet (mC (.bl false))) (mNext))) (mSeq (mAsg (mLc [11] (mRng1 (mCons (mSlotIx 3 (mC (.int 0))) (mNil))) (mgName 11) (mYes) (mCall F_w_near (mCons (mVar 3) (mCons (mVar 11) (mNil))))) (mgName 5)) (mSeq (mFor (mRng1 (mCons (mSlotIx 3 (mC (.int 0))) (mNil))) (mgName 6) (mSeq (mIfS (mNotT (mT (mCall (F_w_same 4) (mCons (mCall F_w_asked (mCons (mC (.int 0)) (mCons (mVar 3) (mCons (mVar 6) (mCons (mC (.int 0)) (mNil)))))) (mCons (mOpL (fn1 dTuple) (mCons (mOp2 dIx (mFrz 5) (mVar 6)) (mNil))) (mNil)))))) (mRet (mC (.bl false))) (mNext)) (mSeq (mAsg (mCallO F_w_take 2 (mCons (mSlotIx 3 (mC (.int 0))) (mNil))) (mgName 9)) (mSeq (mAsg (mOpL (fn1 dTuple) (mCons (mLc [11] (mItL (mOp2 dIx (mFrz 5) (mVar 6))) (mgName 11) (mT (mOp2 dIn (mVar 11) (mOp2 dIx (mFrz 5) (mVar 9)))) (mVar 11)) (mNil))) (mgName 10)) (mIfS (mOrT (mNotT (mT (mCall (F_w_same 4) (mCons (mCall F_w_asked (mCons (mC (.int 1)) (mCons (mVar 3) (mCons (mVar 6) (mCons (mVar 9) (mNil)))))) (mCons (mVar 10) (mNil)))))) (mNotT (mT (mCall (F_w_same 4) (mCons (mCall F_w_asked (mCons (mC (.int 1)) (mCons (mVar 3) (mCons (mVar 9) (mCons (mVar 6) (mNil)))))) (mCons (mVar 10) (mNil))))))) (mRet (mC (.bl false))) (mNext)))))) (mSeq (mAsg (mOp2 dIx (mLst (mCons (mSlotIx 3 (mC (.int 0))) (mCons (mOp1 dNeg (mC (.int 1))) (mCons (mC (.bl true)) (mCons (mC .non) (mCons (mC (.str "0")) (mCons (mTup (mCons (mC (.int 0)) (mNil))) (mCons (mOp2 dPow (mC (.int 10)) (mC (.int 39))) (mNil))))))))) (mCallO F_w_take 2 (mCons (mC (.int 7)) (mNil)))) (mgName 7)) (mSeq (mAsg (mLst (mCons (mCall F_w_asked (mCons (mC (.int 0)) (mCons (mVar 3) (mCons (mVar 7) (mCons (mC (.int 0)) (mNil)))))) (mCons (mCall F_w_asked (mCons (mC (.int 1)) (mCons (mVar 3) (mCons (mVar 7) (mCons (mC (.int 0)) (mNil)))))) (mCons (mCall F_w_asked (mCons (mC (.int 1)) (mCons (mVar 3) (mCons (mC (.int 0)) (mCons (mVar 7) (mNil)))))) (mNil))))) (mgName 8)) (mIfS (mT (mOp2 dNe (mFrz 8) (mOp2 dMul (mLst (mCons (mC (.str "! place")) (mNil))) (mC (.int 3))))) (mRet (mC (.bl false))) (mNext))))))))
def F_law : MF := fnM 12 (m_law)
section
variable {P : Program} {w : World} {K : PySem.W.Frag} {mg : Str → Option Value} {base : Heap}
theorem ok_law (T : Tx K mg) : FnOk P w K mg base (L2N.CX P w) 6 T.a_law T.d_law ["_law_script"] (spF K mg 1 (F_law)) := by
  refine fn_ok T.F_law sc_law fun cdv A outer s H E hr tk => ?_
  unfold m_law
  exact (db_cons (ds_for (passes_of rfl) rfl (di_rng1 T.B (da_cons (de_callB (call_max2 rfl) ok_max2 T.B.max (da_cons (de_int) (da_cons (de_callB (call_min2 rfl) ok_min2 T.B.min (da_cons (de_callB call_len ok_len T.B.len (da_cons (de_var 0) (da_nil)) boot_len) (da_cons (de_int) (da_nil))) boot_min) (da_nil))) boot_max) (da_nil))) (dg_name (i := 1) sc_law.nd) (db_cons (ds_set (i := 2) sc_law.nd (de_call (ok_w_box T) (hr.mono (by omega)) T.g_w_box T.F_w_box.kp T.b_w_box tk (da_cons (de_var 0) (da_cons (de_var 1) (da_nil))) (cons_len (cons_len nil_len)))) (db_cons (ds_set (i := 3) sc_law.nd (de_callO 2 (ok_w_web T) (hr.mono (by omega)) T.g_w_web T.F_w_web.kp T.b_w_web tk (da_cons (de_int) (da_nil)) (len1 (cons_len nil_len)))) (db_cons (ds_for (passes_of rfl) rfl (di_list (de_add (de_lst (da_cons (de_var 3) (da_nil))) (de_callO 2 (ok_w_others T) (hr.mono (by omega)) T.g_w_others T.F_w_others.kp T.b_w_others tk (da_cons (de_var 3) (da_nil)) (len1 (cons_len nil_len))))) (dg_name (i := 4) sc_law.nd) (db_one (ds_if (dt_not (dt_val (de_call (ok_w_same T 4) (hr.mono (by omega)) T.g_w_same T.F_w_same.kp T.b_w_same tk (da_cons (de_call (ok_is_web T) (hr.mono (by omega)) T.g_is_web T.F_is_web.kp T.b_is_web tk (da_cons (de_var 4) (da_nil)) (cons_len nil_len)) (da_cons (de_call (ok_w_is_web T) (hr.mono (by omega)) T.g_w_is_web T.F_w_is_web.kp T.b_w_is_web tk (da_cons (de_var 4) (da_nil)) (cons_len nil_len)) (da_nil))) (cons_len (cons_len nil_len))))) (db_one (ds_ret (de_bl))) (db_nil)))) (db_cons (ds_set (i := 5) sc_law.nd (de_lc (own := [("_law_place", 11)]) sc_law.nd (di_rng1 T.B (da_cons (de_slotIx 3 (de_int)) (da_nil))) rfl (by decide) (by decide) (fun _ _ _ _ _ => dg_name (i := 11) sc_law.nd) (fun _ _ _ _ _ => de_call (ok_w_near T) (hr.mono (by omega)) T.g_w_near T.F_w_near.kp T.b_w_near takes0N (da_cons (de_var 3) (da_cons (de_var 11) (da_nil))) (cons_len (cons_len nil_len))))) (db_cons (ds_for (passes_of rfl) rfl (di_rng1 T.B (da_cons (de_slotIx 3 (de_int)) (da_nil))) (dg_name (i := 6) sc_law.nd) (db_cons (ds_if (dt_not (dt_val (de_call (ok_w_same T 4) (hr.mono (by omega)) T.g_w_same T.F_w_same.kp T.b_w_same tk (da_cons (de_call (ok_w_asked T) (hr.mono (by omega)) T.g_w_asked T.F_w_asked.kp T.b_w_asked tk (da_cons (de_int) (da_cons (de_var 3) (da_cons (de_var 6) (da_cons (de_int) (da_nil))))) (cons_len (cons_len (cons_len (cons_len nil_len))))) (da_cons (de_callTy call_tuple_of ok_tuple T.B.tuple (da_cons (de_ix (de_frz 5) (de_var 6)) (da_nil)) boot_tuple) (da_nil))) (cons_len (cons_len nil_len))))) (db_one (ds_ret (de_bl))) (db_nil)) (db_cons (ds_set (i := 9) sc_law.nd (de_callO 2 (ok_w_take T) (hr.mono (by omega)) T.g_w_take T.F_w_take.kp T.b_w_take tk (da_cons (de_slotIx 3 (de_int)) (da_nil)) (len1 (cons_len nil_len)))) (db_cons (ds_set (i := 10) sc_law.nd (de_callTy call_tuple_of ok_tuple T.B.tuple (da_cons (de_lcIf (own := [("_law_place", 11)]) sc_law.nd (di_list (de_ix (de_frz 5) (de_var 6))) rfl (by decide) (by decide) (fun _ _ _ _ _ => dg_name (i := 11) sc_law.nd) (fun _ _ _ _ _ => dt_in (hu65 hr) (de_var 11) (de_ix (de_frz 5) (de_var 9))) (fun _ _ _ _ _ => de_var 11)) (da_nil)) boot_tuple)) (db_one (ds_if (dt_dw (dw_or (dt_not (dt_val (de_call (ok_w_same T 4) (hr.mono (by omega)) T.g_w_same T.F_w_same.kp T.b_w_same tk (da_cons (de_call (ok_w_asked T) (hr.mono (by omega)) T.g_w_asked T.F_w_asked.kp T.b_w_asked tk (da_cons (de_int) (da_cons (de_var 3) (da_cons (de_var 6) (da_cons (de_var 9) (da_nil))))) (cons_len (cons_len (cons_len (cons_len nil_len))))) (da_cons (de_var 10) (da_nil))) (cons_len (cons_len nil_len))))) (dw_or1 (dt_not (dt_val (de_call (ok_w_same T 4) (hr.mono (by omega)) T.g_w_same T.F_w_same.kp T.b_w_same tk (da_cons (de_call (ok_w_asked T) (hr.mono (by omega)) T.g_w_asked T.F_w_asked.kp T.b_w_asked tk (da_cons (de_int) (da_cons (de_var 3) (da_cons (de_var 9) (da_cons (de_var 6) (da_nil))))) (cons_len (cons_len (cons_len (cons_len nil_len))))) (da_cons (de_var 10) (da_nil))) (cons_len (cons_len nil_len)))))))) (db_one (ds_ret (de_bl))) (db_nil))))))) (db_cons (ds_set (i := 7) sc_law.nd (de_ix (de_lst (da_cons (de_slotIx 3 (de_int)) (da_cons (de_neg (de_int)) (da_cons (de_bl) (da_cons (de_non) (da_cons (de_str) (da_cons (de_tup (da_cons (de_int) (da_nil))) (da_cons (de_pow (de_int) (de_int)) (da_nil))))))))) (de_callO 2 (ok_w_take T) (hr.mono (by omega)) T.g_w_take T.F_w_take.kp T.b_w_take tk (da_cons (de_int) (da_nil)) (len1 (cons_len nil_len))))) (db_cons (ds_set (i := 8) sc_law.nd (de_lst (da_cons (de_call (ok_w_asked T) (hr.mono (by omega)) T.g_w_asked T.F_w_asked.kp T.b_w_asked tk (da_cons (de_int) (da_cons (de_var 3) (da_cons (de_var 7) (da_cons (de_int) (da_nil))))) (cons_len (cons_len (cons_len (cons_len nil_len))))) (da_cons (de_call (ok_w_asked T) (hr.mono (by omega)) T.g_w_asked T.F_w_asked.kp T.b_w_asked tk (da_cons (de_int) (da_cons (de_var 3) (da_cons (de_var 7) (da_cons (de_int) (da_nil))))) (cons_len (cons_len (cons_len (cons_len nil_len))))) (da_cons (de_call (ok_w_asked T) (hr.mono (by omega)) T.g_w_asked T.F_w_asked.kp T.b_w_asked tk (da_cons (de_int) (da_cons (de_var 3) (da_cons (de_int) (da_cons (de_var 7) (da_nil))))) (cons_len (cons_len (cons_len (cons_len nil_len))))) (da_nil)))))) (db_one (ds_if (dt_ne (hu64 hr) (de_frz 8) (de_mul (de_lst (da_cons (de_str) (da_nil))) (de_int))) (db_one (ds_ret (de_bl))) (db_nil))))))))))) (db_one (ds_ret (de_bl))))
end
end
theorem all_mk {l : PySem.W.OpenLaw} {w : World} {K : PySem.W.Frag} {h : Heap} {mg : Str → Option Value} {fa : Addr} (X : K.In h) (G : h.Ns mainGlobals mg) (hfa : mg "law" = some (.ref fa))
    {f_is_whole : Addr} {od_is_whole an_is_whole : Option Addr} {sl_is_whole : Array (Option Value)} {oc_is_whole kV_is_whole dc_is_whole pm_is_whole cd_is_whole ct_is_whole : Value}
    {f_are_rising : Addr} {od_are_rising an_are_rising : Option Addr} {sl_are_rising : Array (Option Value)} {oc_are_rising kV_are_rising dc_are_rising pm_are_rising cd_are_rising ct_are_rising : Value}
    {f_near_rows : Addr} {od_near_rows an_near_rows : Option Addr} {sl_near_rows : Array (Option Value)} {oc_near_rows kV_near_rows dc_near_rows pm_near_rows cd_near_rows ct_near_rows : Value}
    {f_w_cell : Addr} {od_w_cell an_w_cell : Option Addr} {sl_w_cell : Array (Option Value)} {oc_w_cell kV_w_cell dc_w_cell pm_w_cell cd_w_cell ct_w_cell : Value}
    {f_w_take : Addr} {od_w_take an_w_take : Option Addr} {sl_w_take : Array (Option Value)} {oc_w_take kV_w_take dc_w_take pm_w_take cd_w_take ct_w_take : Value}
    {f_w_whole : Addr} {od_w_whole an_w_whole : Option Addr} {sl_w_whole : Array (Option Value)} {oc_w_whole kV_w_whole dc_w_whole pm_w_whole cd_w_whole ct_w_whole : Value}
    {f_w_kind : Addr} {od_w_kind an_w_kind : Option Addr} {sl_w_kind : Array (Option Value)} {oc_w_kind kV_w_kind dc_w_kind pm_w_kind cd_w_kind ct_w_kind : Value}
    {f_w_tied : Addr} {od_w_tied an_w_tied : Option Addr} {sl_w_tied : Array (Option Value)} {oc_w_tied kV_w_tied dc_w_tied pm_w_tied cd_w_tied ct_w_tied : Value}
    {f_w_known : Addr} {od_w_known an_w_known : Option Addr} {sl_w_known : Array (Option Value)} {oc_w_known kV_w_known dc_w_known pm_w_known cd_w_known ct_w_known : Value}
    {f_is_between : Addr} {od_is_between an_is_between : Option Addr} {sl_is_between : Array (Option Value)} {oc_is_between kV_is_between dc_is_between pm_is_between cd_is_between ct_is_between : Value}
    {f_near_in : Addr} {od_near_in an_near_in : Option Addr} {sl_near_in : Array (Option Value)} {oc_near_in kV_near_in dc_near_in pm_near_in cd_near_in ct_near_in : Value}
    {f_shared_in : Addr} {od_shared_in an_shared_in : Option Addr} {sl_shared_in : Array (Option Value)} {oc_shared_in kV_shared_in dc_shared_in pm_shared_in cd_shared_in ct_shared_in : Value}
    {f_w_box : Addr} {od_w_box an_w_box : Option Addr} {sl_w_box : Array (Option Value)} {oc_w_box kV_w_box dc_w_box pm_w_box cd_w_box ct_w_box : Value}
    {f_w_odd : Addr} {od_w_odd an_w_odd : Option Addr} {sl_w_odd : Array (Option Value)} {oc_w_odd kV_w_odd dc_w_odd pm_w_odd cd_w_odd ct_w_odd : Value}
    {f_w_near : Addr} {od_w_near an_w_near : Option Addr} {sl_w_near : Array (Option Value)} {oc_w_near kV_w_near dc_w_near pm_w_near cd_w_near ct_w_near : Value}
    {f_w_order : Addr} {od_w_order an_w_order : Option Addr} {sl_w_order : Array (Option Value)} {oc_w_order kV_w_order dc_w_order pm_w_order cd_w_order ct_w_order : Value}
    {f_w_is_web : Addr} {od_w_is_web an_w_is_web : Option Addr} {sl_w_is_web : Array (Option Value)} {oc_w_is_web kV_w_is_web dc_w_is_web pm_w_is_web cd_w_is_web ct_w_is_web : Value}
    {f_is_pair : Addr} {od_is_pair an_is_pair : Option Addr} {sl_is_pair : Array (Option Value)} {oc_is_pair kV_is_pair dc_is_pair pm_is_pair cd_is_pair ct_is_pair : Value}
    {f_look_at_place : Addr} {od_look_at_place an_look_at_place : Option Addr} {sl_look_at_place : Array (Option Value)} {oc_look_at_place kV_look_at_place dc_look_at_place pm_look_at_place cd_look_at_place ct_look_at_place : Value}
    {f_w_web : Addr} {od_w_web an_w_web : Option Addr} {sl_w_web : Array (Option Value)} {oc_w_web kV_w_web dc_w_web pm_w_web cd_w_web ct_w_web : Value}
    {f_w_others : Addr} {od_w_others an_w_others : Option Addr} {sl_w_others : Array (Option Value)} {oc_w_others kV_w_others dc_w_others pm_w_others cd_w_others ct_w_others : Value}
    {f_is_web : Addr} {od_is_web an_is_web : Option Addr} {sl_is_web : Array (Option Value)} {oc_is_web kV_is_web dc_is_web pm_is_web cd_is_web ct_is_web : Value}
    {f_near : Addr} {od_near an_near : Option Addr} {sl_near : Array (Option Value)} {oc_near kV_near dc_near pm_near cd_near ct_near : Value}
    {f_shared : Addr} {od_shared an_shared : Option Addr} {sl_shared : Array (Option Value)} {oc_shared kV_shared dc_shared pm_shared cd_shared ct_shared : Value}
    {f_w_same : Addr} {od_w_same an_w_same : Option Addr} {sl_w_same : Array (Option Value)} {oc_w_same kV_w_same dc_w_same pm_w_same cd_w_same ct_w_same : Value}
    {f_w_asked : Addr} {od_w_asked an_w_asked : Option Addr} {sl_w_asked : Array (Option Value)} {oc_w_asked kV_w_asked dc_w_asked pm_w_asked cd_w_asked ct_w_asked : Value}
    {f_law : Addr} {od_law an_law : Option Addr} {sl_law : Array (Option Value)} {oc_law kV_law dc_law pm_law cd_law ct_law : Value}
    {k_MOST_PLACES : Tok}
    {A_LikeError : Addr}
    {A_NoPlace : Addr}
    {A_NoLot : Addr}
    {A_NoOrder : Addr}
    {A_NotLike : Addr}
    {A_NoNumbers : Addr}
    {A_NoNumber : Addr}
    {A_NoTable : Addr}
    {A_NoText : Addr}
    {A_NoRow : Addr}
    {A_TooMany : Addr}
    (p_is_whole : PySem.W.nsIn K mainGlobals "is_whole" = some (some (.ref f_is_whole)))
    (q_is_whole : K.lookup f_is_whole = some ⟨oc_is_whole, od_is_whole, .func (PySem.W.fnOf "is_whole" "is_whole" (defArgs s_is_whole) (defBody s_is_whole) (defScope s_is_whole) .none kV_is_whole dc_is_whole pm_is_whole an_is_whole cd_is_whole ct_is_whole), sl_is_whole⟩)
    (r_is_whole : PySem.W.codeIn K cd_is_whole "is_whole" = true)
    (t_is_whole : PySem.W.keepIn K (.ref f_is_whole) = true)
    (p_are_rising : PySem.W.nsIn K mainGlobals "are_rising" = some (some (.ref f_are_rising)))
    (q_are_rising : K.lookup f_are_rising = some ⟨oc_are_rising, od_are_rising, .func (PySem.W.fnOf "are_rising" "are_rising" (defArgs s_are_rising) (defBody s_are_rising) (defScope s_are_rising) .none kV_are_rising dc_are_rising pm_are_rising an_are_rising cd_are_rising ct_are_rising), sl_are_rising⟩)
    (r_are_rising : PySem.W.codeIn K cd_are_rising "are_rising" = true)
    (t_are_rising : PySem.W.keepIn K (.ref f_are_rising) = true)
    (p_near_rows : PySem.W.nsIn K mainGlobals "near_rows" = some (some (.ref f_near_rows)))
    (q_near_rows : K.lookup f_near_rows = some ⟨oc_near_rows, od_near_rows, .func (PySem.W.fnOf "near_rows" "near_rows" (defArgs s_near_rows) (defBody s_near_rows) (defScope s_near_rows) .none kV_near_rows dc_near_rows pm_near_rows an_near_rows cd_near_rows ct_near_rows), sl_near_rows⟩)
    (r_near_rows : PySem.W.codeIn K cd_near_rows "near_rows" = true)
    (t_near_rows : PySem.W.keepIn K (.ref f_near_rows) = true)
    (p_w_cell : PySem.W.nsIn K mainGlobals "_law_cell" = some (some (.ref f_w_cell)))
    (q_w_cell : K.lookup f_w_cell = some ⟨oc_w_cell, od_w_cell, .func (PySem.W.fnOf "_law_cell" "_law_cell" (defArgs s_w_cell) (defBody s_w_cell) (defScope s_w_cell) .none kV_w_cell dc_w_cell pm_w_cell an_w_cell cd_w_cell ct_w_cell), sl_w_cell⟩)
    (r_w_cell : PySem.W.codeIn K cd_w_cell "_law_cell" = true)
    (t_w_cell : PySem.W.keepIn K (.ref f_w_cell) = true)
    (p_w_take : PySem.W.nsIn K mainGlobals "_law_take" = some (some (.ref f_w_take)))
    (q_w_take : K.lookup f_w_take = some ⟨oc_w_take, od_w_take, .func (PySem.W.fnOf "_law_take" "_law_take" (defArgs s_w_take) (defBody s_w_take) (defScope s_w_take) .none kV_w_take dc_w_take pm_w_take an_w_take cd_w_take ct_w_take), sl_w_take⟩)
    (r_w_take : PySem.W.codeIn K cd_w_take "_law_take" = true)
    (t_w_take : PySem.W.keepIn K (.ref f_w_take) = true)
    (p_w_whole : PySem.W.nsIn K mainGlobals "_law_whole" = some (some (.ref f_w_whole)))
    (q_w_whole : K.lookup f_w_whole = some ⟨oc_w_whole, od_w_whole, .func (PySem.W.fnOf "_law_whole" "_law_whole" (defArgs s_w_whole) (defBody s_w_whole) (defScope s_w_whole) .none kV_w_whole dc_w_whole pm_w_whole an_w_whole cd_w_whole ct_w_whole), sl_w_whole⟩)
    (r_w_whole : PySem.W.codeIn K cd_w_whole "_law_whole" = true)
    (t_w_whole : PySem.W.keepIn K (.ref f_w_whole) = true)
    (p_w_kind : PySem.W.nsIn K mainGlobals "_law_kind" = some (some (.ref f_w_kind)))
    (q_w_kind : K.lookup f_w_kind = some ⟨oc_w_kind, od_w_kind, .func (PySem.W.fnOf "_law_kind" "_law_kind" (defArgs s_w_kind) (defBody s_w_kind) (defScope s_w_kind) .none kV_w_kind dc_w_kind pm_w_kind an_w_kind cd_w_kind ct_w_kind), sl_w_kind⟩)
    (r_w_kind : PySem.W.codeIn K cd_w_kind "_law_kind" = true)
    (t_w_kind : PySem.W.keepIn K (.ref f_w_kind) = true)
    (p_w_tied : PySem.W.nsIn K mainGlobals "_law_tied" = some (some (.ref f_w_tied)))
    (q_w_tied : K.lookup f_w_tied = some ⟨oc_w_tied, od_w_tied, .func (PySem.W.fnOf "_law_tied" "_law_tied" (defArgs s_w_tied) (defBody s_w_tied) (defScope s_w_tied) .none kV_w_tied dc_w_tied pm_w_tied an_w_tied cd_w_tied ct_w_tied), sl_w_tied⟩)
    (r_w_tied : PySem.W.codeIn K cd_w_tied "_law_tied" = true)
    (t_w_tied : PySem.W.keepIn K (.ref f_w_tied) = true)
    (p_w_known : PySem.W.nsIn K mainGlobals "_law_known" = some (some (.ref f_w_known)))
    (q_w_known : K.lookup f_w_known = some ⟨oc_w_known, od_w_known, .func (PySem.W.fnOf "_law_known" "_law_known" (defArgs s_w_known) (defBody s_w_known) (defScope s_w_known) .none kV_w_known dc_w_known pm_w_known an_w_known cd_w_known ct_w_known), sl_w_known⟩)
    (r_w_known : PySem.W.codeIn K cd_w_known "_law_known" = true)
    (t_w_known : PySem.W.keepIn K (.ref f_w_known) = true)
    (p_is_between : PySem.W.nsIn K mainGlobals "is_between" = some (some (.ref f_is_between)))
    (q_is_between : K.lookup f_is_between = some ⟨oc_is_between, od_is_between, .func (PySem.W.fnOf "is_between" "is_between" (defArgs s_is_between) (defBody s_is_between) (defScope s_is_between) .none kV_is_between dc_is_between pm_is_between an_is_between cd_is_between ct_is_between), sl_is_between⟩)
    (r_is_between : PySem.W.codeIn K cd_is_between "is_between" = true)
    (t_is_between : PySem.W.keepIn K (.ref f_is_between) = true)
    (p_near_in : PySem.W.nsIn K mainGlobals "near_in" = some (some (.ref f_near_in)))
    (q_near_in : K.lookup f_near_in = some ⟨oc_near_in, od_near_in, .func (PySem.W.fnOf "near_in" "near_in" (defArgs s_near_in) (defBody s_near_in) (defScope s_near_in) .none kV_near_in dc_near_in pm_near_in an_near_in cd_near_in ct_near_in), sl_near_in⟩)
    (r_near_in : PySem.W.codeIn K cd_near_in "near_in" = true)
    (t_near_in : PySem.W.keepIn K (.ref f_near_in) = true)
    (p_shared_in : PySem.W.nsIn K mainGlobals "shared_in" = some (some (.ref f_shared_in)))
    (q_shared_in : K.lookup f_shared_in = some ⟨oc_shared_in, od_shared_in, .func (PySem.W.fnOf "shared_in" "shared_in" (defArgs s_shared_in) (defBody s_shared_in) (defScope s_shared_in) .none kV_shared_in dc_shared_in pm_shared_in an_shared_in cd_shared_in ct_shared_in), sl_shared_in⟩)
    (r_shared_in : PySem.W.codeIn K cd_shared_in "shared_in" = true)
    (t_shared_in : PySem.W.keepIn K (.ref f_shared_in) = true)
    (p_w_box : PySem.W.nsIn K mainGlobals "_law_box" = some (some (.ref f_w_box)))
    (q_w_box : K.lookup f_w_box = some ⟨oc_w_box, od_w_box, .func (PySem.W.fnOf "_law_box" "_law_box" (defArgs s_w_box) (defBody s_w_box) (defScope s_w_box) .none kV_w_box dc_w_box pm_w_box an_w_box cd_w_box ct_w_box), sl_w_box⟩)
    (r_w_box : PySem.W.codeIn K cd_w_box "_law_box" = true)
    (t_w_box : PySem.W.keepIn K (.ref f_w_box) = true)
    (p_w_odd : PySem.W.nsIn K mainGlobals "_law_odd" = some (some (.ref f_w_odd)))
    (q_w_odd : K.lookup f_w_odd = some ⟨oc_w_odd, od_w_odd, .func (PySem.W.fnOf "_law_odd" "_law_odd" (defArgs s_w_odd) (defBody s_w_odd) (defScope s_w_odd) .none kV_w_odd dc_w_odd pm_w_odd an_w_odd cd_w_odd ct_w_odd), sl_w_odd⟩)
    (r_w_odd : PySem.W.codeIn K cd_w_odd "_law_odd" = true)
    (t_w_odd : PySem.W.keepIn K (.ref f_w_odd) = true)
    (p_w_near : PySem.W.nsIn K mainGlobals "_law_near" = some (some (.ref f_w_near)))
    (q_w_near : K.lookup f_w_near = some ⟨oc_w_near, od_w_near, .func (PySem.W.fnOf "_law_near" "_law_near" (defArgs s_w_near) (defBody s_w_near) (defScope s_w_near) .none kV_w_near dc_w_near pm_w_near an_w_near cd_w_near ct_w_near), sl_w_near⟩)
    (r_w_near : PySem.W.codeIn K cd_w_near "_law_near" = true)
    (t_w_near : PySem.W.keepIn K (.ref f_w_near) = true)
    (p_w_order : PySem.W.nsIn K mainGlobals "_law_order" = some (some (.ref f_w_order)))
    (q_w_order : K.lookup f_w_order = some ⟨oc_w_order, od_w_order, .func (PySem.W.fnOf "_law_order" "_law_order" (defArgs s_w_order) (defBody s_w_order) (defScope s_w_order) .none kV_w_order dc_w_order pm_w_order an_w_order cd_w_order ct_w_order), sl_w_order⟩)
    (r_w_order : PySem.W.codeIn K cd_w_order "_law_order" = true)
    (t_w_order : PySem.W.keepIn K (.ref f_w_order) = true)
    (p_w_is_web : PySem.W.nsIn K mainGlobals "_law_is_web" = some (some (.ref f_w_is_web)))
    (q_w_is_web : K.lookup f_w_is_web = some ⟨oc_w_is_web, od_w_is_web, .func (PySem.W.fnOf "_law_is_web" "_law_is_web" (defArgs s_w_is_web) (defBody s_w_is_web) (defScope s_w_is_web) .none kV_w_is_web dc_w_is_web pm_w_is_web an_w_is_web cd_w_is_web ct_w_is_web), sl_w_is_web⟩)
    (r_w_is_web : PySem.W.codeIn K cd_w_is_web "_law_is_web" = true)
    (t_w_is_web : PySem.W.keepIn K (.ref f_w_is_web) = true)
    (p_is_pair : PySem.W.nsIn K mainGlobals "is_pair" = some (some (.ref f_is_pair)))
    (q_is_pair : K.lookup f_is_pair = some ⟨oc_is_pair, od_is_pair, .func (PySem.W.fnOf "is_pair" "is_pair" (defArgs s_is_pair) (defBody s_is_pair) (defScope s_is_pair) .none kV_is_pair dc_is_pair pm_is_pair an_is_pair cd_is_pair ct_is_pair), sl_is_pair⟩)
    (r_is_pair : PySem.W.codeIn K cd_is_pair "is_pair" = true)
    (t_is_pair : PySem.W.keepIn K (.ref f_is_pair) = true)
    (p_look_at_place : PySem.W.nsIn K mainGlobals "look_at_place" = some (some (.ref f_look_at_place)))
    (q_look_at_place : K.lookup f_look_at_place = some ⟨oc_look_at_place, od_look_at_place, .func (PySem.W.fnOf "look_at_place" "look_at_place" (defArgs s_look_at_place) (defBody s_look_at_place) (defScope s_look_at_place) .none kV_look_at_place dc_look_at_place pm_look_at_place an_look_at_place cd_look_at_place ct_look_at_place), sl_look_at_place⟩)
    (r_look_at_place : PySem.W.codeIn K cd_look_at_place "look_at_place" = true)
    (t_look_at_place : PySem.W.keepIn K (.ref f_look_at_place) = true)
    (p_w_web : PySem.W.nsIn K mainGlobals "_law_web" = some (some (.ref f_w_web)))
    (q_w_web : K.lookup f_w_web = some ⟨oc_w_web, od_w_web, .func (PySem.W.fnOf "_law_web" "_law_web" (defArgs s_w_web) (defBody s_w_web) (defScope s_w_web) .none kV_w_web dc_w_web pm_w_web an_w_web cd_w_web ct_w_web), sl_w_web⟩)
    (r_w_web : PySem.W.codeIn K cd_w_web "_law_web" = true)
    (t_w_web : PySem.W.keepIn K (.ref f_w_web) = true)
    (p_w_others : PySem.W.nsIn K mainGlobals "_law_others" = some (some (.ref f_w_others)))
    (q_w_others : K.lookup f_w_others = some ⟨oc_w_others, od_w_others, .func (PySem.W.fnOf "_law_others" "_law_others" (defArgs s_w_others) (defBody s_w_others) (defScope s_w_others) .none kV_w_others dc_w_others pm_w_others an_w_others cd_w_others ct_w_others), sl_w_others⟩)
    (r_w_others : PySem.W.codeIn K cd_w_others "_law_others" = true)
    (t_w_others : PySem.W.keepIn K (.ref f_w_others) = true)
    (p_is_web : PySem.W.nsIn K mainGlobals "is_web" = some (some (.ref f_is_web)))
    (q_is_web : K.lookup f_is_web = some ⟨oc_is_web, od_is_web, .func (PySem.W.fnOf "is_web" "is_web" (defArgs s_is_web) (defBody s_is_web) (defScope s_is_web) .none kV_is_web dc_is_web pm_is_web an_is_web cd_is_web ct_is_web), sl_is_web⟩)
    (r_is_web : PySem.W.codeIn K cd_is_web "is_web" = true)
    (t_is_web : PySem.W.keepIn K (.ref f_is_web) = true)
    (p_near : PySem.W.nsIn K mainGlobals "near" = some (some (.ref f_near)))
    (q_near : K.lookup f_near = some ⟨oc_near, od_near, .func (PySem.W.fnOf "near" "near" (defArgs s_near) (defBody s_near) (defScope s_near) .none kV_near dc_near pm_near an_near cd_near ct_near), sl_near⟩)
    (r_near : PySem.W.codeIn K cd_near "near" = true)
    (t_near : PySem.W.keepIn K (.ref f_near) = true)
    (p_shared : PySem.W.nsIn K mainGlobals "shared" = some (some (.ref f_shared)))
    (q_shared : K.lookup f_shared = some ⟨oc_shared, od_shared, .func (PySem.W.fnOf "shared" "shared" (defArgs s_shared) (defBody s_shared) (defScope s_shared) .none kV_shared dc_shared pm_shared an_shared cd_shared ct_shared), sl_shared⟩)
    (r_shared : PySem.W.codeIn K cd_shared "shared" = true)
    (t_shared : PySem.W.keepIn K (.ref f_shared) = true)
    (p_w_same : PySem.W.nsIn K mainGlobals "_law_same" = some (some (.ref f_w_same)))
    (q_w_same : K.lookup f_w_same = some ⟨oc_w_same, od_w_same, .func (PySem.W.fnOf "_law_same" "_law_same" (defArgs s_w_same) (defBody s_w_same) (defScope s_w_same) .none kV_w_same dc_w_same pm_w_same an_w_same cd_w_same ct_w_same), sl_w_same⟩)
    (r_w_same : PySem.W.codeIn K cd_w_same "_law_same" = true)
    (t_w_same : PySem.W.keepIn K (.ref f_w_same) = true)
    (p_w_asked : PySem.W.nsIn K mainGlobals "_law_asked" = some (some (.ref f_w_asked)))
    (q_w_asked : K.lookup f_w_asked = some ⟨oc_w_asked, od_w_asked, .func (PySem.W.fnOf "_law_asked" "_law_asked" (defArgs s_w_asked) (defBody s_w_asked) (defScope s_w_asked) .none kV_w_asked dc_w_asked pm_w_asked an_w_asked cd_w_asked ct_w_asked), sl_w_asked⟩)
    (r_w_asked : PySem.W.codeIn K cd_w_asked "_law_asked" = true)
    (t_w_asked : PySem.W.keepIn K (.ref f_w_asked) = true)
    (p_law : PySem.W.nsIn K mainGlobals "law" = some (some (.ref f_law)))
    (q_law : K.lookup f_law = some ⟨oc_law, od_law, .func (PySem.W.fnOf "law" "law" (defArgs s_law) (defBody s_law) (defScope s_law) .none kV_law dc_law pm_law an_law cd_law ct_law), sl_law⟩)
    (r_law : PySem.W.codeIn K cd_law "law" = true)
    (t_law : PySem.W.keepIn K (.ref f_law) = true)
    (c_MOST_PLACES : PySem.W.nsIn K mainGlobals "MOST_PLACES" = some (some (.int 16 k_MOST_PLACES)))
    (l_LikeError : PySem.W.nsIn K mainGlobals "LikeError" = some (some (.ref A_LikeError)))
    (l_NoPlace : PySem.W.nsIn K mainGlobals "NoPlace" = some (some (.ref A_NoPlace)))
    (l_NoLot : PySem.W.nsIn K mainGlobals "NoLot" = some (some (.ref A_NoLot)))
    (l_NoOrder : PySem.W.nsIn K mainGlobals "NoOrder" = some (some (.ref A_NoOrder)))
    (l_NotLike : PySem.W.nsIn K mainGlobals "NotLike" = some (some (.ref A_NotLike)))
    (l_NoNumbers : PySem.W.nsIn K mainGlobals "NoNumbers" = some (some (.ref A_NoNumbers)))
    (l_NoNumber : PySem.W.nsIn K mainGlobals "NoNumber" = some (some (.ref A_NoNumber)))
    (l_NoTable : PySem.W.nsIn K mainGlobals "NoTable" = some (some (.ref A_NoTable)))
    (l_NoText : PySem.W.nsIn K mainGlobals "NoText" = some (some (.ref A_NoText)))
    (l_NoRow : PySem.W.nsIn K mainGlobals "NoRow" = some (some (.ref A_NoRow)))
    (l_TooMany : PySem.W.nsIn K mainGlobals "TooMany" = some (some (.ref A_TooMany)))
    (ex_NoPlace : PySem.W.excIn K A_NoPlace [.type "ValueError", .type "Exception", .type "BaseException", .type "object"] "ValueError.__new__" = true)
    (ek_NoPlace : PySem.W.keepIn K (.ref A_NoPlace) = true)
    (eb_NoPlace : PySem.W.subIn K (.ref A_NoPlace) (.type "BaseException") = some true)
    (et_NoPlace : PySem.W.typeIn K (.ref A_NoPlace) = some (.type "type"))
    (xg_NoPlace : PySem.W.findIn K (.ref A_NoPlace) "__getattribute__" = some (some (.builtin "BaseException.__getattribute__")))
    (xk_NoPlace : PySem.W.findIn K (.ref A_NoPlace) "__getattr__" = some none)
    (xd_NoPlace : PySem.W.hasDictIn K A_NoPlace = true)
    (xa_NoPlace : PySem.W.findIn K (.ref A_NoPlace) "__class__" = some (some (.builtin "object.__class__")))
    (xm_NoPlace : PySem.W.mroIn K A_NoPlace (.type "object") = some true)
    (kv_NoPlace : PySem.W.subIn K (.ref A_NoPlace) (.type "ValueError") = some true)
    (xn_NoPlace : PySem.W.specialIn K (.builtin "object.__class__") "__get__" = some (some (.builtin "getset_descriptor.__get__")))
    (xt_NoPlace : PySem.W.takesIn K (.builtin "object.__class__") = some true)
    (k_NoPlace_NoPlace : PySem.W.subIn K (.ref A_NoPlace) (.ref A_NoPlace) = some true)
    (k_NoPlace_NoLot : PySem.W.subIn K (.ref A_NoPlace) (.ref A_NoLot) = some false)
    (k_NoPlace_NoOrder : PySem.W.subIn K (.ref A_NoPlace) (.ref A_NoOrder) = some false)
    (k_NoPlace_NotLike : PySem.W.subIn K (.ref A_NoPlace) (.ref A_NotLike) = some false)
    (k_NoPlace_NoNumbers : PySem.W.subIn K (.ref A_NoPlace) (.ref A_NoNumbers) = some false)
    (k_NoPlace_NoNumber : PySem.W.subIn K (.ref A_NoPlace) (.ref A_NoNumber) = some false)
    (k_NoPlace_NoTable : PySem.W.subIn K (.ref A_NoPlace) (.ref A_NoTable) = some false)
    (k_NoPlace_NoText : PySem.W.subIn K (.ref A_NoPlace) (.ref A_NoText) = some false)
    (k_NoPlace_NoRow : PySem.W.subIn K (.ref A_NoPlace) (.ref A_NoRow) = some false)
    (k_NoPlace_TooMany : PySem.W.subIn K (.ref A_NoPlace) (.ref A_TooMany) = some false)
    (m_NoPlace : PySem.W.subIn K (.ref A_NoPlace) (.ref A_LikeError) = some true)
    (mb : PySem.W.subIn K (.ref A_LikeError) (.type "BaseException") = some true)
    (ic_LikeError : PySem.W.isClsIn K A_LikeError = true)
    (it_LikeError : PySem.W.typeIn K (.ref A_LikeError) = some (.type "type"))
    (ic_NoLot : PySem.W.isClsIn K A_NoLot = true)
    (it_NoLot : PySem.W.typeIn K (.ref A_NoLot) = some (.type "type"))
    (ic_NoNumber : PySem.W.isClsIn K A_NoNumber = true)
    (it_NoNumber : PySem.W.typeIn K (.ref A_NoNumber) = some (.type "type"))
    (ic_NoNumbers : PySem.W.isClsIn K A_NoNumbers = true)
    (it_NoNumbers : PySem.W.typeIn K (.ref A_NoNumbers) = some (.type "type"))
    (ic_NoOrder : PySem.W.isClsIn K A_NoOrder = true)
    (it_NoOrder : PySem.W.typeIn K (.ref A_NoOrder) = some (.type "type"))
    (ic_NoPlace : PySem.W.isClsIn K A_NoPlace = true)
    (it_NoPlace : PySem.W.typeIn K (.ref A_NoPlace) = some (.type "type"))
    (ic_NoRow : PySem.W.isClsIn K A_NoRow = true)
    (it_NoRow : PySem.W.typeIn K (.ref A_NoRow) = some (.type "type"))
    (ic_NoTable : PySem.W.isClsIn K A_NoTable = true)
    (it_NoTable : PySem.W.typeIn K (.ref A_NoTable) = some (.type "type"))
    (ic_NoText : PySem.W.isClsIn K A_NoText = true)
    (it_NoText : PySem.W.typeIn K (.ref A_NoText) = some (.type "type"))
    (ic_NotLike : PySem.W.isClsIn K A_NotLike = true)
    (it_NotLike : PySem.W.typeIn K (.ref A_NotLike) = some (.type "type"))
    (ic_TooMany : PySem.W.isClsIn K A_TooMany = true)
    (it_TooMany : PySem.W.typeIn K (.ref A_TooMany) = some (.type "type"))
    (z_len : PySem.W.nsIn K mainGlobals "len" = some none)
    (z_isi : PySem.W.nsIn K mainGlobals "isinstance" = some none)
    (z_all : PySem.W.nsIn K mainGlobals "all" = some none)
    (z_any : PySem.W.nsIn K mainGlobals "any" = some none)
    (z_sum : PySem.W.nsIn K mainGlobals "sum" = some none)
    (z_min : PySem.W.nsIn K mainGlobals "min" = some none)
    (z_max : PySem.W.nsIn K mainGlobals "max" = some none)
    (z_sorted : PySem.W.nsIn K mainGlobals "sorted" = some none)
    (z_range : PySem.W.nsIn K mainGlobals "range" = some none)
    (z_enum : PySem.W.nsIn K mainGlobals "enumerate" = some none)
    (z_zip : PySem.W.nsIn K mainGlobals "zip" = some none)
    (z_tuple : PySem.W.nsIn K mainGlobals "tuple" = some none)
    (z_list : PySem.W.nsIn K mainGlobals "list" = some none)
    (z_dict : PySem.W.nsIn K mainGlobals "dict" = some none)
    (z_set : PySem.W.nsIn K mainGlobals "set" = some none)
    (z_str : PySem.W.nsIn K mainGlobals "str" = some none)
    (z_int : PySem.W.nsIn K mainGlobals "int" = some none)
    (z_bool : PySem.W.nsIn K mainGlobals "bool" = some none)
    (z_abs : PySem.W.nsIn K mainGlobals "abs" = some none)
    (z_divmod : PySem.W.nsIn K mainGlobals "divmod" = some none)
    (z_repr : PySem.W.nsIn K mainGlobals "repr" = some none)
    (z_verr : PySem.W.nsIn K mainGlobals "ValueError" = some none) :
    ∃ fd : FuncData, (∀ (s : Shared) (v : Value), BindsTo s fd ⟨[v], []⟩ [("_law_script", v)]) ∧ ∀ base : Heap, K.In base → base.Ns mainGlobals mg → FnOk l.prog w K mg base (L2N.CX l.prog w) 6 fa fd ["_law_script"] (@spL (⟨[], 0⟩ : TabsC) K F_law) := by
  have e := hfa.symm.trans (PySem.W.mg_of X G p_law)
  cases e
  have F_is_whole := fun_mk (st := s_is_whole) q_is_whole r_is_whole t_is_whole
  have b_is_whole := F_is_whole.binds (ps := ["thing"]) fun _ _ _ _ _ _ us hl => match us, hl with | [_], _ => rfl
  have F_are_rising := fun_mk (st := s_are_rising) q_are_rising r_are_rising t_are_rising
  have b_are_rising := F_are_rising.binds (ps := ["things"]) fun _ _ _ _ _ _ us hl => match us, hl with | [_], _ => rfl
  have F_near_rows := fun_mk (st := s_near_rows) q_near_rows r_near_rows t_near_rows
  have b_near_rows := F_near_rows.binds (ps := ["web"]) fun _ _ _ _ _ _ us hl => match us, hl with | [_], _ => rfl
  have F_w_cell := fun_mk (st := s_w_cell) q_w_cell r_w_cell t_w_cell
  have b_w_cell := F_w_cell.binds (ps := ["_law_script", "_law_k"]) fun _ _ _ _ _ _ us hl => match us, hl with | [_, _], _ => rfl
  have F_w_take := fun_mk (st := s_w_take) q_w_take r_w_take t_w_take
  have b_w_take := F_w_take.binds (ps := ["_law_box_here", "_law_many"]) fun _ _ _ _ _ _ us hl => match us, hl with | [_, _], _ => rfl
  have F_w_whole := fun_mk (st := s_w_whole) q_w_whole r_w_whole t_w_whole
  have b_w_whole := F_w_whole.binds (ps := ["_law_thing"]) fun _ _ _ _ _ _ us hl => match us, hl with | [_], _ => rfl
  have F_w_kind := fun_mk (st := s_w_kind) q_w_kind r_w_kind t_w_kind
  have b_w_kind := F_w_kind.binds (ps := ["_law_e"]) fun _ _ _ _ _ _ us hl => match us, hl with | [_], _ => rfl
  have F_w_tied := fun_mk (st := s_w_tied) q_w_tied r_w_tied t_w_tied
  have b_w_tied := F_w_tied.binds (ps := ["_law_web_here", "_law_one", "_law_other"]) fun _ _ _ _ _ _ us hl => match us, hl with | [_, _, _], _ => rfl
  have F_w_known := fun_mk (st := s_w_known) q_w_known r_w_known t_w_known
  have b_w_known := F_w_known.binds (ps := ["_law_kind_here"]) fun _ _ _ _ _ _ us hl => match us, hl with | [_], _ => rfl
  have F_is_between := fun_mk (st := s_is_between) q_is_between r_is_between t_is_between
  have b_is_between := F_is_between.binds (ps := ["thing", "least", "most"]) fun _ _ _ _ _ _ us hl => match us, hl with | [_, _, _], _ => rfl
  have F_near_in := fun_mk (st := s_near_in) q_near_in r_near_in t_near_in
  have b_near_in := F_near_in.binds (ps := ["web", "place"]) fun _ _ _ _ _ _ us hl => match us, hl with | [_, _], _ => rfl
  have F_shared_in := fun_mk (st := s_shared_in) q_shared_in r_shared_in t_shared_in
  have b_shared_in := F_shared_in.binds (ps := ["web", "one", "other"]) fun _ _ _ _ _ _ us hl => match us, hl with | [_, _, _], _ => rfl
  have F_w_box := fun_mk (st := s_w_box) q_w_box r_w_box t_w_box
  have b_w_box := F_w_box.binds (ps := ["_law_script", "_law_k"]) fun _ _ _ _ _ _ us hl => match us, hl with | [_, _], _ => rfl
  have F_w_odd := fun_mk (st := s_w_odd) q_w_odd r_w_odd t_w_odd
  have b_w_odd := F_w_odd.binds (ps := ["_law_box_here"]) fun _ _ _ _ _ _ us hl => match us, hl with | [_], _ => rfl
  have F_w_near := fun_mk (st := s_w_near) q_w_near r_w_near t_w_near
  have b_w_near := F_w_near.binds (ps := ["_law_web_here", "_law_place"]) fun _ _ _ _ _ _ us hl => match us, hl with | [_, _], _ => rfl
  have F_w_order := fun_mk (st := s_w_order) q_w_order r_w_order t_w_order
  have b_w_order := F_w_order.binds (ps := ["_law_box_here", "_law_many"]) fun _ _ _ _ _ _ us hl => match us, hl with | [_, _], _ => rfl
  have F_w_is_web := fun_mk (st := s_w_is_web) q_w_is_web r_w_is_web t_w_is_web
  have b_w_is_web := F_w_is_web.binds (ps := ["_law_thing"]) fun _ _ _ _ _ _ us hl => match us, hl with | [_], _ => rfl
  have F_is_pair := fun_mk (st := s_is_pair) q_is_pair r_is_pair t_is_pair
  have b_is_pair := F_is_pair.binds (ps := ["thing", "many"]) fun _ _ _ _ _ _ us hl => match us, hl with | [_, _], _ => rfl
  have F_look_at_place := fun_mk (st := s_look_at_place) q_look_at_place r_look_at_place t_look_at_place
  have b_look_at_place := F_look_at_place.binds (ps := ["web", "place"]) fun _ _ _ _ _ _ us hl => match us, hl with | [_, _], _ => rfl
  have F_w_web := fun_mk (st := s_w_web) q_w_web r_w_web t_w_web
  have b_w_web := F_w_web.binds (ps := ["_law_box_here", "_law_most"]) fun _ _ _ _ _ _ us hl => match us, hl with | [_, _], _ => rfl
  have F_w_others := fun_mk (st := s_w_others) q_w_others r_w_others t_w_others
  have b_w_others := F_w_others.binds (ps := ["_law_box_here", "_law_web_here"]) fun _ _ _ _ _ _ us hl => match us, hl with | [_, _], _ => rfl
  have F_is_web := fun_mk (st := s_is_web) q_is_web r_is_web t_is_web
  have b_is_web := F_is_web.binds (ps := ["thing"]) fun _ _ _ _ _ _ us hl => match us, hl with | [_], _ => rfl
  have F_near := fun_mk (st := s_near) q_near r_near t_near
  have b_near := F_near.binds (ps := ["web", "place"]) fun _ _ _ _ _ _ us hl => match us, hl with | [_, _], _ => rfl
  have F_shared := fun_mk (st := s_shared) q_shared r_shared t_shared
  have b_shared := F_shared.binds (ps := ["web", "one", "other"]) fun _ _ _ _ _ _ us hl => match us, hl with | [_, _, _], _ => rfl
  have F_w_same := fun_mk (st := s_w_same) q_w_same r_w_same t_w_same
  have b_w_same := F_w_same.binds (ps := ["_law_found", "_law_due"]) fun _ _ _ _ _ _ us hl => match us, hl with | [_, _], _ => rfl
  have F_w_asked := fun_mk (st := s_w_asked) q_w_asked r_w_asked t_w_asked
  have b_w_asked := F_w_asked.binds (ps := ["_law_way", "_law_web_here", "_law_one", "_law_other"]) fun _ _ _ _ _ _ us hl => match us, hl with | [_, _, _, _], _ => rfl
  have F_law := fun_mk (st := s_law) q_law r_law t_law
  have b_law := F_law.binds (ps := ["_law_script"]) fun _ _ _ _ _ _ us hl => match us, hl with | [_], _ => rfl
  let T : Tx K mg := {
    B := ⟨PySem.W.mg_none_of X G z_len, PySem.W.mg_none_of X G z_isi, PySem.W.mg_none_of X G z_all, PySem.W.mg_none_of X G z_any, PySem.W.mg_none_of X G z_sum, PySem.W.mg_none_of X G z_min, PySem.W.mg_none_of X G z_max, PySem.W.mg_none_of X G z_sorted, PySem.W.mg_none_of X G z_range, PySem.W.mg_none_of X G z_enum, PySem.W.mg_none_of X G z_zip, PySem.W.mg_none_of X G z_tuple, PySem.W.mg_none_of X G z_list, PySem.W.mg_none_of X G z_dict, PySem.W.mg_none_of X G z_set, PySem.W.mg_none_of X G z_str, PySem.W.mg_none_of X G z_int, PySem.W.mg_none_of X G z_bool, PySem.W.mg_none_of X G z_abs, PySem.W.mg_none_of X G z_divmod, PySem.W.mg_none_of X G z_repr, PySem.W.mg_none_of X G z_verr⟩,
    a_is_whole := _, d_is_whole := _, F_is_whole := F_is_whole, g_is_whole := PySem.W.mg_of X G p_is_whole, b_is_whole := b_is_whole,
    a_are_rising := _, d_are_rising := _, F_are_rising := F_are_rising, g_are_rising := PySem.W.mg_of X G p_are_rising, b_are_rising := b_are_rising,
    a_near_rows := _, d_near_rows := _, F_near_rows := F_near_rows, g_near_rows := PySem.W.mg_of X G p_near_rows, b_near_rows := b_near_rows,
    a_w_cell := _, d_w_cell := _, F_w_cell := F_w_cell, g_w_cell := PySem.W.mg_of X G p_w_cell, b_w_cell := b_w_cell,
    a_w_take := _, d_w_take := _, F_w_take := F_w_take, g_w_take := PySem.W.mg_of X G p_w_take, b_w_take := b_w_take,
    a_w_whole := _, d_w_whole := _, F_w_whole := F_w_whole, g_w_whole := PySem.W.mg_of X G p_w_whole, b_w_whole := b_w_whole,
    a_w_kind := _, d_w_kind := _, F_w_kind := F_w_kind, g_w_kind := PySem.W.mg_of X G p_w_kind, b_w_kind := b_w_kind,
    a_w_tied := _, d_w_tied := _, F_w_tied := F_w_tied, g_w_tied := PySem.W.mg_of X G p_w_tied, b_w_tied := b_w_tied,
    a_w_known := _, d_w_known := _, F_w_known := F_w_known, g_w_known := PySem.W.mg_of X G p_w_known, b_w_known := b_w_known,
    a_is_between := _, d_is_between := _, F_is_between := F_is_between, g_is_between := PySem.W.mg_of X G p_is_between, b_is_between := b_is_between,
    a_near_in := _, d_near_in := _, F_near_in := F_near_in, g_near_in := PySem.W.mg_of X G p_near_in, b_near_in := b_near_in,
    a_shared_in := _, d_shared_in := _, F_shared_in := F_shared_in, g_shared_in := PySem.W.mg_of X G p_shared_in, b_shared_in := b_shared_in,
    a_w_box := _, d_w_box := _, F_w_box := F_w_box, g_w_box := PySem.W.mg_of X G p_w_box, b_w_box := b_w_box,
    a_w_odd := _, d_w_odd := _, F_w_odd := F_w_odd, g_w_odd := PySem.W.mg_of X G p_w_odd, b_w_odd := b_w_odd,
    a_w_near := _, d_w_near := _, F_w_near := F_w_near, g_w_near := PySem.W.mg_of X G p_w_near, b_w_near := b_w_near,
    a_w_order := _, d_w_order := _, F_w_order := F_w_order, g_w_order := PySem.W.mg_of X G p_w_order, b_w_order := b_w_order,
    a_w_is_web := _, d_w_is_web := _, F_w_is_web := F_w_is_web, g_w_is_web := PySem.W.mg_of X G p_w_is_web, b_w_is_web := b_w_is_web,
    a_is_pair := _, d_is_pair := _, F_is_pair := F_is_pair, g_is_pair := PySem.W.mg_of X G p_is_pair, b_is_pair := b_is_pair,
    a_look_at_place := _, d_look_at_place := _, F_look_at_place := F_look_at_place, g_look_at_place := PySem.W.mg_of X G p_look_at_place, b_look_at_place := b_look_at_place,
    a_w_web := _, d_w_web := _, F_w_web := F_w_web, g_w_web := PySem.W.mg_of X G p_w_web, b_w_web := b_w_web,
    a_w_others := _, d_w_others := _, F_w_others := F_w_others, g_w_others := PySem.W.mg_of X G p_w_others, b_w_others := b_w_others,
    a_is_web := _, d_is_web := _, F_is_web := F_is_web, g_is_web := PySem.W.mg_of X G p_is_web, b_is_web := b_is_web,
    a_near := _, d_near := _, F_near := F_near, g_near := PySem.W.mg_of X G p_near, b_near := b_near,
    a_shared := _, d_shared := _, F_shared := F_shared, g_shared := PySem.W.mg_of X G p_shared, b_shared := b_shared,
    a_w_same := _, d_w_same := _, F_w_same := F_w_same, g_w_same := PySem.W.mg_of X G p_w_same, b_w_same := b_w_same,
    a_w_asked := _, d_w_asked := _, F_w_asked := F_w_asked, g_w_asked := PySem.W.mg_of X G p_w_asked, b_w_asked := b_w_asked,
    a_law := _, d_law := _, F_law := F_law, g_law := PySem.W.mg_of X G p_law, b_law := b_law,
    k_MOST_PLACES := k_MOST_PLACES, c_MOST_PLACES := PySem.W.mg_of X G c_MOST_PLACES,
    A_LikeError := A_LikeError, l_LikeError := PySem.W.mg_of X G l_LikeError,
    A_NoPlace := A_NoPlace, l_NoPlace := PySem.W.mg_of X G l_NoPlace,
    A_NoLot := A_NoLot, l_NoLot := PySem.W.mg_of X G l_NoLot,
    A_NoOrder := A_NoOrder, l_NoOrder := PySem.W.mg_of X G l_NoOrder,
    A_NotLike := A_NotLike, l_NotLike := PySem.W.mg_of X G l_NotLike,
    A_NoNumbers := A_NoNumbers, l_NoNumbers := PySem.W.mg_of X G l_NoNumbers,
    A_NoNumber := A_NoNumber, l_NoNumber := PySem.W.mg_of X G l_NoNumber,
    A_NoTable := A_NoTable, l_NoTable := PySem.W.mg_of X G l_NoTable,
    A_NoText := A_NoText, l_NoText := PySem.W.mg_of X G l_NoText,
    A_NoRow := A_NoRow, l_NoRow := PySem.W.mg_of X G l_NoRow,
    A_TooMany := A_TooMany, l_TooMany := PySem.W.mg_of X G l_TooMany,
    e_NoPlace := ⟨PySem.W.mg_of X G l_NoPlace, ex_NoPlace, ek_NoPlace, eb_NoPlace, et_NoPlace⟩,
    x_NoPlace := ⟨xg_NoPlace, xk_NoPlace, eb_NoPlace, xd_NoPlace, xa_NoPlace, xn_NoPlace, xt_NoPlace, xm_NoPlace⟩,
    kv_NoPlace := @Mi.kit_verr ⟨[], 0⟩ _ _ kv_NoPlace,
    k_NoPlace_NoPlace := @Mi.kit_of ⟨[], 0⟩ _ _ _ _ ic_NoPlace it_NoPlace k_NoPlace_NoPlace k_NoPlace_NoPlace,
    k_NoPlace_NoLot := @Mi.kit_of ⟨[], 0⟩ _ _ _ _ ic_NoLot it_NoLot k_NoPlace_NoLot k_NoPlace_NoPlace,
    k_NoPlace_NoOrder := @Mi.kit_of ⟨[], 0⟩ _ _ _ _ ic_NoOrder it_NoOrder k_NoPlace_NoOrder k_NoPlace_NoPlace,
    k_NoPlace_NotLike := @Mi.kit_of ⟨[], 0⟩ _ _ _ _ ic_NotLike it_NotLike k_NoPlace_NotLike k_NoPlace_NoPlace,
    k_NoPlace_NoNumbers := @Mi.kit_of ⟨[], 0⟩ _ _ _ _ ic_NoNumbers it_NoNumbers k_NoPlace_NoNumbers k_NoPlace_NoPlace,
    k_NoPlace_NoNumber := @Mi.kit_of ⟨[], 0⟩ _ _ _ _ ic_NoNumber it_NoNumber k_NoPlace_NoNumber k_NoPlace_NoPlace,
    k_NoPlace_NoTable := @Mi.kit_of ⟨[], 0⟩ _ _ _ _ ic_NoTable it_NoTable k_NoPlace_NoTable k_NoPlace_NoPlace,
    k_NoPlace_NoText := @Mi.kit_of ⟨[], 0⟩ _ _ _ _ ic_NoText it_NoText k_NoPlace_NoText k_NoPlace_NoPlace,
    k_NoPlace_NoRow := @Mi.kit_of ⟨[], 0⟩ _ _ _ _ ic_NoRow it_NoRow k_NoPlace_NoRow k_NoPlace_NoPlace,
    k_NoPlace_TooMany := @Mi.kit_of ⟨[], 0⟩ _ _ _ _ ic_TooMany it_TooMany k_NoPlace_TooMany k_NoPlace_NoPlace,
    m_NoPlace := @Mi.exm_of ⟨[], 0⟩ _ _ _ mb ic_LikeError it_LikeError m_NoPlace }
  letI TI : TabsC := ⟨[], 0⟩
  exact ⟨PySem.W.fnOf "law" "law" (defArgs s_law) (defBody s_law) (defScope s_law) .none kV_law dc_law pm_law an_law cd_law ct_law, fun s v => .of_eq rfl, fun base _ _ => toL (ok_law T)⟩
end
end Lw

namespace Lw
open PySem PySem.Spec PyProof.Rows L2 Mi
variable [TabsC]
theorem v_is_whole (d : D) (h : dat d = true) : F_is_whole [d] = .ok (.bl (isW d)) := by
  unfold F_is_whole m_is_whole
  cases d <;> first | (cases h; done) | (simp only [dat] at h; simp only [Mi.EVA, Mi.EVB, D.frz, frzs, D.plain, plains, List.length_cons, List.length_nil, List.length_set, Nat.reduceAdd, Nat.reduceLT, Nat.reduceLeDiff, sizeLine_eq, if_true, if_false, List.cons_append, List.nil_append, Option.map_some, Option.bind_some, Int.reduceToNat, Int.reducePow, Int.reduceNeg, Int.reduceEq, Int.reduceLT, Int.reduceLE, Int.reduceAdd, Int.reduceSub, Int.reduceMul, eq_self, Mi.dat, h]; rfl) | (simp only [Mi.EVA, Mi.EVB, D.frz, frzs, D.plain, plains, List.length_cons, List.length_nil, List.length_set, Nat.reduceAdd, Nat.reduceLT, Nat.reduceLeDiff, sizeLine_eq, if_true, if_false, List.cons_append, List.nil_append, Option.map_some, Option.bind_some, Int.reduceToNat, Int.reducePow, Int.reduceNeg, Int.reduceEq, Int.reduceLT, Int.reduceLE, Int.reduceAdd, Int.reduceSub, Int.reduceMul, eq_self, Mi.dat]; rfl)
theorem v_between (d : D) (lo hi : Int) (h : dat d = true) : F_is_between [d, .int lo, .int hi] = .ok (.bl (btw d lo hi)) := by
  have hp := dat_plain h
  have hz := dat_frz h
  unfold F_is_between m_is_between
  by_cases c : isW d = true
  · obtain ⟨n, rfl⟩ := isW_int c
    simp only [Mi.EVA, Mi.EVB, D.frz, frzs, D.plain, plains, List.length_cons, List.length_nil, List.length_set, Nat.reduceAdd, Nat.reduceLT, Nat.reduceLeDiff, sizeLine_eq, if_true, if_false, List.cons_append, List.nil_append, Option.map_some, Option.bind_some, Int.reduceToNat, Int.reducePow, Int.reduceNeg, Int.reduceEq, Int.reduceLT, Int.reduceLE, Int.reduceAdd, Int.reduceSub, Int.reduceMul, eq_self, Mi.dat, v_is_whole _ h, c, btw]
    by_cases c2 : lo ≤ n
    · simp only [c2, Mi.EVA, Mi.EVB, D.frz, frzs, D.plain, plains, List.length_cons, List.length_nil, List.length_set, Nat.reduceAdd, Nat.reduceLT, Nat.reduceLeDiff, sizeLine_eq, if_true, if_false, List.cons_append, List.nil_append, Option.map_some, Option.bind_some, Int.reduceToNat, Int.reducePow, Int.reduceNeg, Int.reduceEq, Int.reduceLT, Int.reduceLE, Int.reduceAdd, Int.reduceSub, Int.reduceMul, eq_self, Mi.dat]
    · simp only [c2, Mi.EVA, Mi.EVB, D.frz, frzs, D.plain, plains, List.length_cons, List.length_nil, List.length_set, Nat.reduceAdd, Nat.reduceLT, Nat.reduceLeDiff, sizeLine_eq, if_true, if_false, List.cons_append, List.nil_append, Option.map_some, Option.bind_some, Int.reduceToNat, Int.reducePow, Int.reduceNeg, Int.reduceEq, Int.reduceLT, Int.reduceLE, Int.reduceAdd, Int.reduceSub, Int.reduceMul, eq_self, Mi.dat]
  · have c : isW d = false := by simpa using c
    have e : btw d lo hi = false := by cases d <;> first | rfl | cases c
    simp only [Mi.fnM_ap, Mi.envS, Mi.envN, Mi.env0, Mi.mRet_ap, Mi.mAndV_ap, Mi.mCall_ap, Mi.mCons_ap, Mi.mVar_ap, Mi.at0, Mi.kV_some, hp, if_true, Mi.kca_ok, Mi.mNil_ap, Mi.kcb_ok, Mi.kc_ok, frzs, hz, v_is_whole _ h, c, e, Mi.EVA, Mi.EVB, D.frz, frzs, D.plain, plains, List.length_cons, List.length_nil, List.length_set, Nat.reduceAdd, Nat.reduceLT, Nat.reduceLeDiff, sizeLine_eq, if_true, if_false, List.cons_append, List.nil_append, Option.map_some, Option.bind_some, Int.reduceToNat, Int.reducePow, Int.reduceNeg, Int.reduceEq, Int.reduceLT, Int.reduceLE, Int.reduceAdd, Int.reduceSub, Int.reduceMul, eq_self, Mi.dat]
theorem vb_int (n lo hi : Int) : F_is_between [.int n, .int lo, .int hi] = .ok (.bl (decide (lo ≤ n) && decide (n ≤ hi))) := v_between _ lo hi rfl
theorem v_take (z m : Int) (h : 0 < m) (h2 : m < 2 ^ 64) : F_w_take [.int z] [.int m] = .ok (.int (z % m)) [.int (z / m)] := by
  have c := cdivw_small (i := z) h h2
  unfold F_w_take m_w_take
  simp only [Mi.EVA, Mi.EVB, D.frz, frzs, D.plain, plains, List.length_cons, List.length_nil, List.length_set, Nat.reduceAdd, Nat.reduceLT, Nat.reduceLeDiff, sizeLine_eq, if_true, if_false, List.cons_append, List.nil_append, Option.map_some, Option.bind_some, Int.reduceToNat, Int.reducePow, Int.reduceNeg, Int.reduceEq, Int.reduceLT, Int.reduceLE, Int.reduceAdd, Int.reduceSub, Int.reduceMul, eq_self, Mi.dat, atI_pos, Int.reduceLE, c, h]
  rfl
theorem v_cell (ns : List Int) (k : Int) (h0 : 0 ≤ k) (hk : k < 2 ^ 32) (hb : ∀ z ∈ ns, Builtin.Int.intBits z ≤ 1048576) : ∃ z : Int, z.natAbs < 2 ^ 1048576 ∧ F_w_cell [.cst (ns.map D.int), .int k] = .ok (.int z) := by
  have hp := plains_ints ns
  have hz := frzs_ints ns
  have c1 : CMulX 6151 k := cmulx64 (by decide) (by omega)
  by_cases c : k < ns.length
  · have hk : k.toNat < ns.length := by omega
    refine ⟨ns[k.toNat], natAbs_of_bits (hb _ (List.getElem_mem hk)), ?_⟩
    have e : atI (ns.map D.int) k = some (.int ns[k.toNat]) := by
      rw [atI_pos h0 (by rw [List.length_map]; exact hk), List.getElem?_map, List.getElem?_eq_getElem hk]
      rfl
    unfold F_w_cell m_w_cell
    simp only [Mi.EVA, Mi.EVB, D.frz, frzs, D.plain, plains, List.length_cons, List.length_nil, List.length_set, Nat.reduceAdd, Nat.reduceLT, Nat.reduceLeDiff, sizeLine_eq, if_true, if_false, List.cons_append, List.nil_append, Option.map_some, Option.bind_some, Int.reduceToNat, Int.reducePow, Int.reduceNeg, Int.reduceEq, Int.reduceLT, Int.reduceLE, Int.reduceAdd, Int.reduceSub, Int.reduceMul, eq_self, Mi.dat, hp, hz, c1, e, List.length_map, c]
  · refine ⟨6151 * k + 29, natAbs_mono (m := 64) (by omega) (by decide), ?_⟩
    unfold F_w_cell m_w_cell
    simp only [Mi.EVA, Mi.EVB, D.frz, frzs, D.plain, plains, List.length_cons, List.length_nil, List.length_set, Nat.reduceAdd, Nat.reduceLT, Nat.reduceLeDiff, sizeLine_eq, if_true, if_false, List.cons_append, List.nil_append, Option.map_some, Option.bind_some, Int.reduceToNat, Int.reducePow, Int.reduceNeg, Int.reduceEq, Int.reduceLT, Int.reduceLE, Int.reduceAdd, Int.reduceSub, Int.reduceMul, eq_self, Mi.dat, hp, hz, c1, List.length_map, c]
def b_box : MS := mSeq (mAsg (mOp2 dMod (mOp2 dAdd (mOp2 dAdd (mOp2 dAdd (mOp2 dMul (mVar 4) (mC (.int 48271))) (mOp2 dMul (mOp2 dMul (mC (.int 7)) (mVar 5)) (mVar 5))) (mOp2 dMul (mC (.int 11)) (mVar 1))) (mC (.int 1))) (mC (.int 2147483647))) (mgName 4)) (mAsg (mOp2 dAdd (mOp2 dMul (mVar 3) (mC (.int 2147483647))) (mVar 4)) (mgName 3))
theorem box_loop (s0 : D) (k : Int) (c : D) (hk0 : 0 ≤ k) (hk1 : k < 1000) :
    ∀ (m : Nat) (lo x y : Int) (n : Nat) (o : Option D), 0 ≤ lo → lo + m ≤ 1000 → n + 32 * m ≤ 1000 → x.natAbs < 2 ^ n → 64 ≤ n → 0 ≤ y → y < 2147483647 → ∃ (x' : Int) (o4 o' : Option D), x'.natAbs < 2 ^ (n + 32 * m) ∧
      mLoop (mgName 5) b_box (rangeD lo m) [some s0, some (.int k), some c, some (.int x), some (.int y), o] = .nx [some s0, some (.int k), some c, some (.int x'), o4, o']
  | 0, lo, x, y, n, o, _, _, _, hx, _, _, _ => ⟨x, some (.int y), o, hx, by simp only [Mi.EVA, Mi.EVB, D.frz, frzs, D.plain, plains, List.length_cons, List.length_nil, List.length_set, Nat.reduceAdd, Nat.reduceLT, Nat.reduceLeDiff, sizeLine_eq, if_true, if_false, List.cons_append, List.nil_append, Option.map_some, Option.bind_some, Int.reduceToNat, Int.reducePow, Int.reduceNeg, Int.reduceEq, Int.reduceLT, Int.reduceLE, Int.reduceAdd, Int.reduceSub, Int.reduceMul, eq_self, Mi.dat]⟩
  | m + 1, lo, x, y, n, o, h0, h1, h2, hx, hn, y0, y1 => by
    obtain ⟨r, er⟩ : ∃ r, (y * 48271 + 7 * lo * lo + 11 * k + 1) % 2147483647 = r := ⟨_, rfl⟩
    have r0 : 0 ≤ r := by rw [← er]; exact Int.emod_nonneg _ (by decide)
    have r1 : r < 2147483647 := by rw [← er]; exact Int.emod_lt_of_pos _ (by decide)
    have c1 : CMulX x 2147483647 := cmulx_of hx (n := 31) (by decide) (by omega)
    have c2 : CMulX y 48271 := cmulx64 (by omega) (by decide)
    have c3 : CMulX 7 lo := cmulx64 (by decide) (by omega)
    have c4 : CMulX (7 * lo) lo := cmulx64 (by omega) (by omega)
    have c5 : CMulX 11 k := cmulx64 (by decide) (by omega)
    have p : (0 : Int) < 2147483647 := by decide
    have e1 : (x * 2147483647).natAbs < 2 ^ (n + 31) := natAbs_mul_lt hx (by decide)
    have e2 : (x * 2147483647 + r).natAbs < 2 ^ (n + 31 + 1) := natAbs_add_lt e1 (n := 31) (by omega) (by omega)
    obtain ⟨x', o4, o', hx', hl⟩ := box_loop s0 k c hk0 hk1 m (lo + 1) (x * 2147483647 + r) r (n + 32) (some (.int lo)) (by omega) (by omega) (by omega) e2 (by omega) r0 r1
    refine ⟨x', o4, o', by rw [show n + 32 * (m + 1) = n + 32 + 32 * m by omega]; exact hx', ?_⟩
    have hg : mgName 5 (.int lo) [some s0, some (.int k), some c, some (.int x), some (.int y), o] = some [some s0, some (.int k), some c, some (.int x), some (.int y), some (.int lo)] := rfl
    have hb : b_box [some s0, some (.int k), some c, some (.int x), some (.int y), some (.int lo)] = .nx [some s0, some (.int k), some c, some (.int (x * 2147483647 + r)), some (.int r), some (.int lo)] := by
      unfold b_box
      simp -implicitDefEqProofs only [Mi.EVA, Mi.EVB, D.frz, frzs, D.plain, plains, List.length_cons, List.length_nil, List.length_set, Nat.reduceAdd, Nat.reduceLT, Nat.reduceLeDiff, sizeLine_eq, if_true, if_false, List.cons_append, List.nil_append, Option.map_some, Option.bind_some, Int.reduceToNat, Int.reducePow, Int.reduceNeg, Int.reduceEq, Int.reduceLT, Int.reduceLE, Int.reduceAdd, Int.reduceSub, Int.reduceMul, eq_self, Mi.dat, c1, c2, c3, c4, c5, p, er]
    rw [Mi.rngS, Mi.mLoop_cons, hg, Mi.kl1_some, hb, Mi.kl2_nx, hl]
theorem v_box (ns : List Int) (k : Int) (h0 : 0 ≤ k) (hk : k < 1000) (hb : ∀ z ∈ ns, Builtin.Int.intBits z ≤ 1048576) : ∃ z : Int, F_w_box [.cst (ns.map D.int), .int k] = .ok (.own [.int z]) := by
  have hp := plains_ints ns
  have hz := frzs_ints ns
  obtain ⟨c, hc, ec⟩ := v_cell ns k h0 (by omega) hb
  have p2 : (0 : Int) < 2 := by decide
  have p3 : (0 : Int) < 2147483647 := by decide
  have w2 : CDivW c 2 := cdivw_small (by decide) (by decide)
  have s24 : small62 24 := by decide
  by_cases e : c % 2 = 0
  · refine ⟨c / 2, ?_⟩
    unfold F_w_box m_w_box
    simp only [Mi.EVA, Mi.EVB, D.frz, frzs, D.plain, plains, List.length_cons, List.length_nil, List.length_set, Nat.reduceAdd, Nat.reduceLT, Nat.reduceLeDiff, sizeLine_eq, if_true, if_false, List.cons_append, List.nil_append, Option.map_some, Option.bind_some, Int.reduceToNat, Int.reducePow, Int.reduceNeg, Int.reduceEq, Int.reduceLT, Int.reduceLE, Int.reduceAdd, Int.reduceSub, Int.reduceMul, eq_self, Mi.dat, hp, hz, ec, p2, e, w2]
  · obtain ⟨x', o4, o', _, hl⟩ := box_loop (.cst (ns.map D.int)) k (.int c) h0 hk 24 0 0 (c % 2147483647) 64 none (by decide) (by decide) (by decide) (by decide) (by decide) (Int.emod_nonneg _ (by decide)) (Int.emod_lt_of_pos _ (by decide))
    refine ⟨x', ?_⟩
    unfold b_box at hl
    unfold F_w_box m_w_box
    simp -implicitDefEqProofs only [Mi.EVA, Mi.EVB, D.frz, frzs, D.plain, plains, List.length_cons, List.length_nil, List.length_set, Nat.reduceAdd, Nat.reduceLT, Nat.reduceLeDiff, sizeLine_eq, if_true, if_false, List.cons_append, List.nil_append, Option.map_some, Option.bind_some, Int.reduceToNat, Int.reducePow, Int.reduceNeg, Int.reduceEq, Int.reduceLT, Int.reduceLE, Int.reduceAdd, Int.reduceSub, Int.reduceMul, eq_self, Mi.dat, hp, hz, ec, p2, p3, e, w2, s24, hl]
theorem at_mem {P : D → Prop} : ∀ {xs : List D} {i : Int}, (∀ x ∈ xs, P x) → 0 ≤ i → i < xs.length → ∃ x, atI xs i = some x ∧ P x := by
  intro xs i h h0 h1
  have hk : i.toNat < xs.length := by omega
  exact ⟨xs[i.toNat], by rw [atI_pos h0 hk, List.getElem?_eq_getElem hk], h _ (List.getElem_mem hk)⟩
end Lw

namespace Lw
open PySem PySem.Spec PyProof.Rows L2 Mi
variable [TabsC]
def rgF (lo : Int) (k : Nat) : List Int := (List.range k).map fun i : Nat => lo + i
theorem rgF_D (lo : Int) (k : Nat) : rangeD lo k = (rgF lo k).map D.int := by unfold rangeD rgF; rw [List.map_map]; rfl
theorem rgF_len (lo : Int) (k : Nat) : (rgF lo k).length = k := by unfold rgF; rw [List.length_map, List.length_range]
theorem mem_rgF {lo : Int} {k : Nat} {x : Int} : x ∈ rgF lo k ↔ lo ≤ x ∧ x < lo + k := by
  unfold rgF
  rw [List.mem_map]
  constructor
  · rintro ⟨i, hi, rfl⟩
    have := List.mem_range.mp hi
    omega
  · intro ⟨h1, h2⟩
    exact ⟨(x - lo).toNat, List.mem_range.mpr (by omega), by omega⟩
theorem rgF_lt (lo : Int) (k : Nat) : (rgF lo k).Pairwise (· < ·) := by
  unfold rgF
  rw [List.pairwise_map]
  exact List.Pairwise.imp (fun h => by omega) List.pairwise_lt_range
theorem ixN_nat {n j : Nat} (h : j < n) : ixN n (j : Int) = some j := by
  unfold ixN
  rw [if_pos (by omega), if_pos (by omega), Int.toNat_natCast]
theorem erase_perm {α : Type} (l : List α) (i : Nat) (h : i < l.length) : (l[i] :: l.eraseIdx i).Perm l := by
  rw [List.eraseIdx_eq_take_drop_succ]
  have e : l = l.take i ++ l[i] :: l.drop (i + 1) := by
    rw [List.getElem_cons_drop, List.take_append_drop]
  exact (List.perm_middle.symm).trans (by rw [← e])
theorem at_int {ns : List Int} {i : Int} (h0 : 0 ≤ i) (h1 : i < ns.length) : atI (ns.map D.int) i = some (.int (ns.getD i.toNat 0)) := by
  have hk : i.toNat < ns.length := by omega
  rw [atI_pos h0 (by rw [List.length_map]; exact hk), List.getElem?_map, List.getElem?_eq_getElem hk, List.getD_eq_getElem?_getD, List.getElem?_eq_getElem hk]
  rfl
theorem eqv_ints : ∀ ns ms : List Int, PyData.eqvAll (ns.map PyData.int) (ms.map PyData.int) = decide (ns = ms)
  | [], [] => by simp [PyData.eqvAll]
  | [], m :: ms => by simp [PyData.eqvAll]
  | n :: ns, [] => by simp [PyData.eqvAll]
  | n :: ns, m :: ms => by
    show PyData.eqvAll (PyData.int n :: ns.map PyData.int) (PyData.int m :: ms.map PyData.int) = _
    unfold PyData.eqvAll
    rw [eqv_ints ns ms]
    by_cases h : n = m
    · subst h
      by_cases q : ns = ms <;> simp [PyData.eqv, q]
    · simp [PyData.eqv, h]
theorem eqv_T (a b : List Int) : PyData.eqv (pyT a) (pyT b) = decide (a = b) := by
  unfold pyT PyData.eqv
  exact eqv_ints a b
theorem eqv_Ts : ∀ ns ms : List (List Int), PyData.eqvAll (ns.map pyT) (ms.map pyT) = decide (ns = ms)
  | [], [] => by simp [PyData.eqvAll]
  | [], m :: ms => by simp [PyData.eqvAll]
  | n :: ns, [] => by simp [PyData.eqvAll]
  | n :: ns, m :: ms => by
    show PyData.eqvAll (pyT n :: ns.map pyT) (pyT m :: ms.map pyT) = _
    unfold PyData.eqvAll
    rw [eqv_Ts ns ms, eqv_T]
    by_cases h : n = m
    · subst h
      by_cases q : ns = ms <;> simp [q]
    · simp [h]
theorem any_T (p : List Int) : ∀ zs : List (List Int), ((zs.map pyT).any fun z => PyData.eqv z (pyT p)) = decide (p ∈ zs)
  | [] => by simp
  | z :: zs => by
    rw [List.map_cons, List.any_cons, any_T p zs, eqv_T]
    by_cases h : z = p
    · subst h; simp
    · have h' : ¬ p = z := fun e => h e.symm
      simp [h, h']
theorem any_Z (i : Int) : ∀ ns : List Int, ((ns.map PyData.int).any fun z => PyData.eqv z (.int i)) = decide (i ∈ ns)
  | [] => by simp
  | z :: zs => by
    rw [List.map_cons, List.any_cons, any_Z i zs]
    by_cases h : z = i
    · subst h; simp [PyData.eqv]
    · have h' : ¬ i = z := fun e => h e.symm
      simp [PyData.eqv, h, h']
theorem lay_ints : ∀ ns : List Int, PyData.canLayAll0 (ns.map PyData.int) = true
  | [] => rfl
  | n :: ns => by
    show PyData.canLayAll0 (PyData.int n :: ns.map PyData.int) = true
    unfold PyData.canLayAll0
    rw [lay_ints ns]
    rfl
theorem lay_T (z : List Int) : (pyT z).canLay0 = true := by unfold pyT PyData.canLay0; exact lay_ints z
theorem dep_T (z : List Int) : (pyT z).depth ≤ 2 := by unfold pyT PyData.depth; have := depth_ints z; omega
theorem lay_Ts : ∀ zs : List (List Int), PyData.canLayAll0 (zs.map pyT) = true
  | [] => rfl
  | z :: zs => by
    show PyData.canLayAll0 (pyT z :: zs.map pyT) = true
    unfold PyData.canLayAll0
    rw [lay_Ts zs, lay_T]
    rfl
theorem dep_Ts : ∀ zs : List (List Int), PyData.depthAll (zs.map pyT) ≤ 3
  | [] => by show PyData.depthAll [] ≤ 3; unfold PyData.depthAll; omega
  | z :: zs => by
    show PyData.depthAll (pyT z :: zs.map pyT) ≤ 3
    unfold PyData.depthAll
    have := dep_T z
    have := dep_Ts zs
    omega
theorem shp_i (i : Int) : SeqAt.shaped (.int i) = true := by rfl
theorem shp_T (z : List Int) : SeqAt.shaped (pyT z) = true := by
  unfold SeqAt.shaped
  rw [lay_T]
  have := dep_T z
  simp; omega
theorem shp_Tt (zs : List (List Int)) : SeqAt.shaped (.tuple (zs.map pyT)) = true := by
  unfold SeqAt.shaped PyData.canLay0 PyData.depth
  rw [lay_Ts]
  have := dep_Ts zs
  simp; omega
theorem shp_Tl (zs : List (List Int)) : SeqAt.shaped (.list (zs.map pyT)) = true := by
  unfold SeqAt.shaped PyData.canLay0 PyData.depth
  rw [lay_Ts]
  have := dep_Ts zs
  simp; omega
theorem toPy_T (z : List Int) : toPy (tupZ z) = some (pyT z) := by
  show (toPys (z.map D.int)).map PyData.tuple = _
  rw [toPys_intsZ]; rfl
theorem toPy_Tt (zs : List (List Int)) : toPy (.tup (zs.map tupZ)) = some (.tuple (zs.map pyT)) := by
  show (toPys (zs.map tupZ)).map PyData.tuple = _
  rw [toPys_tups]; rfl
theorem toPy_To (zs : List (List Int)) : toPy (.own (zs.map tupZ)) = some (.list (zs.map pyT)) := by
  show (toPys (zs.map tupZ)).map PyData.list = _
  rw [toPys_tups]; rfl
theorem toPy_Tl (zs : List (List Int)) : toPy (.lst (zs.map tupZ)) = some (.list (zs.map pyT)) := by
  show (toPys (zs.map tupZ)).map PyData.list = _
  rw [toPys_tups]; rfl
theorem pyIn_Tt {b : Bool} {p : List Int} {zs : List (List Int)} : pyIn b (tupZ p) (.tup (zs.map tupZ)) = some (.bl (xor b (decide (p ∈ zs)))) := by
  unfold pyIn
  rw [toPy_T, toPy_Tt]
  show (if (SeqAt.shaped (pyT p) && SeqAt.shaped (.tuple (zs.map pyT))) = true then some (D.bl (xor b ((zs.map pyT).any fun z => PyData.eqv z (pyT p)))) else none) = _
  rw [shp_T, shp_Tt, any_T]
  rfl
theorem pyIn_Tl {b : Bool} {p : List Int} {zs : List (List Int)} : pyIn b (tupZ p) (.lst (zs.map tupZ)) = some (.bl (xor b (decide (p ∈ zs)))) := by
  unfold pyIn
  rw [toPy_T, toPy_Tl]
  show (if (SeqAt.shaped (pyT p) && SeqAt.shaped (.list (zs.map pyT))) = true then some (D.bl (xor b ((zs.map pyT).any fun z => PyData.eqv z (pyT p)))) else none) = _
  rw [shp_T, shp_Tl, any_T]
  rfl
theorem dIn_Tt {p : List Int} {zs : List (List Int)} : dIn (tupZ p) (.tup (zs.map tupZ)) = some (.bl (decide (p ∈ zs))) := by
  unfold dIn; rw [pyIn_Tt, Bool.false_xor]
theorem dIn_2 {a b : Int} {zs : List (List Int)} : dIn (.tup [.int a, .int b]) (.tup (zs.map tupZ)) = some (.bl (decide ([a, b] ∈ zs))) := dIn_Tt (p := [a, b])
theorem dNotIn_Tl {p : List Int} {zs : List (List Int)} : dNotIn (tupZ p) (.lst (zs.map tupZ)) = some (.bl (!decide (p ∈ zs))) := by
  unfold dNotIn; rw [pyIn_Tl, Bool.true_xor]
theorem dNe_T {p q : List Int} : dNe (tupZ p) (tupZ q) = some (.bl (!decide (p = q))) := by
  unfold dNe pyEq
  rw [toPy_T, toPy_T]
  show ((if (SeqAt.shaped (pyT p) && SeqAt.shaped (pyT q)) = true then some (PyData.eqv (pyT p) (pyT q)) else none).map _) = _
  rw [shp_T, shp_T, eqv_T]
  rfl
def webD (n : Int) (ps : List (List Int)) : D := .tup [.int n, .tup (ps.map tupZ)]
theorem plain_T (z : List Int) : (tupZ z).plain = true := plains_intsZ z
theorem frz_T (z : List Int) : (tupZ z).frz = tupZ z := frz_plain _ (plain_T z)
theorem frzs_Ts (zs : List (List Int)) : frzs (zs.map tupZ) = zs.map tupZ := frzs_plain _ (plains_tups zs)
def ltT (a b : List Int) : Prop := lexZ a b = true ∧ a ≠ b
theorem ltT_srt {l : List (List Int)} (h : l.Pairwise ltT) : l.Pairwise (fun a b => lexZ a b = true) := h.imp fun h => h.1
theorem ltT_nodup {l : List (List Int)} (h : l.Pairwise ltT) : l.Nodup := h.imp fun h => h.2
theorem ltT_cons {a b : Int} {x y : List Int} (h : a < b) : ltT (a :: x) (b :: y) := by
  refine ⟨?_, fun e => ?_⟩
  · show lexZ (a :: x) (b :: y) = true
    unfold lexZ
    simp [h]
  · have := (List.cons.inj e).1
    omega
theorem ltT_step {a : Int} {x y : List Int} (h : ltT x y) : ltT (a :: x) (a :: y) := by
  refine ⟨?_, fun e => h.2 (List.cons.inj e).2⟩
  show lexZ (a :: x) (a :: y) = true
  have := h.1
  unfold lexZ
  simp [this]
def allP (n : Nat) : List (List Int) := (rgF 0 n).flatMap fun i => (rgF (i + 1) ((n : Int) - (i + 1)).toNat).map fun j => [i, j]
def colP (n : Nat) : List (List Int) := (rgF 0 n).flatMap fun j => (rgF 0 j.toNat).map fun i => [i, j]
theorem mem_allP {n : Nat} {p : List Int} : p ∈ allP n ↔ ∃ i j : Int, p = [i, j] ∧ 0 ≤ i ∧ i < j ∧ j < n := by
  unfold allP
  rw [List.mem_flatMap]
  constructor
  · rintro ⟨i, hi, hp⟩
    obtain ⟨j, hj, rfl⟩ := List.mem_map.mp hp
    have := mem_rgF.mp hi
    have := mem_rgF.mp hj
    exact ⟨i, j, rfl, by omega, by omega, by omega⟩
  · rintro ⟨i, j, rfl, h1, h2, h3⟩
    exact ⟨i, mem_rgF.mpr ⟨by omega, by omega⟩, List.mem_map.mpr ⟨j, mem_rgF.mpr ⟨by omega, by omega⟩, rfl⟩⟩
theorem mem_colP {n : Nat} {p : List Int} : p ∈ colP n ↔ ∃ i j : Int, p = [i, j] ∧ 0 ≤ i ∧ i < j ∧ j < n := by
  unfold colP
  rw [List.mem_flatMap]
  constructor
  · rintro ⟨j, hj, hp⟩
    obtain ⟨i, hi, rfl⟩ := List.mem_map.mp hp
    have := mem_rgF.mp hi
    have := mem_rgF.mp hj
    exact ⟨i, j, rfl, by omega, by omega, by omega⟩
  · rintro ⟨i, j, rfl, h1, h2, h3⟩
    exact ⟨j, mem_rgF.mpr ⟨by omega, by omega⟩, List.mem_map.mpr ⟨i, mem_rgF.mpr ⟨by omega, by omega⟩, rfl⟩⟩
theorem allP_lt (n : Nat) : (allP n).Pairwise ltT := by
  unfold allP
  rw [List.pairwise_flatMap]
  refine ⟨fun i _ => ?_, (rgF_lt 0 n).imp fun {a b} h => ?_⟩
  · rw [List.pairwise_map]
    exact (rgF_lt _ _).imp fun h => ltT_step (ltT_cons h)
  · intro x hx y hy
    obtain ⟨_, _, rfl⟩ := List.mem_map.mp hx
    obtain ⟨_, _, rfl⟩ := List.mem_map.mp hy
    exact ltT_cons h
theorem colP_nodup (n : Nat) : (colP n).Nodup := by
  unfold colP List.Nodup
  rw [List.pairwise_flatMap]
  refine ⟨fun i _ => ?_, (rgF_lt 0 n).imp fun {a b} h => ?_⟩
  · rw [List.pairwise_map]
    exact (rgF_lt _ _).imp fun h e => by have := (List.cons.inj e).1; omega
  · intro x hx y hy e
    obtain ⟨_, _, rfl⟩ := List.mem_map.mp hx
    obtain ⟨_, _, rfl⟩ := List.mem_map.mp hy
    have := (List.cons.inj (List.cons.inj e).2).1
    omega
theorem allP_nodup (n : Nat) : (allP n).Nodup := ltT_nodup (allP_lt n)
theorem allP_colP (n : Nat) : (allP n).Perm (colP n) := perm_nodup (allP_nodup n) (colP_nodup n) fun x => by rw [mem_allP, mem_colP]
theorem len_flat {α β : Type} (f : α → List β) (m : Nat) : ∀ l : List α, (∀ a ∈ l, (f a).length ≤ m) → (l.flatMap f).length ≤ m * l.length
  | [], _ => by simp
  | a :: l, h => by
    rw [List.flatMap_cons, List.length_append, List.length_cons]
    have := len_flat f m l fun x hx => h x (List.mem_cons_of_mem _ hx)
    have := h a List.mem_cons_self
    rw [Nat.mul_succ]
    omega
theorem allP_len {n : Nat} (h : n ≤ 16) : (allP n).length ≤ 256 := by
  have := len_flat (fun i : Int => (rgF (i + 1) ((n : Int) - (i + 1)).toNat).map fun j => [i, j]) 16 (rgF 0 n) (fun a ha => by
    rw [List.length_map, rgF_len]
    have := mem_rgF.mp ha
    omega)
  rw [rgF_len] at this
  unfold allP
  omega
theorem colP_len {n : Nat} (h : n ≤ 16) : (colP n).length ≤ 256 := by rw [← (allP_colP n).length_eq]; exact allP_len h
structure Pl (n : Nat) (zs : List (List Int)) : Prop where
  nd : zs.Nodup
  inn : ∀ z ∈ zs, z ∈ allP n
structure Web (n : Nat) (ps : List (List Int)) : Prop where
  n1 : 1 ≤ n
  n16 : n ≤ 16
  ps : ps = (allP n).filter fun p => decide (p ∈ ps)
theorem filter_mem {zs : List (List Int)} {n : Nat} (h : Pl n zs) : ((allP n).filter fun p => decide (p ∈ zs)).Perm zs :=
  perm_nodup ((allP_nodup n).filter _) h.nd fun x => by
    rw [List.mem_filter, decide_eq_true_eq]
    exact ⟨fun h => h.2, fun g => ⟨h.inn x g, g⟩⟩
theorem Pl.sort {n : Nat} {zs : List (List Int)} (h : Pl n zs) : sortT zs = (allP n).filter fun p => decide (p ∈ zs) :=
  (sortT_uniq (filter_mem h) (ltT_srt ((allP_lt n).filter _))).symm
theorem Pl.web {n : Nat} {zs : List (List Int)} (h : Pl n zs) (h1 : 1 ≤ n) (h2 : n ≤ 16) : Web n (sortT zs) := by
  refine ⟨h1, h2, ?_⟩
  have e : (fun p => decide (p ∈ sortT zs)) = fun p => decide (p ∈ zs) := by
    funext p
    exact decide_eq_decide.mpr (sortT_perm zs).mem_iff
  rw [e]
  exact h.sort
theorem sortT_id {zs : List (List Int)} (h : zs.Pairwise ltT) : sortT zs = zs := (sortT_uniq (List.Perm.refl _) (ltT_srt h)).symm
theorem web_of_sub {n : Nat} {zs : List (List Int)} (h : zs.Sublist (allP n)) (h1 : 1 ≤ n) (h2 : n ≤ 16) : Web n zs := by
  have p : zs.Pairwise ltT := (allP_lt n).sublist h
  have := Pl.web (zs := zs) ⟨ltT_nodup p, fun z hz => h.subset hz⟩ h1 h2
  rw [sortT_id p] at this
  exact this
section
variable {n : Nat} {ps : List (List Int)} (W : Web n ps)
include W
theorem Web.sub : ps.Sublist (allP n) := by
  have := List.filter_sublist (l := allP n) (p := fun p => decide (p ∈ ps))
  rw [← W.ps] at this
  exact this
theorem Web.lt : ps.Pairwise ltT := (allP_lt n).sublist W.sub
theorem Web.nd : ps.Nodup := ltT_nodup W.lt
theorem Web.inn : ∀ z ∈ ps, ∃ i j : Int, z = [i, j] ∧ 0 ≤ i ∧ i < j ∧ j < n := fun z hz => mem_allP.mp (W.sub.subset hz)
theorem Web.len : ps.length ≤ 256 := Nat.le_trans W.sub.length_le (allP_len W.n16)
theorem Web.pl : Pl n ps := ⟨W.nd, fun z hz => W.sub.subset hz⟩
end
theorem loop_app {α β : Type} {g : MG} {body : MS} (m : α → D) (P : List β → Mi.Env → Prop) (f : α → List β) (B : Nat) : ∀ (xs : List α), (∀ x ∈ xs, ∀ acc e, P acc e → acc.length + (f x).length ≤ B → ∃ e1 e2, g (m x) e = some e1 ∧ body e1 = .nx e2 ∧ P (acc ++ f x) e2) →
    ∀ acc e, P acc e → acc.length + (xs.flatMap f).length ≤ B → ∃ e', mLoop g body (xs.map m) e = .nx e' ∧ P (acc ++ xs.flatMap f) e'
  | [], _, acc, e, p, _ => ⟨e, rfl, by rw [List.flatMap_nil, List.append_nil]; exact p⟩
  | x :: xs, h, acc, e, p, hl => by
    rw [List.flatMap_cons, List.length_append] at hl
    obtain ⟨e1, e2, h1, h2, h3⟩ := h x List.mem_cons_self acc e p (by omega)
    obtain ⟨e', h4, h5⟩ := loop_app m P f B xs (fun y hy => h y (List.mem_cons_of_mem _ hy)) (acc ++ f x) e2 h3 (by rw [List.length_append]; omega)
    refine ⟨e', ?_, by rw [List.flatMap_cons, ← List.append_assoc]; exact h5⟩
    rw [List.map_cons, mLoop_cons, h1, kl1_some, h2, kl2_nx, h4]
end Lw

namespace Lw
open PySem PySem.Spec PyProof.Rows L2 Mi
variable [TabsC]
def szs : List Nat := [5, 13, 6, 10, 15, 4, 9, 16, 12, 16]
def chkK (k : Nat) : Bool := match F_w_known [.int k] with
  | .ok (.tup [.int n, .tup ds]) => (match tupsD ds with | some zs => decide (n = (szs.getD k 0 : Nat)) && decide (zs = (allP (szs.getD k 0)).filter fun p => decide (p ∈ zs)) | none => false)
  | _ => false
theorem chk_all : ∀ k < 10, chkK k = true := by decide +kernel
theorem v_known {k : Nat} (hk : k < 10) : ∃ ps, F_w_known [.int (k : Int)] = .ok (webD ((szs.getD k 0 : Nat) : Int) ps) ∧ Web (szs.getD k 0) ps := by
  have h := chk_all k hk
  have hs : ∀ k < 10, 1 ≤ szs.getD k 0 ∧ szs.getD k 0 ≤ 16 := by decide
  obtain ⟨s1, s2⟩ := hs k hk
  unfold chkK at h
  split at h
  · rename_i n ds e
    split at h
    · rename_i zs ez
      rw [Bool.and_eq_true, decide_eq_true_eq, decide_eq_true_eq] at h
      obtain ⟨rfl, hz⟩ := h
      rw [tupsD_eq ez] at e
      exact ⟨zs, e, s1, s2, hz⟩
    · cases h
  · cases h
end Lw

namespace Lw
open PySem PySem.Spec PyProof.Rows L2 Mi
variable [TabsC]
theorem lc_sub {α β : Type} {vs : List Nat} {g : MG} {tt : MT} {te : ME} (P : Mi.Env → Prop) (f : α → β) (mD : α → D) (mB : β → D) : ∀ (xs : List α) (acc : List D) (e : Mi.Env),
    (∀ x ∈ xs, ∀ e, P e → ∃ e1 b e2, g (mD x) e = some e1 ∧ tt e1 = .ok (b, e2) ∧ (b = true → ∃ e3, te e2 = .ok (mB (f x), e3) ∧ P (wipeE e3 vs)) ∧ (b = false → P (wipeE e2 vs))) → acc.length + xs.length ≤ sizeLine → P e →
    ∃ (e' : Mi.Env) (out : List β), mLcLoop vs g tt te (xs.map mD) acc e = .ok (.own (acc ++ out.map mB), e') ∧ out.Sublist (xs.map f) ∧ P e'
  | [], acc, e, _, _, p => ⟨e, [], by rw [List.map_nil, Mi.lc_nil, List.map_nil, List.append_nil], List.Sublist.refl _, p⟩
  | x :: xs, acc, e, h, hl, p => by
    obtain ⟨e1, b, e2, h1, h2, h3, h4⟩ := h x List.mem_cons_self e p
    rw [List.length_cons] at hl
    cases b with
    | true =>
      obtain ⟨e3, h5, h6⟩ := h3 rfl
      obtain ⟨e', out, k1, k2, k3⟩ := lc_sub P f mD mB xs (acc ++ [mB (f x)]) (wipeE e3 vs) (fun y hy => h y (List.mem_cons_of_mem _ hy)) (by rw [List.length_append, List.length_singleton]; omega) h6
      refine ⟨e', f x :: out, ?_, by rw [List.map_cons]; exact k2.cons₂ _, k3⟩
      rw [List.map_cons, Mi.lc_cons, h1, Mi.kz1_some, h2, Mi.kz2_ok, if_pos rfl, h5, Mi.kz3_ok, if_pos (by omega), k1, List.map_cons, List.append_assoc]
      rfl
    | false =>
      obtain ⟨e', out, k1, k2, k3⟩ := lc_sub P f mD mB xs acc (wipeE e2 vs) (fun y hy => h y (List.mem_cons_of_mem _ hy)) (by omega) (h4 rfl)
      refine ⟨e', out, ?_, by rw [List.map_cons]; exact k2.cons _, k3⟩
      rw [List.map_cons, Mi.lc_cons, h1, Mi.kz1_some, h2, Mi.kz2_ok, if_neg (by decide), k1]
theorem lc_fil {α β : Type} {vs : List Nat} {g : MG} {tt : MT} {te : ME} (P : Mi.Env → Prop) (q : α → Bool) (f : α → β) (mD : α → D) (mB : β → D) : ∀ (xs : List α) (acc : List D) (e : Mi.Env),
    (∀ x ∈ xs, ∀ e, P e → ∃ e1 e2, g (mD x) e = some e1 ∧ tt e1 = .ok (q x, e2) ∧ (q x = true → ∃ e3, te e2 = .ok (mB (f x), e3) ∧ P (wipeE e3 vs)) ∧ (q x = false → P (wipeE e2 vs))) → acc.length + xs.length ≤ sizeLine → P e →
    ∃ e', mLcLoop vs g tt te (xs.map mD) acc e = .ok (.own (acc ++ ((xs.filter q).map f).map mB), e') ∧ P e'
  | [], acc, e, _, _, p => ⟨e, by rw [List.map_nil, Mi.lc_nil, List.filter_nil, List.map_nil, List.map_nil, List.append_nil], p⟩
  | x :: xs, acc, e, h, hl, p => by
    obtain ⟨e1, e2, h1, h2, h3, h4⟩ := h x List.mem_cons_self e p
    rw [List.length_cons] at hl
    cases b : q x with
    | true =>
      rw [b] at h2
      obtain ⟨e3, h5, h6⟩ := h3 b
      obtain ⟨e', k1, k3⟩ := lc_fil P q f mD mB xs (acc ++ [mB (f x)]) (wipeE e3 vs) (fun y hy => h y (List.mem_cons_of_mem _ hy)) (by rw [List.length_append, List.length_singleton]; omega) h6
      refine ⟨e', ?_, k3⟩
      rw [List.map_cons, Mi.lc_cons, h1, Mi.kz1_some, h2, Mi.kz2_ok, if_pos rfl, h5, Mi.kz3_ok, if_pos (by omega), k1, List.filter_cons, if_pos b, List.map_cons, List.map_cons, List.append_assoc]
      rfl
    | false =>
      rw [b] at h2
      obtain ⟨e', k1, k3⟩ := lc_fil P q f mD mB xs acc (wipeE e2 vs) (fun y hy => h y (List.mem_cons_of_mem _ hy)) (by omega) (h4 b)
      refine ⟨e', ?_, k3⟩
      rw [List.map_cons, Mi.lc_cons, h1, Mi.kz1_some, h2, Mi.kz2_ok, if_neg (by decide), k1, List.filter_cons, if_neg (by rw [b]; decide)]
theorem loop_subs {α β : Type} {g : MG} {body : MS} (m : α → D) (P : List β → Mi.Env → Prop) (f : α → List β) (B : Nat) : ∀ (xs : List α), (∀ x ∈ xs, ∀ acc e, P acc e → acc.length + (f x).length ≤ B → ∃ (e1 e2 : Mi.Env) (out : List β), g (m x) e = some e1 ∧ body e1 = .nx e2 ∧ out.Sublist (f x) ∧ P (acc ++ out) e2) →
    ∀ acc e, P acc e → acc.length + (xs.flatMap f).length ≤ B → ∃ (e' : Mi.Env) (out : List β), mLoop g body (xs.map m) e = .nx e' ∧ out.Sublist (xs.flatMap f) ∧ P (acc ++ out) e'
  | [], _, acc, e, p, _ => ⟨e, [], rfl, List.Sublist.refl _, by rw [List.append_nil]; exact p⟩
  | x :: xs, h, acc, e, p, hl => by
    rw [List.flatMap_cons, List.length_append] at hl
    obtain ⟨e1, e2, out, h1, h2, hs, h3⟩ := h x List.mem_cons_self acc e p (by omega)
    have := hs.length_le
    obtain ⟨e', out2, h4, hs2, h5⟩ := loop_subs m P f B xs (fun y hy => h y (List.mem_cons_of_mem _ hy)) (acc ++ out) e2 h3 (by rw [List.length_append]; omega)
    refine ⟨e', out ++ out2, ?_, by rw [List.flatMap_cons]; exact hs.append hs2, by rw [← List.append_assoc]; exact h5⟩
    rw [List.map_cons, Mi.mLoop_cons, h1, Mi.kl1_some, h2, Mi.kl2_nx, h4]
theorem shuf_loop (s : Int) : ∀ (k : Nat) (lo : Int) (left acc : List Int) (z : Int), left.length = k → k ≤ 16 → acc.length + k ≤ 30 →
    ∃ (z' : Int) (out : List Int), mLcLoop [3] (mgName 3) mYes (mPopAt 2 (mCallO F_w_take 0 (mCons (mBor (mOpL (fn1 dLen) (mCons (mVar 2) (mNil)))) (mNil)))) (rangeD lo k) (acc.map D.int) [some (.own [.int z]), some (.int s), some (.own (left.map D.int)), none] = .ok (.own ((acc ++ out).map D.int), [some (.own [.int z']), some (.int s), some (.own []), none]) ∧ out.Perm left
  | 0, lo, left, acc, z, hl, _, _ => by
    obtain rfl := List.eq_nil_of_length_eq_zero hl
    exact ⟨z, [], by rw [List.append_nil]; rfl, List.Perm.refl _⟩
  | k + 1, lo, left, acc, z, hl, h4, ha => by
    have hn : (0 : Int) < left.length := by omega
    have tk := v_take z left.length hn (by omega)
    obtain ⟨j, hj⟩ : ∃ j : Nat, z % (left.length : Int) = j := ⟨(z % (left.length : Int)).toNat, by have := Int.emod_nonneg z (show (left.length : Int) ≠ 0 by omega); omega⟩
    have jl : j < left.length := by
      have := Int.emod_lt_of_pos z hn
      omega
    obtain ⟨z', out, h, hp⟩ := shuf_loop s k (lo + 1) (left.eraseIdx j) (acc ++ [left[j]]) (z / left.length) (by rw [List.length_eraseIdx_of_lt jl]; omega) (by omega) (by rw [List.length_append, List.length_singleton]; omega)
    refine ⟨z', left[j] :: out, ?_, (List.Perm.cons _ hp).trans (erase_perm left j jl)⟩
    have pl := plains_ints left
    have fz := frzs_ints left
    have bd : (mPopAt 2 (mCallO F_w_take 0 (mCons (mBor (mOpL (fn1 dLen) (mCons (mVar 2) (mNil)))) (mNil)))) [some (.own [.int z]), some (.int s), some (.own (left.map D.int)), some (.int lo)] = .ok (.int left[j], [some (.own [.int (z / left.length)]), some (.int s), some (.own ((left.eraseIdx j).map D.int)), some (.int lo)]) := by
      have ix : ixN (left.map D.int).length (j : Int) = some j := ixN_nat (by rw [List.length_map]; exact jl)
      have gt : (left.map D.int)[j]? = some (.int left[j]) := by rw [List.getElem?_map, List.getElem?_eq_getElem jl]; rfl
      have ln : (left.map D.int).length < 2 ^ 62 := by rw [List.length_map]; omega
      have er : (left.map D.int).eraseIdx j = (left.eraseIdx j).map D.int := by rw [List.eraseIdx_eq_take_drop_succ, List.eraseIdx_eq_take_drop_succ, List.map_append, List.map_take, List.map_drop]
      unfold mPopAt
      simp -implicitDefEqProofs only [Mi.EVA, Mi.EVB, D.frz, frzs, D.plain, plains, List.length_cons, List.length_nil, List.length_set, Nat.reduceAdd, Nat.reduceLT, Nat.reduceLeDiff, sizeLine_eq, if_true, if_false, List.cons_append, List.nil_append, Option.map_some, Option.bind_some, Int.reduceToNat, Int.reducePow, Int.reduceNeg, Int.reduceEq, Int.reduceLT, Int.reduceLE, Int.reduceAdd, Int.reduceSub, Int.reduceMul, eq_self, Mi.dat, pl, fz, List.length_map, tk, hj]
      have kw2 : kw ([some (.own [.int (z / left.length)]), some (.int s), some (.own (left.map D.int)), some (.int lo)] : List (Option D))[2]? = some (left.map D.int) := rfl
      simp only [Rs.bind, kw2, ix, gt, er, if_pos ln, List.set]
    have hg : mgName 3 (.int lo) [some (.own [.int z]), some (.int s), some (.own (left.map D.int)), none] = some [some (.own [.int z]), some (.int s), some (.own (left.map D.int)), some (.int lo)] := rfl
    have ey : ∀ e, mYes e = .ok (true, e) := fun _ => rfl
    rw [Mi.rngS, Mi.lc_cons, hg, Mi.kz1_some, ey, Mi.kz2_ok, if_pos rfl, bd, Mi.kz3_ok, if_pos (by rw [List.length_map, sizeLine_eq]; omega)]
    rw [List.map_append, List.append_assoc] at h
    exact h
theorem dTuple_ow {ds : List D} : dTuple (.own ds) = some (.tup (frzs ds)) := rfl
theorem dTuple_ls {ds : List D} : dTuple (.lst ds) = some (.tup (frzs ds)) := rfl
theorem rg16 {s : Nat} (hs : s ≤ 16) : RgOk 0 s := by
  unfold RgOk
  refine ⟨by omega, by omega, ?_⟩
  omega
theorem v_order (z : Int) {s : Nat} (hs : s ≤ 16) : ∃ (z' : Int) (l : List Int), l.Perm (rgF 0 s) ∧ F_w_order [.int z] [.int (s : Int)] = .ok (.tup (l.map D.int)) [.int z'] := by
  have s62 : small62 (s : Int) := ⟨by omega, by omega⟩
  have en : ((s : Int)).toNat = s := Int.toNat_natCast s
  obtain ⟨z', l, h, hp⟩ := shuf_loop (s : Int) s 0 (rgF 0 s) [] z (rgF_len 0 s) hs (by simp; omega)
  have rg := rg16 hs
  rw [← rgF_D, List.nil_append, List.map_nil] at h
  refine ⟨z', l, hp, ?_⟩
  unfold F_w_order m_w_order
  simp -implicitDefEqProofs only [Mi.EVA, Mi.EVB, D.frz, frzs, D.plain, plains, List.length_cons, List.length_nil, List.length_set, Nat.reduceAdd, Nat.reduceLT, Nat.reduceLeDiff, sizeLine_eq, if_true, if_false, List.cons_append, List.nil_append, Option.map_some, Option.bind_some, Int.reduceToNat, Int.reducePow, Int.reduceNeg, Int.reduceEq, Int.reduceLT, Int.reduceLE, Int.reduceAdd, Int.reduceSub, Int.reduceMul, eq_self, Mi.dat, s62, en, rg, h, frzs_ints, dTuple_ow]
end Lw

namespace Lw
open PySem PySem.Spec PyProof.Rows L2 Mi
variable [TabsC]
theorem add_lo {x y : List (List Int)} (h : x.length + y.length ≤ 1000) : dAdd (.lst (x.map tupZ)) (.own (y.map tupZ)) = some (.own ((x ++ y).map tupZ)) := by
  rw [dAdd_lo (by rw [List.length_map, List.length_map, sizeLine_eq]; omega), List.map_append]
theorem add_oo {x y : List (List Int)} (h : x.length + y.length ≤ 1000) : dAdd (.own (x.map tupZ)) (.own (y.map tupZ)) = some (.own ((x ++ y).map tupZ)) := by
  rw [dAdd_oo (by rw [List.length_map, List.length_map, sizeLine_eq]; omega), List.map_append]
theorem dEq_ii {i j : Int} : dEq (.int i) (.int j) = some (.bl (decide (i = j))) := dEq_int
theorem draw_row (c : Int) (hc : 0 < c) (hc2 : c < 2 ^ 64) (i : Int) (k : Nat) (hk : k ≤ 16) (o1 o2 o3 o4 o5 o6 o8 o10 o12 : Option D) (z : Int) :
    ∃ (z' : Int) (out : List (List Int)), mLcLoop [11] (mgName 11) (mT (mOp2 dEq (mCallO F_w_take 0 (mCons (mVar 7) (mNil))) (mC (.int 0)))) (mTup (mCons (mVar 9) (mCons (mVar 11) (mNil)))) (rangeD (i + 1) k) [] [some (.own [.int z]), o1, o2, o3, o4, o5, o6, some (.int c), o8, some (.int i), o10, none, o12, none] =
      .ok (.own (out.map tupZ), [some (.own [.int z']), o1, o2, o3, o4, o5, o6, some (.int c), o8, some (.int i), o10, none, o12, none]) ∧ out.Sublist ((rgF (i + 1) k).map fun j => [i, j]) := by
  obtain ⟨e', out, h1, h2, z', rfl⟩ := lc_sub (vs := [11]) (g := mgName 11) (tt := mT (mOp2 dEq (mCallO F_w_take 0 (mCons (mVar 7) (mNil))) (mC (.int 0)))) (te := mTup (mCons (mVar 9) (mCons (mVar 11) (mNil))))
    (fun e => ∃ z : Int, e = [some (.own [.int z]), o1, o2, o3, o4, o5, o6, some (.int c), o8, some (.int i), o10, none, o12, none]) (fun j => [i, j]) D.int tupZ (rgF (i + 1) k) [] _ (fun x _ e he => by
    obtain ⟨z, rfl⟩ := he
    have tk := v_take z c hc hc2
    refine ⟨_, decide (z % c = 0), [some (.own [.int (z / c)]), o1, o2, o3, o4, o5, o6, some (.int c), o8, some (.int i), o10, some (.int x), o12, none], rfl, ?_, fun _ => ⟨[some (.own [.int (z / c)]), o1, o2, o3, o4, o5, o6, some (.int c), o8, some (.int i), o10, some (.int x), o12, none], ?_, z / c, rfl⟩, fun _ => ⟨z / c, rfl⟩⟩
    · simp -implicitDefEqProofs only [Mi.EVA, Mi.EVB, D.frz, frzs, D.plain, plains, List.length_cons, List.length_nil, List.length_set, Nat.reduceAdd, Nat.reduceLT, Nat.reduceLeDiff, sizeLine_eq, if_true, if_false, List.cons_append, List.nil_append, Option.map_some, Option.bind_some, Int.reduceToNat, Int.reducePow, Int.reduceNeg, Int.reduceEq, Int.reduceLT, Int.reduceLE, Int.reduceAdd, Int.reduceSub, Int.reduceMul, eq_self, Mi.dat, tk]
    · simp -implicitDefEqProofs only [Mi.EVA, Mi.EVB, D.frz, frzs, D.plain, plains, List.length_cons, List.length_nil, List.length_set, Nat.reduceAdd, Nat.reduceLT, Nat.reduceLeDiff, sizeLine_eq, if_true, if_false, List.cons_append, List.nil_append, Option.map_some, Option.bind_some, Int.reduceToNat, Int.reducePow, Int.reduceNeg, Int.reduceEq, Int.reduceLT, Int.reduceLE, Int.reduceAdd, Int.reduceSub, Int.reduceMul, eq_self, Mi.dat, ]
      rfl) (by rw [rgF_len, List.length_nil, sizeLine_eq]; omega) ⟨z, rfl⟩
  rw [← rgF_D, List.nil_append] at h1
  exact ⟨z', out, h1, h2⟩
theorem draw_all (n : Nat) (hn : n ≤ 16) (c : Int) (hc : 0 < c) (hc2 : c < 2 ^ 64) (z : Int) (o1 o3 o4 o5 o6 o9 o10 o12 : Option D) :
    ∃ (z' : Int) (out : List (List Int)) (o9' : Option D), mLoop (mgName 9) l_w_web_0 (rangeD 0 n) [some (.own [.int z]), o1, some (.int (n : Int)), o3, o4, o5, o6, some (.int c), some (.own []), o9, o10, none, o12, none] = .nx [some (.own [.int z']), o1, some (.int (n : Int)), o3, o4, o5, o6, some (.int c), some (.own (out.map tupZ)), o9', o10, none, o12, none] ∧ out.Sublist (allP n) := by
  obtain ⟨e', out, h1, h2, z', o9', rfl⟩ := loop_subs (g := mgName 9) (body := l_w_web_0) D.int (fun acc e => ∃ (z : Int) (o9 : Option D), e = [some (.own [.int z]), o1, some (.int (n : Int)), o3, o4, o5, o6, some (.int c), some (.own (acc.map tupZ)), o9, o10, none, o12, none]) (fun i => (rgF (i + 1) ((n : Int) - (i + 1)).toNat).map fun j => [i, j]) 256 (rgF 0 n) (fun i hi acc e he hl => by
    obtain ⟨z, o9, rfl⟩ := he
    have hi2 := mem_rgF.mp hi
    have si : small62 (i + 1) := ⟨by omega, by omega⟩
    have sn : small62 (n : Int) := ⟨by omega, by omega⟩
    obtain ⟨z', out, h, hs⟩ := draw_row c hc hc2 i ((n : Int) - (i + 1)).toNat (by omega) o1 (some (.int (n : Int))) o3 o4 o5 o6 (some (.lst (acc.map tupZ))) o10 o12 z
    have := hs.length_le
    have ad := add_lo (x := acc) (y := out) (by omega)
    have fz := frzs_Ts acc
    refine ⟨_, [some (.own [.int z']), o1, some (.int (n : Int)), o3, o4, o5, o6, some (.int c), some (.own ((acc ++ out).map tupZ)), some (.int i), o10, none, o12, none], out, rfl, ?_, hs, z', some (.int i), rfl⟩
    unfold l_w_web_0
    simp -implicitDefEqProofs only [Mi.EVA, Mi.EVB, D.frz, frzs, D.plain, plains, List.length_cons, List.length_nil, List.length_set, Nat.reduceAdd, Nat.reduceLT, Nat.reduceLeDiff, sizeLine_eq, if_true, if_false, List.cons_append, List.nil_append, Option.map_some, Option.bind_some, Int.reduceToNat, Int.reducePow, Int.reduceNeg, Int.reduceEq, Int.reduceLT, Int.reduceLE, Int.reduceAdd, Int.reduceSub, Int.reduceMul, eq_self, Mi.dat, fz, si, sn, h, ad]) [] _ ⟨z, o9, rfl⟩ (by have := allP_len hn; unfold allP at this; rw [List.length_nil]; omega)
  rw [← rgF_D, List.nil_append] at *
  exact ⟨z', out, o9', h1, h2⟩
end Lw

namespace Lw
open PySem PySem.Spec PyProof.Rows L2 Mi
variable [TabsC]
def kindsOf (m : Nat) : List Nat := (List.range 10).filter fun k => decide (szs.getD k 0 ≤ m)
def kD (k : Nat) : D := .int (k : Int)
theorem rng10 : rangeD 0 10 = (List.range 10).map kD := by rfl
def tenD : List D := [.int 5, .int 13, .int 6, .int 10, .int 15, .int 4, .int 9, .int 16, .int 12, .int 16]
theorem at_ten : ∀ k : Nat, k < 10 → atI tenD (k : Int) = some (.int ((szs.getD k 0 : Nat) : Int)) := by
  intro k hk
  rcases (by omega : k = 0 ∨ k = 1 ∨ k = 2 ∨ k = 3 ∨ k = 4 ∨ k = 5 ∨ k = 6 ∨ k = 7 ∨ k = 8 ∨ k = 9) with rfl | rfl | rfl | rfl | rfl | rfl | rfl | rfl | rfl | rfl <;> rfl
theorem lc_kinds (m : Nat) (o0 o2 o3 o4 o5 o6 o7 o8 o9 o10 o11 o12 : Option D) :
    mLcLoop [13] (mgName 13) (mT (mOp2 dLe (mOp2 dIx (mLst (mCons (mC (.int 5)) (mCons (mC (.int 13)) (mCons (mC (.int 6)) (mCons (mC (.int 10)) (mCons (mC (.int 15)) (mCons (mC (.int 4)) (mCons (mC (.int 9)) (mCons (mC (.int 16)) (mCons (mC (.int 12)) (mCons (mC (.int 16)) (mNil)))))))))))) (mVar 13)) (mVar 1))) (mVar 13) (rangeD 0 10) [] [o0, some (.int (m : Int)), o2, o3, o4, o5, o6, o7, o8, o9, o10, o11, o12, none] =
      .ok (.own ((kindsOf m).map kD), [o0, some (.int (m : Int)), o2, o3, o4, o5, o6, o7, o8, o9, o10, o11, o12, none]) := by
  obtain ⟨e', h1, rfl⟩ := lc_fil (vs := [13]) (g := mgName 13) (tt := (mT (mOp2 dLe (mOp2 dIx (mLst (mCons (mC (.int 5)) (mCons (mC (.int 13)) (mCons (mC (.int 6)) (mCons (mC (.int 10)) (mCons (mC (.int 15)) (mCons (mC (.int 4)) (mCons (mC (.int 9)) (mCons (mC (.int 16)) (mCons (mC (.int 12)) (mCons (mC (.int 16)) (mNil)))))))))))) (mVar 13)) (mVar 1)))) (te := mVar 13)
    (fun e => e = [o0, some (.int (m : Int)), o2, o3, o4, o5, o6, o7, o8, o9, o10, o11, o12, none]) (fun k => decide (szs.getD k 0 ≤ m)) id kD kD (List.range 10) [] _ (fun k hk _ he => by
    subst he
    have a := at_ten k (List.mem_range.mp hk)
    unfold tenD at a
    refine ⟨_, [o0, some (.int (m : Int)), o2, o3, o4, o5, o6, o7, o8, o9, o10, o11, o12, some (kD k)], rfl, ?_, fun _ => ⟨_, rfl, rfl⟩, fun _ => rfl⟩
    unfold kD
    simp -implicitDefEqProofs only [Mi.EVA, Mi.EVB, D.frz, frzs, D.plain, plains, List.length_cons, List.length_nil, List.length_set, Nat.reduceAdd, Nat.reduceLT, Nat.reduceLeDiff, sizeLine_eq, if_true, if_false, List.cons_append, List.nil_append, Option.map_some, Option.bind_some, Int.reduceToNat, Int.reducePow, Int.reduceNeg, Int.reduceEq, Int.reduceLT, Int.reduceLE, Int.reduceAdd, Int.reduceSub, Int.reduceMul, eq_self, Mi.dat, a, Int.ofNat_le]) (by rw [List.length_nil, sizeLine_eq]; decide) rfl
  rw [← rng10, List.nil_append, List.map_id] at h1
  exact h1
def kZ (m : Nat) : List Int := (kindsOf m).map fun k : Nat => (k : Int)
theorem kZ_D (m : Nat) : (kindsOf m).map kD = (kZ m).map D.int := by unfold kZ; rw [List.map_map]; rfl
theorem dEq_nil {ns : List Int} : dEq (.lst (ns.map D.int)) (.own []) = some (.bl (decide (ns = []))) := by
  unfold dEq pyEq
  have e : toPy (.lst (ns.map D.int)) = some (.list (ns.map PyData.int)) := by
    show (toPys (ns.map D.int)).map PyData.list = _
    rw [toPys_intsZ]; rfl
  have sh : SeqAt.shaped (.list (ns.map PyData.int)) = true := by
    have := depth_ints ns
    unfold SeqAt.shaped PyData.canLay0 PyData.depth
    rw [lay_ints]
    simp; omega
  rw [e]
  show ((if (SeqAt.shaped (.list (ns.map PyData.int)) && SeqAt.shaped (.list [])) = true then some (PyData.eqv (.list (ns.map PyData.int)) (.list [])) else none).map D.bl) = _
  have ev' := eqv_ints ns []
  rw [sh, show SeqAt.shaped (.list []) = true from rfl]
  show some (D.bl (PyData.eqv (.list (ns.map PyData.int)) (.list []))) = _
  unfold PyData.eqv
  rw [show ([] : List PyData) = ([] : List Int).map PyData.int from rfl, ev']
def mm (a b : Int) : List Int := [if b < a then b else a, if b > a then b else a]
def nmP (l : List Int) : List Int → List Int
  | [i, j] => mm (l.getD i.toNat 0) (l.getD j.toNat 0)
  | _ => []
theorem lc_named {n : Nat} {ps : List (List Int)} (W : Web n ps) (l : List Int) (hl : l.length = n) (o0 o1 o2 o3 o4 o6 o7 o8 o10 o12 o13 : Option D) :
    mLcLoop [9, 11] (mgTup 2 (mgCons (mgName 9) (mgCons (mgName 11) (mgNil)))) (mYes) (mTup (mCons (mOpL (fn2 dMin2) (mCons (mSlotIx 5 (mVar 9)) (mCons (mSlotIx 5 (mVar 11)) (mNil)))) (mCons (mOpL (fn2 dMax2) (mCons (mSlotIx 5 (mVar 9)) (mCons (mSlotIx 5 (mVar 11)) (mNil)))) (mNil)))) (ps.map tupZ) [] [o0, o1, o2, o3, o4, some (.tup (l.map D.int)), o6, o7, o8, none, o10, none, o12, o13] =
      .ok (.own ((ps.map (nmP l)).map tupZ), [o0, o1, o2, o3, o4, some (.tup (l.map D.int)), o6, o7, o8, none, o10, none, o12, o13]) := by
  obtain ⟨e', h1, rfl⟩ := lc_fil (vs := [9, 11]) (g := mgTup 2 (mgCons (mgName 9) (mgCons (mgName 11) (mgNil)))) (tt := mYes) (te := (mTup (mCons (mOpL (fn2 dMin2) (mCons (mSlotIx 5 (mVar 9)) (mCons (mSlotIx 5 (mVar 11)) (mNil)))) (mCons (mOpL (fn2 dMax2) (mCons (mSlotIx 5 (mVar 9)) (mCons (mSlotIx 5 (mVar 11)) (mNil)))) (mNil)))))
    (fun e => e = [o0, o1, o2, o3, o4, some (.tup (l.map D.int)), o6, o7, o8, none, o10, none, o12, o13]) (fun _ => true) (nmP l) tupZ tupZ ps [] _ (fun p hp _ he => by
    subst he
    obtain ⟨i, j, rfl, h0, h1, h2⟩ := W.inn p hp
    have ai := at_int (ns := l) (i := i) h0 (by omega)
    have aj := at_int (ns := l) (i := j) (by omega) (by omega)
    have pl := plains_ints l
    refine ⟨[o0, o1, o2, o3, o4, some (.tup (l.map D.int)), o6, o7, o8, some (.int i), o10, some (.int j), o12, o13], _, rfl, rfl, fun _ => ⟨[o0, o1, o2, o3, o4, some (.tup (l.map D.int)), o6, o7, o8, some (.int i), o10, some (.int j), o12, o13], ?_, rfl⟩, fun z => nomatch z⟩
    simp -implicitDefEqProofs only [Mi.EVA, Mi.EVB, D.frz, frzs, D.plain, plains, List.length_cons, List.length_nil, List.length_set, Nat.reduceAdd, Nat.reduceLT, Nat.reduceLeDiff, sizeLine_eq, if_true, if_false, List.cons_append, List.nil_append, Option.map_some, Option.bind_some, Int.reduceToNat, Int.reducePow, Int.reduceNeg, Int.reduceEq, Int.reduceLT, Int.reduceLE, Int.reduceAdd, Int.reduceSub, Int.reduceMul, eq_self, Mi.dat, ai, aj, pl]
    rfl) (by have := W.len; rw [List.length_nil, sizeLine_eq]; omega) rfl
  rw [List.nil_append, List.filter_eq_self.mpr fun _ _ => rfl] at h1
  exact h1
theorem getD_in {l : List Int} {n : Nat} (hl : l.Perm (rgF 0 n)) {i : Int} (h0 : 0 ≤ i) (h1 : i < n) : 0 ≤ l.getD i.toNat 0 ∧ l.getD i.toNat 0 < n := by
  have len : l.length = n := by rw [hl.length_eq, rgF_len]
  have hk : i.toNat < l.length := by omega
  rw [List.getD_eq_getElem?_getD, List.getElem?_eq_getElem hk]
  have := mem_rgF.mp (hl.mem_iff.mp (List.getElem_mem hk))
  show 0 ≤ l[i.toNat] ∧ l[i.toNat] < n
  omega
theorem nodup_inj {l : List Int} (h : l.Nodup) : ∀ {i j : Nat} (hi : i < l.length) (hj : j < l.length), l[i] = l[j] → i = j := by
  intro i j hi hj e
  rcases Nat.lt_trichotomy i j with c | c | c
  · exact absurd e (List.pairwise_iff_getElem.mp h i j hi hj c)
  · exact c
  · exact absurd e.symm (List.pairwise_iff_getElem.mp h j i hj hi c)
theorem rgF_nodup (lo : Int) (k : Nat) : (rgF lo k).Nodup := (rgF_lt lo k).imp fun h => by omega
theorem getD_inj {l : List Int} {n : Nat} (hl : l.Perm (rgF 0 n)) {i j : Int} (h0 : 0 ≤ i) (h1 : i < n) (g0 : 0 ≤ j) (g1 : j < n) (e : l.getD i.toNat 0 = l.getD j.toNat 0) : i = j := by
  have len : l.length = n := by rw [hl.length_eq, rgF_len]
  have hi : i.toNat < l.length := by omega
  have hj : j.toNat < l.length := by omega
  rw [List.getD_eq_getElem?_getD, List.getElem?_eq_getElem hi, List.getD_eq_getElem?_getD, List.getElem?_eq_getElem hj] at e
  have := nodup_inj (hl.nodup_iff.mpr (rgF_nodup 0 n)) hi hj e
  omega
theorem mm_in {a b : Int} {n : Nat} (h : a ≠ b) (a0 : 0 ≤ a) (a1 : a < n) (b0 : 0 ≤ b) (b1 : b < n) : mm a b ∈ allP n := by
  unfold mm
  rw [mem_allP]
  by_cases c : b < a
  · rw [if_pos c, if_neg (by omega)]
    exact ⟨b, a, rfl, b0, c, a1⟩
  · rw [if_neg c, if_pos (by omega)]
    exact ⟨a, b, rfl, a0, by omega, b1⟩
theorem mm_eq {a b c d : Int} (h : mm a b = mm c d) : (a = c ∧ b = d) ∨ (a = d ∧ b = c) := by
  unfold mm at h
  have h1 := (List.cons.inj h).1
  have h2 := (List.cons.inj (List.cons.inj h).2).1
  split at h1 <;> split at h1 <;> split at h2 <;> split at h2 <;> omega
theorem named_pl {n : Nat} {ps : List (List Int)} (W : Web n ps) {l : List Int} (hl : l.Perm (rgF 0 n)) : Pl n (ps.map (nmP l)) := by
  refine ⟨?_, fun z hz => ?_⟩
  · unfold List.Nodup
    rw [List.pairwise_map]
    refine List.Pairwise.imp_of_mem (fun {a b} ha hb hne e => ?_) W.nd
    obtain ⟨i, j, rfl, h0, h1, h2⟩ := W.inn a ha
    obtain ⟨i', j', rfl, g0, g1, g2⟩ := W.inn b hb
    rcases mm_eq (show mm _ _ = mm _ _ from e) with ⟨e1, e2⟩ | ⟨e1, e2⟩
    · have := getD_inj hl h0 (by omega) g0 (by omega) e1
      have := getD_inj hl (by omega) h2 (by omega) g2 e2
      subst_vars
      exact hne rfl
    · have := getD_inj hl h0 (by omega) (by omega) g2 e1
      have := getD_inj hl (by omega) h2 g0 (by omega) e2
      omega
  · obtain ⟨p, hp, rfl⟩ := List.mem_map.mp hz
    obtain ⟨i, j, rfl, h0, h1, h2⟩ := W.inn p hp
    have ⟨a0, a1⟩ := getD_in hl h0 (by omega)
    have ⟨b0, b1⟩ := getD_in hl (show 0 ≤ j by omega) h2
    exact mm_in (fun e => by have := getD_inj hl h0 (by omega) (by omega) h2 e; omega) a0 a1 b0 b1
end Lw

namespace Lw
open PySem PySem.Spec PyProof.Rows L2 Mi
variable [TabsC]
theorem lc_col (j : Int) (hj : j < 20) (o0 o1 o2 o3 o4 o5 o6 o7 o8 o10 o12 o13 : Option D) :
    mLcLoop [9] (mgName 9) (mYes) (mTup (mCons (mVar 9) (mCons (mVar 11) (mNil)))) (rangeD 0 j.toNat) [] [o0, o1, o2, o3, o4, o5, o6, o7, o8, none, o10, some (.int j), o12, o13] =
      .ok (.own (((rgF 0 j.toNat).map fun i => [i, j]).map tupZ), [o0, o1, o2, o3, o4, o5, o6, o7, o8, none, o10, some (.int j), o12, o13]) := by
  obtain ⟨e', h1, rfl⟩ := lc_fil (vs := [9]) (g := mgName 9) (tt := mYes) (te := (mTup (mCons (mVar 9) (mCons (mVar 11) (mNil)))))
    (fun e => e = [o0, o1, o2, o3, o4, o5, o6, o7, o8, none, o10, some (.int j), o12, o13]) (fun _ => true) (fun i => [i, j]) D.int tupZ (rgF 0 j.toNat) [] _ (fun p hp _ he => by
    subst he
    refine ⟨[o0, o1, o2, o3, o4, o5, o6, o7, o8, some (.int p), o10, some (.int j), o12, o13], _, rfl, rfl, fun _ => ⟨[o0, o1, o2, o3, o4, o5, o6, o7, o8, some (.int p), o10, some (.int j), o12, o13], ?_, rfl⟩, fun z => nomatch z⟩
    simp -implicitDefEqProofs only [Mi.EVA, Mi.EVB, D.frz, frzs, D.plain, plains, List.length_cons, List.length_nil, List.length_set, Nat.reduceAdd, Nat.reduceLT, Nat.reduceLeDiff, sizeLine_eq, if_true, if_false, List.cons_append, List.nil_append, Option.map_some, Option.bind_some, Int.reduceToNat, Int.reducePow, Int.reduceNeg, Int.reduceEq, Int.reduceLT, Int.reduceLE, Int.reduceAdd, Int.reduceSub, Int.reduceMul, eq_self, Mi.dat, ]
    rfl) (by rw [rgF_len, List.length_nil, sizeLine_eq]; omega) rfl
  rw [← rgF_D, List.nil_append, List.filter_eq_self.mpr fun _ _ => rfl] at h1
  exact h1
theorem loop_col {n : Nat} (hn : n ≤ 16) (o0 o1 o2 o3 o4 o5 o6 o7 o8 o11 o12 o13 : Option D) :
    ∃ o11', mLoop (mgName 11) l_w_web_1 (rangeD 0 n) [o0, o1, o2, o3, o4, o5, o6, o7, o8, none, some (.own []), o11, o12, o13] = .nx [o0, o1, o2, o3, o4, o5, o6, o7, o8, none, some (.own ((colP n).map tupZ)), o11', o12, o13] := by
  obtain ⟨e', h1, o11', rfl⟩ := loop_app (g := mgName 11) (body := l_w_web_1) D.int (fun acc e => ∃ o11, e = [o0, o1, o2, o3, o4, o5, o6, o7, o8, none, some (.own (acc.map tupZ)), o11, o12, o13]) (fun j => (rgF 0 j.toNat).map fun i => [i, j]) 256 (rgF 0 n) (fun j hj acc e he hl => by
    obtain ⟨o11, rfl⟩ := he
    have hj2 := mem_rgF.mp hj
    have sj : small62 j := ⟨by omega, by omega⟩
    have h := lc_col j (by omega) o0 o1 o2 o3 o4 o5 o6 o7 o8 (some (.lst (acc.map tupZ))) o12 o13
    have ad := add_lo (x := acc) (y := (rgF 0 j.toNat).map fun i => [i, j]) (by omega)
    have fz := frzs_Ts acc
    refine ⟨_, [o0, o1, o2, o3, o4, o5, o6, o7, o8, none, some (.own ((acc ++ ((rgF 0 j.toNat).map fun i => [i, j])).map tupZ)), some (.int j), o12, o13], rfl, ?_, some (.int j), rfl⟩
    unfold l_w_web_1
    simp -implicitDefEqProofs only [Mi.EVA, Mi.EVB, D.frz, frzs, D.plain, plains, List.length_cons, List.length_nil, List.length_set, Nat.reduceAdd, Nat.reduceLT, Nat.reduceLeDiff, sizeLine_eq, if_true, if_false, List.cons_append, List.nil_append, Option.map_some, Option.bind_some, Int.reduceToNat, Int.reducePow, Int.reduceNeg, Int.reduceEq, Int.reduceLT, Int.reduceLE, Int.reduceAdd, Int.reduceSub, Int.reduceMul, eq_self, Mi.dat, fz, sj, h, ad]) [] _ ⟨o11, rfl⟩ (by have := colP_len hn; unfold colP at this; rw [List.length_nil]; omega)
  rw [← rgF_D, List.nil_append] at h1
  exact ⟨o11', h1⟩
theorem lc_rest (n : Nat) (hn : n ≤ 16) (qs : List (List Int)) (o0 o1 o2 o3 o4 o5 o7 o8 o9 o10 o11 o13 : Option D) :
    ∃ o6', mLcLoop [12] (mgName 12) (mT (mOp2 dNotIn (mVar 12) (mFrz 6))) (mVar 12) ((colP n).map tupZ) [] [o0, o1, o2, o3, o4, o5, some (.own (qs.map tupZ)), o7, o8, o9, o10, o11, none, o13] =
      .ok (.own (((colP n).filter fun p => !decide (p ∈ qs)).map tupZ), [o0, o1, o2, o3, o4, o5, o6', o7, o8, o9, o10, o11, none, o13]) := by
  have fz := frzs_Ts qs
  obtain ⟨e', h1, h2⟩ := lc_fil (vs := [12]) (g := mgName 12) (tt := (mT (mOp2 dNotIn (mVar 12) (mFrz 6)))) (te := mVar 12)
    (fun e => e = [o0, o1, o2, o3, o4, o5, some (.own (qs.map tupZ)), o7, o8, o9, o10, o11, none, o13] ∨ e = [o0, o1, o2, o3, o4, o5, some (.lst (qs.map tupZ)), o7, o8, o9, o10, o11, none, o13]) (fun p => !decide (p ∈ qs)) id tupZ tupZ (colP n) [] _ (fun p hp _ he => by
    have ni := dNotIn_Tl (p := p) (zs := qs)
    have pp := plain_T p
    have pz := frz_T p
    have pl := plains_tups qs
    show ∃ e1 e2, _ ∧ _ ∧ (_ → ∃ e3, mVar 12 e2 = .ok (tupZ p, e3) ∧ _) ∧ _
    generalize tupZ p = A at *
    rcases he with rfl | rfl
    · refine ⟨_, [o0, o1, o2, o3, o4, o5, some (.lst (qs.map tupZ)), o7, o8, o9, o10, o11, some A, o13], rfl, ?_, fun _ => ⟨[o0, o1, o2, o3, o4, o5, some (.lst (qs.map tupZ)), o7, o8, o9, o10, o11, some A, o13], ?_, .inr rfl⟩, fun _ => .inr rfl⟩
      · simp -implicitDefEqProofs only [Mi.EVA, Mi.EVB, D.frz, frzs, D.plain, plains, List.length_cons, List.length_nil, List.length_set, Nat.reduceAdd, Nat.reduceLT, Nat.reduceLeDiff, sizeLine_eq, if_true, if_false, List.cons_append, List.nil_append, Option.map_some, Option.bind_some, Int.reduceToNat, Int.reducePow, Int.reduceNeg, Int.reduceEq, Int.reduceLT, Int.reduceLE, Int.reduceAdd, Int.reduceSub, Int.reduceMul, eq_self, Mi.dat, fz, ni, pp, pl]
      · simp -implicitDefEqProofs only [Mi.EVA, Mi.EVB, D.frz, frzs, D.plain, plains, List.length_cons, List.length_nil, List.length_set, Nat.reduceAdd, Nat.reduceLT, Nat.reduceLeDiff, sizeLine_eq, if_true, if_false, List.cons_append, List.nil_append, Option.map_some, Option.bind_some, Int.reduceToNat, Int.reducePow, Int.reduceNeg, Int.reduceEq, Int.reduceLT, Int.reduceLE, Int.reduceAdd, Int.reduceSub, Int.reduceMul, eq_self, Mi.dat, pp]
    · refine ⟨_, [o0, o1, o2, o3, o4, o5, some (.lst (qs.map tupZ)), o7, o8, o9, o10, o11, some A, o13], rfl, ?_, fun _ => ⟨[o0, o1, o2, o3, o4, o5, some (.lst (qs.map tupZ)), o7, o8, o9, o10, o11, some A, o13], ?_, .inr rfl⟩, fun _ => .inr rfl⟩
      · simp -implicitDefEqProofs only [Mi.EVA, Mi.EVB, D.frz, frzs, D.plain, plains, List.length_cons, List.length_nil, List.length_set, Nat.reduceAdd, Nat.reduceLT, Nat.reduceLeDiff, sizeLine_eq, if_true, if_false, List.cons_append, List.nil_append, Option.map_some, Option.bind_some, Int.reduceToNat, Int.reducePow, Int.reduceNeg, Int.reduceEq, Int.reduceLT, Int.reduceLE, Int.reduceAdd, Int.reduceSub, Int.reduceMul, eq_self, Mi.dat, fz, ni, pp, pl]
      · simp -implicitDefEqProofs only [Mi.EVA, Mi.EVB, D.frz, frzs, D.plain, plains, List.length_cons, List.length_nil, List.length_set, Nat.reduceAdd, Nat.reduceLT, Nat.reduceLeDiff, sizeLine_eq, if_true, if_false, List.cons_append, List.nil_append, Option.map_some, Option.bind_some, Int.reduceToNat, Int.reducePow, Int.reduceNeg, Int.reduceEq, Int.reduceLT, Int.reduceLE, Int.reduceAdd, Int.reduceSub, Int.reduceMul, eq_self, Mi.dat, pp]) (by have := colP_len hn; rw [List.length_nil, sizeLine_eq]; omega) (.inl rfl)
  rw [List.nil_append, List.map_id] at h1
  rcases h2 with rfl | rfl
  · exact ⟨_, h1⟩
  · exact ⟨_, h1⟩
theorem lc_but (qs : List (List Int)) (hl : qs.length ≤ 1000) (x y : Int) (o0 o1 o2 o3 o4 o5 o6 o7 o8 o9 o10 o13 : Option D) :
    mLcLoop [11] (mgName 11) (mT (mOp2 dNe (mVar 11) (mVar 12))) (mVar 11) (qs.map tupZ) [] [o0, o1, o2, o3, o4, o5, o6, o7, o8, o9, o10, none, some (.tup [.int x, .int y]), o13] =
      .ok (.own ((qs.filter fun p => !decide (p = [x, y])).map tupZ), [o0, o1, o2, o3, o4, o5, o6, o7, o8, o9, o10, none, some (.tup [.int x, .int y]), o13]) := by
  obtain ⟨e', h1, rfl⟩ := lc_fil (vs := [11]) (g := mgName 11) (tt := (mT (mOp2 dNe (mVar 11) (mVar 12)))) (te := mVar 11)
    (fun e => e = [o0, o1, o2, o3, o4, o5, o6, o7, o8, o9, o10, none, some (.tup [.int x, .int y]), o13]) (fun p => !decide (p = [x, y])) id tupZ tupZ qs [] _ (fun p hp _ he => by
    subst he
    have ni : dNe (tupZ p) (.tup [.int x, .int y]) = _ := dNe_T (p := p) (q := [x, y])
    have pp := plain_T p
    show ∃ e1 e2, _ ∧ _ ∧ (_ → ∃ e3, mVar 11 e2 = .ok (tupZ p, e3) ∧ _) ∧ _
    generalize tupZ p = A at *
    refine ⟨_, [o0, o1, o2, o3, o4, o5, o6, o7, o8, o9, o10, some A, some (.tup [.int x, .int y]), o13], rfl, ?_, fun _ => ⟨[o0, o1, o2, o3, o4, o5, o6, o7, o8, o9, o10, some A, some (.tup [.int x, .int y]), o13], ?_, rfl⟩, fun _ => rfl⟩
    · simp -implicitDefEqProofs only [Mi.EVA, Mi.EVB, D.frz, frzs, D.plain, plains, List.length_cons, List.length_nil, List.length_set, Nat.reduceAdd, Nat.reduceLT, Nat.reduceLeDiff, sizeLine_eq, if_true, if_false, List.cons_append, List.nil_append, Option.map_some, Option.bind_some, Int.reduceToNat, Int.reducePow, Int.reduceNeg, Int.reduceEq, Int.reduceLT, Int.reduceLE, Int.reduceAdd, Int.reduceSub, Int.reduceMul, eq_self, Mi.dat, pp, ni]
    · simp -implicitDefEqProofs only [Mi.EVA, Mi.EVB, D.frz, frzs, D.plain, plains, List.length_cons, List.length_nil, List.length_set, Nat.reduceAdd, Nat.reduceLT, Nat.reduceLeDiff, sizeLine_eq, if_true, if_false, List.cons_append, List.nil_append, Option.map_some, Option.bind_some, Int.reduceToNat, Int.reducePow, Int.reduceNeg, Int.reduceEq, Int.reduceLT, Int.reduceLE, Int.reduceAdd, Int.reduceSub, Int.reduceMul, eq_self, Mi.dat, pp]) (by rw [List.length_nil, sizeLine_eq]; omega) rfl
  rw [List.nil_append, List.map_id] at h1
  exact h1
end Lw

namespace Lw
open PySem PySem.Spec PyProof.Rows L2 Mi
variable [TabsC]
theorem sortX_lst {zs : List (List Int)} (h : ∀ z ∈ zs, z ≠ []) : dSortX (.lst (zs.map tupZ)) = some (.own ((sortT zs).map tupZ)) := dSortX_tups h
theorem sort_pair {a b : Int} (h : a ≠ b) : sortZ [a, b] = mm a b := by
  have p : (mm a b).Perm [a, b] := by
    unfold mm
    by_cases c : b < a
    · rw [if_pos c, if_neg (by omega)]
      exact List.Perm.swap _ _ _
    · rw [if_neg c, if_pos (by omega)]
  refine (sortZ_uniq p ?_).symm
  unfold mm
  by_cases c : b < a
  · rw [if_pos c, if_neg (by omega)]
    refine List.pairwise_cons.mpr ⟨fun x hx => ?_, List.pairwise_singleton _ _⟩
    obtain rfl := List.mem_singleton.mp hx
    omega
  · rw [if_neg c, if_pos (by omega)]
    refine List.pairwise_cons.mpr ⟨fun x hx => ?_, List.pairwise_singleton _ _⟩
    obtain rfl := List.mem_singleton.mp hx
    omega
theorem sortX_pair {a b x y : Int} (h : sortZ [a, b] = [x, y]) : dSortX (.own [.int a, .int b]) = some (.own [.int x, .int y]) := by
  have := dSortX_ints (ns := [a, b])
  rw [h] at this
  exact this
theorem mul_if {x y : Int} (b : Bool) : dMul (.own [.tup [.int x, .int y]]) (.int (if b = true then 1 else 0)) = some (.own ((if b = true then [[x, y]] else []).map tupZ)) := by
  cases b with
  | true =>
    show dMul (.own [.tup [.int x, .int y]]) (.int 1) = _
    rw [dMulL_own (ds := [D.tup [.int x, .int y]]) (n := 1) (by show 1 * 1 ≤ sizeLine; rw [sizeLine_eq]; omega)]
    unfold dMulL
    show (if plains [D.tup [.int x, .int y]] = true ∧ -(2 ^ 63) ≤ (1 : Int) ∧ (1 : Int) < 2 ^ 63 ∧ 1 * 1 ≤ sizeLine then some (D.own (List.replicate 1 [D.tup [.int x, .int y]]).flatten) else none) = _
    rw [if_pos ⟨rfl, by omega, by omega, by rw [sizeLine_eq]; omega⟩]
    rfl
  | false =>
    show dMul (.own [.tup [.int x, .int y]]) (.int 0) = _
    rw [dMulL_own (ds := [D.tup [.int x, .int y]]) (n := 0) (by show 1 * 0 ≤ sizeLine; rw [sizeLine_eq]; omega)]
    unfold dMulL
    show (if plains [D.tup [.int x, .int y]] = true ∧ -(2 ^ 63) ≤ (0 : Int) ∧ (0 : Int) < 2 ^ 63 ∧ 1 * 0 ≤ sizeLine then some (D.own (List.replicate 0 [D.tup [.int x, .int y]]).flatten) else none) = _
    rw [if_pos ⟨rfl, by omega, by omega, by rw [sizeLine_eq]; omega⟩]
    rfl
theorem Pl.ne {n : Nat} {zs : List (List Int)} (h : Pl n zs) : ∀ z ∈ zs, z ≠ [] := fun z hz e => by
  obtain ⟨i, j, rfl, _⟩ := mem_allP.mp (h.inn z hz)
  cases e
theorem Pl.len {n : Nat} {zs : List (List Int)} (h : Pl n zs) (hn : n ≤ 16) : zs.length ≤ 256 := by
  rw [← (filter_mem h).length_eq]
  exact Nat.le_trans (List.length_filter_le _ _) (allP_len hn)
theorem rest_pl {n : Nat} (qs : List (List Int)) : Pl n ((colP n).filter fun p => !decide (p ∈ qs)) :=
  ⟨(colP_nodup n).filter _, fun z hz => mem_allP.mpr (mem_colP.mp (List.mem_filter.mp hz).1)⟩
theorem put_pl {n : Nat} {qs : List (List Int)} (h : Pl n qs) {p : List Int} (hp : p ∈ allP n) : Pl n ((qs.filter fun q => !decide (q = p)) ++ if (!decide (p ∈ qs)) = true then [p] else []) := by
  by_cases c : p ∈ qs
  · rw [if_neg (by simp [c]), List.append_nil]
    exact ⟨h.nd.filter _, fun z hz => h.inn z (List.mem_filter.mp hz).1⟩
  · rw [if_pos (by simp [c])]
    refine ⟨List.nodup_append.mpr ⟨h.nd.filter _, by simp, fun a ha b hb => ?_⟩, fun z hz => ?_⟩
    · obtain rfl := List.mem_singleton.mp hb
      intro e
      subst e
      exact c (List.mem_filter.mp ha).1
    · rcases List.mem_append.mp hz with hz | hz
      · exact h.inn z (List.mem_filter.mp hz).1
      · obtain rfl := List.mem_singleton.mp hz
        exact hp
theorem kZ_mem {m : Nat} {i : Int} (h : i ∈ kZ m) : ∃ k : Nat, i = k ∧ k < 10 ∧ szs.getD k 0 ≤ m := by
  unfold kZ kindsOf at h
  obtain ⟨k, hk, rfl⟩ := List.mem_map.mp h
  have := List.mem_filter.mp hk
  exact ⟨k, rfl, List.mem_range.mp this.1, of_decide_eq_true this.2⟩
theorem kZ_len (m : Nat) : (kZ m).length ≤ 10 := by
  unfold kZ kindsOf
  rw [List.length_map]
  exact Nat.le_trans (List.length_filter_le _ _) (by rw [List.length_range]; omega)
theorem szs_4 : ∀ k < 10, 4 ≤ szs.getD k 0 := by decide
theorem cond_case (w : Int) (ns : List Int) : (w < 2 ∨ (¬ w < 2 ∧ ns = [])) ∨ (¬ w < 2 ∧ ns ≠ []) := by
  by_cases c : w < 2
  · exact .inl (.inl c)
  · by_cases d : ns = []
    · exact .inl (.inr ⟨c, d⟩)
    · exact .inr ⟨c, d⟩
theorem v_web (m : Nat) (h1 : 1 ≤ m) (h16 : m ≤ 16) (z : Int) : ∃ (z' : Int) (n : Nat) (ps : List (List Int)), F_w_web [.int z] [.int (m : Int)] = .ok (webD (n : Int) ps) [.int z'] ∧ Web n ps ∧ n ≤ m := by
  have t1 := v_take z m (by omega) (by omega)
  obtain ⟨n, hn⟩ : ∃ n : Nat, 1 + z % (m : Int) = n := ⟨(1 + z % (m : Int)).toNat, by have := Int.emod_nonneg z (show (m : Int) ≠ 0 by omega); omega⟩
  have n1 : 1 ≤ n := by have := Int.emod_nonneg z (show (m : Int) ≠ 0 by omega); omega
  have nm : n ≤ m := by have := Int.emod_lt_of_pos z (show (0 : Int) < m by omega); omega
  obtain ⟨z1, e1⟩ : ∃ z1, z / (m : Int) = z1 := ⟨_, rfl⟩
  rw [e1] at t1
  have t2 := v_take z1 5 (by decide) (by decide)
  obtain ⟨w, ew⟩ : ∃ w, z1 % 5 = w := ⟨_, rfl⟩
  have w0 : 0 ≤ w := by rw [← ew]; exact Int.emod_nonneg _ (by decide)
  have w5 : w < 5 := by rw [← ew]; exact Int.emod_lt_of_pos _ (by decide)
  obtain ⟨z2, e2⟩ : ∃ z2, z1 / 5 = z2 := ⟨_, rfl⟩
  rw [e2, ew] at t2
  have lk := fun o0 o2 o3 o4 o5 o6 o7 o8 o9 o10 o11 o12 => lc_kinds m o0 o2 o3 o4 o5 o6 o7 o8 o9 o10 o11 o12
  rw [kZ_D] at lk
  have s10 : small62 10 := by decide
  have fk := frzs_ints (kZ m)
  have pk := plains_intsZ (kZ m)
  have sn : small62 (n : Int) := ⟨by omega, by omega⟩
  have en : ((n : Int)).toNat = n := Int.toNat_natCast n
  have dn := dEq_nil (ns := kZ m)
  have lenk := kZ_len m
  rcases cond_case w (kZ m) with c | ⟨c, d⟩
  · have t3 := v_take z2 3 (by decide) (by decide)
    have c0 := Int.emod_nonneg z2 (show (3 : Int) ≠ 0 by decide)
    have c3 := Int.emod_lt_of_pos z2 (show (0 : Int) < 3 by decide)
    obtain ⟨ch, ec⟩ : ∃ ch, 2 + z2 % 3 = ch := ⟨_, rfl⟩
    rcases c with c | ⟨c, d⟩
    · obtain ⟨z', out, o9, h, hs⟩ := draw_all n (by omega) ch (by omega) (by omega) (z2 / 3) (some (.int (m : Int))) (some (.int w)) (some (.own ((kZ m).map D.int))) none none none none none
      have fo := frzs_Ts out
      unfold l_w_web_0 at h
      refine ⟨z', n, out, ?_, web_of_sub hs n1 (by omega), nm⟩
      unfold F_w_web m_w_web webD
      simp -implicitDefEqProofs only [Mi.EVA, Mi.EVB, D.frz, frzs, D.plain, plains, List.length_cons, List.length_nil, List.length_set, Nat.reduceAdd, Nat.reduceLT, Nat.reduceLeDiff, sizeLine_eq, if_true, if_false, List.cons_append, List.nil_append, Option.map_some, Option.bind_some, Int.reduceToNat, Int.reducePow, Int.reduceNeg, Int.reduceEq, Int.reduceLT, Int.reduceLE, Int.reduceAdd, Int.reduceSub, Int.reduceMul, eq_self, Mi.dat, t1, hn, t2, lk, s10, c, t3, ec, sn, en, h, fo, dTuple_ls]
    · obtain ⟨z', out, o9, h, hs⟩ := draw_all n (by omega) ch (by omega) (by omega) (z2 / 3) (some (.int (m : Int))) (some (.int w)) (some (.lst ((kZ m).map D.int))) none none none none none
      have fo := frzs_Ts out
      unfold l_w_web_0 at h
      refine ⟨z', n, out, ?_, web_of_sub hs n1 (by omega), nm⟩
      unfold F_w_web m_w_web webD
      simp -implicitDefEqProofs only [Mi.EVA, Mi.EVB, D.frz, frzs, D.plain, plains, List.length_cons, List.length_nil, List.length_set, Nat.reduceAdd, Nat.reduceLT, Nat.reduceLeDiff, sizeLine_eq, if_true, if_false, List.cons_append, List.nil_append, Option.map_some, Option.bind_some, Int.reduceToNat, Int.reducePow, Int.reduceNeg, Int.reduceEq, Int.reduceLT, Int.reduceLE, Int.reduceAdd, Int.reduceSub, Int.reduceMul, eq_self, Mi.dat, t1, hn, t2, lk, s10, c, fk, dn, decide_eq_true d, t3, ec, sn, en, h, fo, dTuple_ls]
  · have len : 0 < (kZ m).length := by cases hh : kZ m with | nil => exact absurd hh d | cons _ _ => simp
    have t3 := v_take z2 (kZ m).length (by omega) (by omega)
    have i0 := Int.emod_nonneg z2 (show ((kZ m).length : Int) ≠ 0 by omega)
    have i1 := Int.emod_lt_of_pos z2 (show (0 : Int) < (kZ m).length by omega)
    have ai := at_int i0 i1
    obtain ⟨i, ei⟩ : ∃ i, z2 % ((kZ m).length : Int) = i := ⟨_, rfl⟩
    obtain ⟨z3, e3⟩ : ∃ z3, z2 / ((kZ m).length : Int) = z3 := ⟨_, rfl⟩
    rw [ei] at i0 i1 ai t3
    rw [e3] at t3
    have im : (kZ m).getD i.toNat 0 ∈ kZ m := by
      rw [List.getD_eq_getElem?_getD, List.getElem?_eq_getElem (by omega)]
      exact List.getElem_mem (by omega)
    obtain ⟨k, ek, k10, ks⟩ := kZ_mem im
    rw [ek] at ai
    obtain ⟨ps, vk, Wk⟩ := v_known k10
    have s4 := szs_4 k k10
    generalize szs.getD k 0 = s at *
    have ss : small62 (s : Int) := ⟨by omega, by omega⟩
    have es : ((s : Int)).toNat = s := Int.toNat_natCast s
    obtain ⟨z4, l, hp, vo⟩ := v_order z3 (s := s) (by omega)
    have ll : l.length = s := by rw [hp.length_eq, rgF_len]
    have pl := plains_intsZ l
    have pps := plains_tups ps
    have fps := frzs_Ts ps
    have nr := fun o0 o1 o2 o3 o4 o6 o7 o8 o10 o12 o13 => lc_named Wk l ll o0 o1 o2 o3 o4 o6 o7 o8 o10 o12 o13
    have np := named_pl Wk hp
    unfold webD at vk
    generalize ps.map (nmP l) = qs at *
    have fq := frzs_Ts qs
    by_cases w3 : w = 3
    · subst w3
      obtain ⟨o11, hc⟩ := loop_col (n := s) (by omega) (some (.own [.int z4])) (some (.int (m : Int))) (some (.int (s : Int))) (some (.int 3)) (some (.lst ((kZ m).map D.int))) (some (.tup (l.map D.int))) (some (.own (qs.map tupZ))) none (some (.tup (ps.map tupZ))) none none none
      obtain ⟨o6, hr⟩ := lc_rest s (by omega) qs (some (.own [.int z4])) (some (.int (m : Int))) (some (.int (s : Int))) (some (.int 3)) (some (.lst ((kZ m).map D.int))) (some (.tup (l.map D.int))) none (some (.tup (ps.map tupZ))) none (some (.lst ((colP s).map tupZ))) o11 none
      have P := rest_pl (n := s) qs
      have fc := frzs_Ts (colP s)
      generalize ((colP s).filter fun p => !decide (p ∈ qs)) = rs at *
      have sx := sortX_lst P.ne
      have fr := frzs_Ts rs
      have fs := frzs_Ts (sortT rs)
      unfold l_w_web_1 at hc
      refine ⟨z4, s, sortT rs, ?_, P.web (by omega) (by omega), ks⟩
      unfold F_w_web m_w_web webD
      simp -implicitDefEqProofs only [Mi.EVA, Mi.EVB, D.frz, frzs, D.plain, plains, List.length_cons, List.length_nil, List.length_set, Nat.reduceAdd, Nat.reduceLT, Nat.reduceLeDiff, sizeLine_eq, if_true, if_false, List.cons_append, List.nil_append, Option.map_some, Option.bind_some, Int.reduceToNat, Int.reducePow, Int.reduceNeg, Int.reduceEq, Int.reduceLT, Int.reduceLE, Int.reduceAdd, Int.reduceSub, Int.reduceMul, eq_self, Mi.dat, t1, hn, t2, lk, s10, c, fk, pk, dn, decide_eq_false d, List.length_map, lenk, t3, ai, vk, pps, fps, vo, pl, nr, ss, es, hc, fc, fq, hr, fr, sx, fs, dTuple_ow]
    · by_cases w4 : w = 4
      · subst w4
        have s0 : (0 : Int) < (s : Int) := by omega
        have t4 := v_take z4 s s0 (by omega)
        obtain ⟨z5, e5⟩ : ∃ z5, z4 / (s : Int) = z5 := ⟨_, rfl⟩
        obtain ⟨a, ea⟩ : ∃ a, z4 % (s : Int) = a := ⟨_, rfl⟩
        have a0 : 0 ≤ a := by rw [← ea]; exact Int.emod_nonneg _ (by omega)
        have a1 : a < s := by rw [← ea]; exact Int.emod_lt_of_pos _ s0
        rw [e5, ea] at t4
        have t5 := v_take z5 ((s : Int) - 1) (by omega) (by omega)
        obtain ⟨z6, e6⟩ : ∃ z6, z5 / ((s : Int) - 1) = z6 := ⟨_, rfl⟩
        obtain ⟨t, et⟩ : ∃ t, z5 % ((s : Int) - 1) = t := ⟨_, rfl⟩
        have q0 : 0 ≤ t := by rw [← et]; exact Int.emod_nonneg _ (by omega)
        have q1 : t < (s : Int) - 1 := by rw [← et]; exact Int.emod_lt_of_pos _ (by omega)
        rw [e6, et] at t5
        obtain ⟨b, eb⟩ : ∃ b, (a + 1 + t) % (s : Int) = b := ⟨_, rfl⟩
        have b0 : 0 ≤ b := by rw [← eb]; exact Int.emod_nonneg _ (by omega)
        have b1 : b < s := by rw [← eb]; exact Int.emod_lt_of_pos _ s0
        have ab : a ≠ b := by
          intro e
          subst e
          rcases Int.lt_or_le (a + 1 + t) s with c | c
          · rw [Int.emod_eq_of_lt (by omega) c] at eb; omega
          · rw [← Int.sub_emod_right, Int.emod_eq_of_lt (by omega) (by omega)] at eb; omega
        have ip := mm_in ab a0 a1 b0 b1
        have sp := sort_pair ab
        obtain ⟨x, y, exy⟩ : ∃ x y, mm a b = [x, y] := ⟨_, _, rfl⟩
        rw [exy] at ip sp
        have sx1 := sortX_pair sp
        have ql := np.len (by omega)
        have lb := lc_but qs (by omega) x y (some (.own [.int z6])) (some (.int (m : Int))) (some (.int (s : Int))) (some (.int 4)) (some (.lst ((kZ m).map D.int))) (some (.tup (l.map D.int))) (some (.lst (qs.map tupZ))) none (some (.tup (ps.map tupZ))) (some (.int a)) none none
        have ni : dNotIn (.tup [.int x, .int y]) (.lst (qs.map tupZ)) = _ := dNotIn_Tl (p := [x, y]) (zs := qs)
        have mi := mul_if (x := x) (y := y) (!decide ([x, y] ∈ qs))
        have P := put_pl np ip
        have fl := List.length_filter_le (fun p => !decide (p = [x, y])) qs
        have l2 : (if (!decide ([x, y] ∈ qs)) = true then [[x, y]] else []).length ≤ 1 := by split <;> simp
        have pq := plains_tups qs
        generalize (qs.filter fun p => !decide (p = [x, y])) = us at *
        generalize (!decide ([x, y] ∈ qs)) = bb at *
        generalize (if bb = true then [[x, y]] else []) = vs at *
        have ad := add_oo (x := us) (y := vs) (by omega)
        have sx := sortX_lst P.ne
        have fr := frzs_Ts (us ++ vs)
        have fs := frzs_Ts (sortT (us ++ vs))
        refine ⟨z6, s, sortT (us ++ vs), ?_, P.web (by omega) (by omega), ks⟩
        unfold F_w_web m_w_web webD
        simp -implicitDefEqProofs only [Mi.EVA, Mi.EVB, D.frz, frzs, D.plain, plains, List.length_cons, List.length_nil, List.length_set, Nat.reduceAdd, Nat.reduceLT, Nat.reduceLeDiff, sizeLine_eq, if_true, if_false, List.cons_append, List.nil_append, Option.map_some, Option.bind_some, Int.reduceToNat, Int.reducePow, Int.reduceNeg, Int.reduceEq, Int.reduceLT, Int.reduceLE, Int.reduceAdd, Int.reduceSub, Int.reduceMul, eq_self, Mi.dat, t1, hn, t2, lk, s10, c, fk, pk, dn, decide_eq_false d, List.length_map, lenk, t3, ai, vk, pps, fps, vo, pl, nr, ss, es, dEq_ii, decide_eq_false w3, t4, t5, s0, eb, sx1, dTuple_ow, fq, pq, lb, ni, dInt_bl, mi, ad, fr, sx, fs]
      · have sx := sortX_lst np.ne
        have fs := frzs_Ts (sortT qs)
        refine ⟨z4, s, sortT qs, ?_, np.web (by omega) (by omega), ks⟩
        unfold F_w_web m_w_web webD
        simp -implicitDefEqProofs only [Mi.EVA, Mi.EVB, D.frz, frzs, D.plain, plains, List.length_cons, List.length_nil, List.length_set, Nat.reduceAdd, Nat.reduceLT, Nat.reduceLeDiff, sizeLine_eq, if_true, if_false, List.cons_append, List.nil_append, Option.map_some, Option.bind_some, Int.reduceToNat, Int.reducePow, Int.reduceNeg, Int.reduceEq, Int.reduceLT, Int.reduceLE, Int.reduceAdd, Int.reduceSub, Int.reduceMul, eq_self, Mi.dat, t1, hn, t2, lk, s10, c, fk, pk, dn, decide_eq_false d, List.length_map, lenk, t3, ai, vk, pps, fps, vo, pl, nr, dEq_ii, decide_eq_false w3, decide_eq_false w4, fq, sx, fs, dTuple_ow]
end Lw

namespace Lw
open PySem PySem.Spec PyProof.Rows L2 Mi
variable [TabsC]
theorem plain_web (n : Int) (ps : List (List Int)) : (webD n ps).plain = true := by
  show (true && (plains (ps.map tupZ) && true)) = true
  rw [plains_tups]
  rfl
theorem frz_web (n : Int) (ps : List (List Int)) : (webD n ps).frz = webD n ps := frz_plain _ (plain_web n ps)
end Lw

namespace Lw
open PySem PySem.Spec PyProof.Rows L2 Mi
variable [TabsC]
def tiedB (ps : List (List Int)) (i j : Int) : Bool := decide (mm i j ∈ ps)
theorem v_tied (n : Int) (ps : List (List Int)) (i j : Int) : F_w_tied [.tup [.int n, .tup (ps.map tupZ)], .int i, .int j] = .ok (.bl (tiedB ps i j)) := by
  have pp := plains_tups ps
  have d := dIn_2 (a := if j < i then j else i) (b := if j > i then j else i) (zs := ps)
  unfold F_w_tied m_w_tied
  simp -implicitDefEqProofs only [Mi.EVA, Mi.EVB, D.frz, frzs, D.plain, plains, List.length_cons, List.length_nil, List.length_set, Nat.reduceAdd, Nat.reduceLT, Nat.reduceLeDiff, sizeLine_eq, if_true, if_false, List.cons_append, List.nil_append, Option.map_some, Option.bind_some, Int.reduceToNat, Int.reducePow, Int.reduceNeg, Int.reduceEq, Int.reduceLT, Int.reduceLE, Int.reduceAdd, Int.reduceSub, Int.reduceMul, eq_self, Mi.dat, pp, d]
  rfl
theorem blsD_map : ∀ bs : List Bool, blsD (bs.map D.bl) = some bs
  | [] => rfl
  | b :: bs => by
    show (blsD (bs.map D.bl)).map (b :: ·) = _
    rw [blsD_map bs]
    rfl
theorem dAll_own {bs : List Bool} : dAll (.own (bs.map D.bl)) = some (.bl (bs.all id)) := by
  unfold dAll
  show ((some (bs.map D.bl)).bind fun ds => (blsD ds).map fun bs => D.bl (bs.all id)) = _
  rw [Option.bind_some, blsD_map]
  rfl
end Lw

namespace Lw
open PySem PySem.Spec PyProof.Rows L2 Mi
variable [TabsC]
end Lw

namespace Lw
open PySem PySem.Spec PyProof.Rows L2 Mi
variable [TabsC]
def nearZ (n : Nat) (ps : List (List Int)) (i : Int) : List Int := (rgF 0 n).filter fun j => decide (j ≠ i) && tiedB ps i j
def rowP (i : Int) : List Int → List Int
  | [a, b] => if a = i then [b] else if b = i then [a] else []
  | _ => []
def rowOf (ps : List (List Int)) (i : Int) : List Int := ps.flatMap (rowP i)
theorem mem_rowP {i j : Int} {p : List Int} {a b : Int} (hp : p = [a, b]) (h : a < b) : j ∈ rowP i p ↔ mm i j = p := by
  subst hp
  show j ∈ (if a = i then [b] else if b = i then [a] else []) ↔ [if j < i then j else i, if j > i then j else i] = [a, b]
  constructor
  · intro h2
    by_cases c : a = i
    · subst c
      rw [if_pos rfl] at h2
      obtain rfl := List.mem_singleton.mp h2
      rw [if_neg (by omega), if_pos (by omega)]
    · rw [if_neg c] at h2
      by_cases d : b = i
      · subst d
        rw [if_pos rfl] at h2
        obtain rfl := List.mem_singleton.mp h2
        rw [if_pos (by omega), if_neg (by omega)]
      · rw [if_neg d] at h2
        cases h2
  · intro e
    have e1 := (List.cons.inj e).1
    have e2 := (List.cons.inj (List.cons.inj e).2).1
    by_cases c : a = i
    · rw [if_pos c]
      refine List.mem_singleton.mpr ?_
      split at e1 <;> split at e2 <;> omega
    · rw [if_neg c]
      have d : b = i := by split at e1 <;> split at e2 <;> omega
      rw [if_pos d]
      refine List.mem_singleton.mpr ?_
      split at e1 <;> split at e2 <;> omega
section
variable {n : Nat} {ps : List (List Int)} (W : Web n ps)
include W
theorem mem_rowOf {i j : Int} : j ∈ rowOf ps i ↔ mm i j ∈ ps := by
  unfold rowOf
  rw [List.mem_flatMap]
  constructor
  · rintro ⟨p, hp, hj⟩
    obtain ⟨a, b, e, h0, h1, h2⟩ := W.inn p hp
    rw [(mem_rowP e h1).mp hj]
    exact hp
  · intro h
    obtain ⟨a, b, e, h0, h1, h2⟩ := W.inn _ h
    exact ⟨mm i j, h, (mem_rowP e h1).mpr rfl⟩
theorem rowOf_nodup (i : Int) : (rowOf ps i).Nodup := by
  unfold rowOf List.Nodup
  rw [List.pairwise_flatMap]
  refine ⟨fun p hp => ?_, List.Pairwise.imp_of_mem (fun {p q} hp hq hne => ?_) W.nd⟩
  · obtain ⟨a, b, rfl, h0, h1, h2⟩ := W.inn p hp
    show (if a = i then [b] else if b = i then [a] else []).Pairwise _
    split
    · exact List.pairwise_singleton _ _
    · split
      · exact List.pairwise_singleton _ _
      · exact List.Pairwise.nil
  · intro x hx y hy e
    subst e
    obtain ⟨a, b, e1, h0, h1, h2⟩ := W.inn p hp
    obtain ⟨a', b', e2, g0, g1, g2⟩ := W.inn q hq
    exact hne (((mem_rowP e1 h1).mp hx).symm.trans ((mem_rowP e2 g1).mp hy))
theorem tied_in {i j : Int} (h : mm i j ∈ ps) : 0 ≤ i ∧ i < n ∧ 0 ≤ j ∧ j < n ∧ i ≠ j := by
  obtain ⟨a, b, e, h0, h1, h2⟩ := W.inn _ h
  unfold mm at e
  have e1 := (List.cons.inj e).1
  have e2 := (List.cons.inj (List.cons.inj e).2).1
  split at e1 <;> split at e2 <;> omega
theorem mem_nearZ {i j : Int} : j ∈ nearZ n ps i ↔ mm i j ∈ ps := by
  unfold nearZ tiedB
  rw [List.mem_filter, mem_rgF, Bool.and_eq_true, decide_eq_true_eq, decide_eq_true_eq]
  constructor
  · exact fun h => h.2.2
  · intro h
    have := tied_in W h
    exact ⟨by omega, by omega, h⟩
theorem sort_row (i : Int) : sortZ (rowOf ps i) = nearZ n ps i := by
  have nd : (nearZ n ps i).Nodup := (rgF_nodup 0 n).filter _
  have pm : (nearZ n ps i).Perm (rowOf ps i) := (List.perm_ext_iff_of_nodup nd (rowOf_nodup W i)).mpr fun j => by rw [mem_nearZ W, mem_rowOf W]
  refine (sortZ_uniq pm ?_).symm
  exact ((rgF_lt 0 n).filter _).imp fun h => by omega
end
theorem nearZ_len {n : Nat} (ps : List (List Int)) (i : Int) : (nearZ n ps i).length ≤ n := by
  unfold nearZ
  refine Nat.le_trans (List.length_filter_le _ _) ?_
  rw [rgF_len]
  omega
def rowsO (n : Nat) (g : Int → List Int) : List D := (rgF 0 n).map fun i => D.own ((g i).map D.int)
def rowsL (n : Nat) (g : Int → List Int) : List D := (rgF 0 n).map fun i => D.lst ((g i).map D.int)
def bump (g : Int → List Int) (a b : Int) (i : Int) : List Int := if i = a then g i ++ [b] else g i
theorem rowsO_len (n : Nat) (g : Int → List Int) : (rowsO n g).length = n := by unfold rowsO; rw [List.length_map, rgF_len]
theorem rgF_at {lo : Int} {n k : Nat} (h : k < n) : (rgF lo n)[k]? = some (lo + k) := by
  unfold rgF
  rw [List.getElem?_map, List.getElem?_range h]
  rfl
theorem rowsO_at {n : Nat} (g : Int → List Int) {a : Int} (h0 : 0 ≤ a) (h1 : a < n) : (rowsO n g)[a.toNat]? = some (.own ((g a).map D.int)) := by
  unfold rowsO
  rw [List.getElem?_map, rgF_at (by omega), Option.map_some, show (0 : Int) + (a.toNat : Int) = a by omega]
theorem rowsO_set {n : Nat} (g : Int → List Int) {a b : Int} (h0 : 0 ≤ a) (h1 : a < n) : (rowsO n g).set a.toNat (.own ((g a).map D.int ++ [.int b])) = rowsO n (bump g a b) := by
  refine List.ext_getElem? fun k => ?_
  by_cases hk : k < n
  · have e2 : (rowsO n (bump g a b))[k]? = some (.own ((bump g a b (k : Int)).map D.int)) := by
      have := rowsO_at (n := n) (bump g a b) (a := (k : Int)) (by omega) (by omega)
      rw [Int.toNat_natCast] at this
      exact this
    rw [e2]
    unfold bump
    by_cases c : (k : Int) = a
    · have : a.toNat = k := by omega
      rw [this, List.getElem?_set_self (by rw [rowsO_len]; exact hk), if_pos c, List.map_append, c]
      rfl
    · rw [List.getElem?_set_ne (by omega), if_neg c]
      have := rowsO_at (n := n) g (a := (k : Int)) (by omega) (by omega)
      rw [Int.toNat_natCast] at this
      exact this
  · rw [List.getElem?_eq_none (by rw [List.length_set, rowsO_len]; omega), List.getElem?_eq_none (by rw [rowsO_len]; omega)]
theorem frzs_rows (n : Nat) (g : Int → List Int) : frzs (rowsO n g) = rowsL n g := by
  unfold rowsO rowsL
  induction rgF 0 n with
  | nil => rfl
  | cons x xs ih =>
    show D.lst (frzs ((g x).map D.int)) :: frzs (xs.map fun i => D.own ((g i).map D.int)) = _
    rw [ih, frzs_ints]
    rfl
theorem plains_rowsL (n : Nat) (g : Int → List Int) : plains (rowsL n g) = true := by
  unfold rowsL
  induction rgF 0 n with
  | nil => rfl
  | cons x xs ih =>
    show (plains ((g x).map D.int) && plains (xs.map fun i => D.lst ((g i).map D.int))) = true
    rw [ih, plains_intsZ]
    rfl
theorem rowsL_at {n : Nat} (g : Int → List Int) {a : Int} (h0 : 0 ≤ a) (h1 : a < n) : atI (rowsL n g) a = some (.lst ((g a).map D.int)) := by
  have hl : (rowsL n g).length = n := by unfold rowsL; rw [List.length_map, rgF_len]
  rw [atI_pos h0 (by omega)]
  unfold rowsL
  rw [List.getElem?_map, rgF_at (by omega), Option.map_some, show (0 : Int) + (a.toNat : Int) = a by omega]
theorem app_row {n : Nat} (g : Int → List Int) {a b : Int} (h0 : 0 ≤ a) (h1 : a < n) (hl : (g a).length ≤ 1000) (o0 : Option D) (e : Mi.Env) {j : Nat} (hj : ((o0 :: some (.own (rowsO n g)) :: e : Mi.Env))[j]? = some (some (.int b))) (hj1 : j ≠ 1) :
    appAt (o0 :: some (.own (rowsO n g)) :: e) 1 j (.int a) = .ok (.non, o0 :: some (.own (rowsO n (bump g a b))) :: e) := by
  unfold appAt
  have e1 : ownAt (o0 :: some (.own (rowsO n g)) :: e) 1 = some (rowsO n g) := rfl
  have e2 : slotD (o0 :: some (.own (rowsO n g)) :: e) j = some (.int b) := by unfold slotD; rw [hj]
  have e3 : ixN (rowsO n g).length a = some a.toNat := by
    rw [rowsO_len]
    have := ixN_nat (n := n) (j := a.toNat) (by omega)
    rw [show ((a.toNat : Nat) : Int) = a by omega] at this
    exact this
  simp only [e1, e2, e3, rowsO_at g h0 h1]
  rw [if_pos ⟨hj1, rfl, by rw [List.length_map, sizeLine_eq]; omega⟩, rowsO_set g h0 h1]
  rfl
theorem mAppAt_var {i j v : Nat} {e : Mi.Env} {k : D} {ds : List D} (h1 : ownAt e i = some ds) (h2 : mVar v e = .ok (k, e)) : mAppAt i (mVar v) j e = appAt e i j k := by
  unfold mAppAt
  rw [h1]
  show (mVar v e).bind _ = _
  rw [h2]
  rfl
theorem row_step {acc : List (List Int)} {a b : Int} (h : a < b) : bump (bump (rowOf acc) a b) b a = rowOf (acc ++ [[a, b]]) := by
  funext i
  unfold rowOf bump
  rw [List.flatMap_append, List.flatMap_cons, List.flatMap_nil, List.append_nil]
  show _ = List.flatMap (rowP i) acc ++ (if a = i then [b] else if b = i then [a] else [])
  by_cases c : i = a
  · subst c
    rw [if_neg (by omega), if_pos rfl, if_pos rfl]
  · rw [if_neg (show ¬ a = i from fun e => c e.symm)]
    by_cases d : i = b
    · subst d
      rw [if_pos rfl, if_neg c, if_pos rfl]
    · rw [if_neg d, if_neg c, if_neg (show ¬ b = i from fun e => d e.symm), List.append_nil]
theorem v_near_rows {n : Nat} {ps : List (List Int)} (W : Web n ps) : F_near_rows [.tup [.int (n : Int), .tup (ps.map tupZ)]] = .ok (.own (rowsO n (nearZ n ps))) := by
  have pp := plains_tups ps
  have n16 := W.n16
  have s62 : small62 (n : Int) := ⟨by omega, by omega⟩
  have en : ((n : Int)).toNat = n := Int.toNat_natCast n
  have lc0 : mLcLoop [4] (mgName 4) (mYes) (mLst (mNil)) (rangeD 0 n) [] [some (.tup [.int (n : Int), .tup (ps.map tupZ)]), none, none, none, none, none] = .ok (.own (rowsO n (rowOf [])), [some (.tup [.int (n : Int), .tup (ps.map tupZ)]), none, none, none, none, none]) := by
    obtain ⟨e', h1, rfl⟩ := lc_fil (vs := [4]) (g := mgName 4) (tt := mYes) (te := mLst (mNil))
      (fun e => e = [some (.tup [.int (n : Int), .tup (ps.map tupZ)]), none, none, none, none, none]) (fun _ => true) id D.int (fun i => D.own ((rowOf [] i).map D.int)) (rgF 0 n) [] _ (fun p hp _ he => by
      subst he
      refine ⟨_, _, rfl, rfl, fun _ => ⟨[some (.tup [.int (n : Int), .tup (ps.map tupZ)]), none, none, none, some (.int p), none], ?_, rfl⟩, fun z => nomatch z⟩
      simp -implicitDefEqProofs only [Mi.EVA, Mi.EVB, D.frz, frzs, D.plain, plains, List.length_cons, List.length_nil, List.length_set, Nat.reduceAdd, Nat.reduceLT, Nat.reduceLeDiff, sizeLine_eq, if_true, if_false, List.cons_append, List.nil_append, Option.map_some, Option.bind_some, Int.reduceToNat, Int.reducePow, Int.reduceNeg, Int.reduceEq, Int.reduceLT, Int.reduceLE, Int.reduceAdd, Int.reduceSub, Int.reduceMul, eq_self, Mi.dat, ]
      rfl) (by rw [rgF_len, List.length_nil, sizeLine_eq]; omega) rfl
    rw [List.nil_append, List.filter_eq_self.mpr fun _ _ => rfl, List.map_id, ← rgF_D] at h1
    exact h1
  obtain ⟨e', h2, o2, o3, rfl⟩ := loop_app (g := (mgTup 2 (mgCons (mgName 2) (mgCons (mgName 3) (mgNil))))) (body := l_near_rows_0) tupZ (fun acc e => ∃ o2 o3, e = [some (.tup [.int (n : Int), .tup (ps.map tupZ)]), some (.own (rowsO n (rowOf acc))), o2, o3, none, none])
      (fun p => [p]) 256 ps (fun p hp acc e he hl => by
    obtain ⟨o2, o3, rfl⟩ := he
    obtain ⟨a, b, rfl, h0, hij, hj⟩ := W.inn p hp
    have rl : ∀ i, (rowOf acc i).length ≤ 256 := fun i => by
      unfold rowOf
      have := len_flat (rowP i) 1 acc (fun q _ => by
        unfold rowP
        split
        · split
          · exact Nat.le_refl _
          · split
            · exact Nat.le_refl _
            · exact Nat.zero_le _
        · exact Nat.zero_le _)
      have h1 : ([[a, b]] : List (List Int)).length = 1 := rfl
      omega
    have a1 := app_row (n := n) (rowOf acc) (a := a) (b := b) h0 (by omega) (by have := rl a; omega) (some (.tup [.int (n : Int), .tup (ps.map tupZ)])) [some (.int a), some (.int b), none, none] (j := 3) rfl (by decide)
    have a2 := app_row (n := n) (bump (rowOf acc) a b) (a := b) (b := a) (by omega) hj (by unfold bump; rw [if_neg (by omega)]; have := rl b; omega) (some (.tup [.int (n : Int), .tup (ps.map tupZ)])) [some (.int a), some (.int b), none, none] (j := 2) rfl (by decide)
    rw [row_step hij] at a2
    refine ⟨[some (.tup [.int (n : Int), .tup (ps.map tupZ)]), some (.own (rowsO n (rowOf acc))), some (.int a), some (.int b), none, none], _, rfl, ?_, some (.int a), some (.int b), rfl⟩
    have m1 : mAppAt 1 (mVar 2) 3 [some (.tup [.int (n : Int), .tup (ps.map tupZ)]), some (.own (rowsO n (rowOf acc))), some (.int a), some (.int b), none, none] = .ok (.non, [some (.tup [.int (n : Int), .tup (ps.map tupZ)]), some (.own (rowsO n (bump (rowOf acc) a b))), some (.int a), some (.int b), none, none]) := by
      rw [mAppAt_var rfl (k := .int a) rfl]
      exact a1
    have m2 : mAppAt 1 (mVar 3) 2 [some (.tup [.int (n : Int), .tup (ps.map tupZ)]), some (.own (rowsO n (bump (rowOf acc) a b))), some (.int a), some (.int b), none, none] = .ok (.non, [some (.tup [.int (n : Int), .tup (ps.map tupZ)]), some (.own (rowsO n (rowOf (acc ++ [[a, b]])))), some (.int a), some (.int b), none, none]) := by
      rw [mAppAt_var rfl (k := .int b) rfl]
      exact a2
    unfold l_near_rows_0
    simp -implicitDefEqProofs only [Mi.EVA, Mi.EVB, D.frz, frzs, D.plain, plains, List.length_cons, List.length_nil, List.length_set, Nat.reduceAdd, Nat.reduceLT, Nat.reduceLeDiff, sizeLine_eq, if_true, if_false, List.cons_append, List.nil_append, Option.map_some, Option.bind_some, Int.reduceToNat, Int.reducePow, Int.reduceNeg, Int.reduceEq, Int.reduceLT, Int.reduceLE, Int.reduceAdd, Int.reduceSub, Int.reduceMul, eq_self, Mi.dat, m1, m2]) [] _ ⟨none, none, rfl⟩ (by have := W.len; rw [List.flatMap_singleton']; rw [List.length_nil]; omega)
  rw [List.flatMap_singleton', List.nil_append] at h2
  have fr := frzs_rows n (rowOf ps)
  have lc5 : mLcLoop [5] (mgName 5) (mYes) (mOpL (fn1 dSortX) (mCons (mVar 5) (mNil))) (rowsL n (rowOf ps)) [] [some (.tup [.int (n : Int), .tup (ps.map tupZ)]), some (.lst (rowsL n (rowOf ps))), o2, o3, none, none] = .ok (.own (rowsO n (nearZ n ps)), [some (.tup [.int (n : Int), .tup (ps.map tupZ)]), some (.lst (rowsL n (rowOf ps))), o2, o3, none, none]) := by
    obtain ⟨e', h1, rfl⟩ := lc_fil (vs := [5]) (g := mgName 5) (tt := mYes) (te := mOpL (fn1 dSortX) (mCons (mVar 5) (mNil)))
      (fun e => e = [some (.tup [.int (n : Int), .tup (ps.map tupZ)]), some (.lst (rowsL n (rowOf ps))), o2, o3, none, none]) (fun _ => true) id (fun i => D.lst ((rowOf ps i).map D.int)) (fun i => D.own ((nearZ n ps i).map D.int)) (rgF 0 n) [] _ (fun i hp _ he => by
      subst he
      have pr := plains_intsZ (rowOf ps i)
      have fz := frzs_ints (rowOf ps i)
      have sx : dSortX (.lst ((rowOf ps i).map D.int)) = some (.own ((sortZ (rowOf ps i)).map D.int)) := dSortX_ints
      rw [sort_row W] at sx
      refine ⟨_, _, rfl, rfl, fun _ => ⟨[some (.tup [.int (n : Int), .tup (ps.map tupZ)]), some (.lst (rowsL n (rowOf ps))), o2, o3, none, some (.lst ((rowOf ps i).map D.int))], ?_, rfl⟩, fun z => nomatch z⟩
      simp -implicitDefEqProofs only [Mi.EVA, Mi.EVB, D.frz, frzs, D.plain, plains, List.length_cons, List.length_nil, List.length_set, Nat.reduceAdd, Nat.reduceLT, Nat.reduceLeDiff, sizeLine_eq, if_true, if_false, List.cons_append, List.nil_append, Option.map_some, Option.bind_some, Int.reduceToNat, Int.reducePow, Int.reduceNeg, Int.reduceEq, Int.reduceLT, Int.reduceLE, Int.reduceAdd, Int.reduceSub, Int.reduceMul, eq_self, Mi.dat, pr, fz, sx]
      rfl) (by rw [rgF_len, List.length_nil, sizeLine_eq]; omega) rfl
    rw [List.nil_append, List.filter_eq_self.mpr fun _ _ => rfl, List.map_id] at h1
    exact h1
  have fr2 := frzs_plain _ (plains_rowsL n (rowOf ps))
  unfold l_near_rows_0 at h2
  unfold F_near_rows m_near_rows
  simp -implicitDefEqProofs only [Mi.EVA, Mi.EVB, D.frz, frzs, D.plain, plains, List.length_cons, List.length_nil, List.length_set, Nat.reduceAdd, Nat.reduceLT, Nat.reduceLeDiff, sizeLine_eq, if_true, if_false, List.cons_append, List.nil_append, Option.map_some, Option.bind_some, Int.reduceToNat, Int.reducePow, Int.reduceNeg, Int.reduceEq, Int.reduceLT, Int.reduceLE, Int.reduceAdd, Int.reduceSub, Int.reduceMul, eq_self, Mi.dat, pp, s62, en, lc0, h2, fr, fr2, plains_rowsL, lc5]
end Lw

namespace Lw
open PySem PySem.Spec PyProof.Rows L2 Mi
variable [TabsC]
theorem dEq_tt : dEq (.bl true) (.bl true) = some (.bl true) := rfl
theorem dEq_ff : dEq (.bl false) (.bl false) = some (.bl true) := rfl
theorem dNe_tt : dNe (.bl true) (.bl true) = some (.bl false) := rfl
theorem dNe_ff : dNe (.bl false) (.bl false) = some (.bl false) := rfl
theorem dEq_non : dEq .non .non = some (.bl true) := rfl
theorem dEq_bb {b : Bool} : dEq (.bl b) (.bl b) = some (.bl true) := by cases b <;> rfl
def Sm : Nat → D → Prop
  | 0, _ => False
  | k + 1, d => (∃ i, d = .int i) ∨ (∃ b, d = .bl b) ∨ (∃ x, d = .str x ∧ dEq (.str x) (.str x) = some (.bl true)) ∨ d = .non ∨ ∃ ds, (d = .tup ds ∨ d = .lst ds) ∧ ds.length ≤ sizeLine ∧ ∀ x ∈ ds, Sm k x
theorem Sm.int {k : Nat} {i : Int} : Sm (k + 1) (.int i) := .inl ⟨i, rfl⟩
theorem Sm.bl {k : Nat} {i : Bool} : Sm (k + 1) (.bl i) := .inr (.inl ⟨i, rfl⟩)
theorem Sm.str {k : Nat} {i : Str} (h : dEq (.str i) (.str i) = some (.bl true)) : Sm (k + 1) (.str i) := .inr (.inr (.inl ⟨i, rfl, h⟩))
theorem Sm.non {k : Nat} : Sm (k + 1) .non := .inr (.inr (.inr (.inl rfl)))
theorem Sm.tup {k : Nat} {ds : List D} (h : ds.length ≤ sizeLine) (g : ∀ x ∈ ds, Sm k x) : Sm (k + 1) (.tup ds) := .inr (.inr (.inr (.inr ⟨ds, .inl rfl, h, g⟩)))
theorem Sm.lst {k : Nat} {ds : List D} (h : ds.length ≤ sizeLine) (g : ∀ x ∈ ds, Sm k x) : Sm (k + 1) (.lst ds) := .inr (.inr (.inr (.inr ⟨ds, .inr rfl, h, g⟩)))
theorem plains_all : ∀ {ds : List D}, (∀ x ∈ ds, x.plain = true) → plains ds = true
  | [], _ => rfl
  | d :: ds, h => by
    show (d.plain && plains ds) = true
    rw [h d List.mem_cons_self, plains_all fun x hx => h x (List.mem_cons_of_mem _ hx)]
    rfl
theorem Sm.plain : ∀ {k : Nat} {d : D}, Sm k d → d.plain = true
  | 0, _, h => h.elim
  | k + 1, d, h => by
    rcases h with ⟨i, rfl⟩ | ⟨b, rfl⟩ | ⟨x, rfl, _⟩ | rfl | ⟨ds, rfl | rfl, _, h⟩
    · rfl
    · rfl
    · rfl
    · rfl
    · exact plains_all fun x hx => (h x hx).plain
    · exact plains_all fun x hx => (h x hx).plain
theorem Sm.frz {k : Nat} {d : D} (h : Sm k d) : d.frz = d := frz_plain d h.plain
def b_pair (Fs : MF) : ME := mCall Fs (mCons (mVar 2) (mCons (mVar 3) (mNil)))
def g_pair : MG := mgTup 2 (mgCons (mgName 2) (mgCons (mgName 3) (mgNil)))
theorem same_loop {Fs : MF} {a b : D} {P : D → Prop} (hP : ∀ d, P d → d.plain = true ∧ Fs [d, d] = .ok (.bl true)) : ∀ (ds : List D) (m : Nat), (∀ x ∈ ds, P x) → m + ds.length ≤ sizeLine →
    mLcLoop [2, 3] g_pair mYes (b_pair Fs) (zipD ds ds) (List.replicate m (.bl true)) [some a, some b, none, none] = .ok (.own (List.replicate (m + ds.length) (.bl true)), [some a, some b, none, none])
  | [], m, _, _ => rfl
  | d :: ds, m, h, hl => by
    obtain ⟨h1, h2⟩ := hP d (h d List.mem_cons_self)
    have hz := frz_plain d h1
    have ih := same_loop (a := a) (b := b) hP ds (m + 1) (fun x hx => h x (List.mem_cons_of_mem _ hx)) (by simp only [List.length_cons] at hl; omega)
    have e : zipD (d :: ds) (d :: ds) = .tup [d, d] :: zipD ds ds := by
      show D.tup (frzs [d, d]) :: _ = _
      simp only [frzs, hz]
      rfl
    have el : (List.replicate m (D.bl true)).length < sizeLine := by
      simp only [List.length_replicate, List.length_cons] at hl ⊢
      omega
    have er : List.replicate m (D.bl true) ++ [.bl true] = List.replicate (m + 1) (.bl true) := List.replicate_succ'.symm
    have hg : g_pair (.tup [d, d]) [some a, some b, none, none] = some [some a, some b, some d, some d] := rfl
    have hb : b_pair Fs [some a, some b, some d, some d] = .ok (.bl true, [some a, some b, some d, some d]) := by
      unfold b_pair
      simp -implicitDefEqProofs only [Mi.EVA, Mi.EVB, D.frz, frzs, D.plain, plains, List.length_cons, List.length_nil, List.length_set, Nat.reduceAdd, Nat.reduceLT, Nat.reduceLeDiff, sizeLine_eq, if_true, if_false, List.cons_append, List.nil_append, Option.map_some, Option.bind_some, Int.reduceToNat, Int.reducePow, Int.reduceNeg, Int.reduceEq, Int.reduceLT, Int.reduceLE, Int.reduceAdd, Int.reduceSub, Int.reduceMul, eq_self, Mi.dat, h1, hz, h2]
    have ey : mYes [some a, some b, some d, some d] = .ok (true, [some a, some b, some d, some d]) := rfl
    rw [e, Mi.lc_cons, hg, Mi.kz1_some, ey, Mi.kz2_ok, if_pos rfl, hb, Mi.kz3_ok, if_pos el, er]
    rw [show m + (d :: ds).length = m + 1 + ds.length by simp only [List.length_cons]; omega]
    exact ih
theorem bls_rep : ∀ n : Nat, blsD (List.replicate n (.bl true)) = some (List.replicate n true)
  | 0 => rfl
  | n + 1 => by
    rw [List.replicate_succ]
    show (blsD (List.replicate n (.bl true))).map (true :: ·) = _
    rw [bls_rep n]
    rfl
theorem all_rep (n : Nat) : dAll (.own (List.replicate n (.bl true))) = some (.bl true) := by
  show ((some (List.replicate n (D.bl true))).bind fun ds => (blsD ds).map fun bs => D.bl (bs.all id)) = _
  simp only [Option.bind_some, bls_rep, Option.map_some]
  simp
theorem same_refl : ∀ (k : Nat) (d : D), Sm k d → F_w_same k [d, d] = .ok (.bl true)
  | 0, _, h => h.elim
  | k + 1, d, h => by
    have hp := h.plain
    have hz := h.frz
    show fnM 4 (m_w_same (F_w_same k)) [d, d] = _
    unfold m_w_same
    rcases h with ⟨i, rfl⟩ | ⟨b, rfl⟩ | ⟨x, rfl, hx⟩ | rfl | ⟨ds, rfl | rfl, hl, h⟩
    · simp -implicitDefEqProofs only [Mi.EVA, Mi.EVB, D.frz, frzs, D.plain, plains, List.length_cons, List.length_nil, List.length_set, Nat.reduceAdd, Nat.reduceLT, Nat.reduceLeDiff, sizeLine_eq, if_true, if_false, List.cons_append, List.nil_append, Option.map_some, Option.bind_some, Int.reduceToNat, Int.reducePow, Int.reduceNeg, Int.reduceEq, Int.reduceLT, Int.reduceLE, Int.reduceAdd, Int.reduceSub, Int.reduceMul, eq_self, Mi.dat, dEq_ff]
    · simp -implicitDefEqProofs only [Mi.EVA, Mi.EVB, D.frz, frzs, D.plain, plains, List.length_cons, List.length_nil, List.length_set, Nat.reduceAdd, Nat.reduceLT, Nat.reduceLeDiff, sizeLine_eq, if_true, if_false, List.cons_append, List.nil_append, Option.map_some, Option.bind_some, Int.reduceToNat, Int.reducePow, Int.reduceNeg, Int.reduceEq, Int.reduceLT, Int.reduceLE, Int.reduceAdd, Int.reduceSub, Int.reduceMul, eq_self, Mi.dat, dEq_tt, dEq_bb]
    · simp -implicitDefEqProofs only [Mi.EVA, Mi.EVB, D.frz, frzs, D.plain, plains, List.length_cons, List.length_nil, List.length_set, Nat.reduceAdd, Nat.reduceLT, Nat.reduceLeDiff, sizeLine_eq, if_true, if_false, List.cons_append, List.nil_append, Option.map_some, Option.bind_some, Int.reduceToNat, Int.reducePow, Int.reduceNeg, Int.reduceEq, Int.reduceLT, Int.reduceLE, Int.reduceAdd, Int.reduceSub, Int.reduceMul, eq_self, Mi.dat, dEq_ff, hx]
    · simp -implicitDefEqProofs only [Mi.EVA, Mi.EVB, D.frz, frzs, D.plain, plains, List.length_cons, List.length_nil, List.length_set, Nat.reduceAdd, Nat.reduceLT, Nat.reduceLeDiff, sizeLine_eq, if_true, if_false, List.cons_append, List.nil_append, Option.map_some, Option.bind_some, Int.reduceToNat, Int.reducePow, Int.reduceNeg, Int.reduceEq, Int.reduceLT, Int.reduceLE, Int.reduceAdd, Int.reduceSub, Int.reduceMul, eq_self, Mi.dat, dEq_ff, dEq_non]
    · have hl2 := same_loop (a := .tup ds) (b := .tup ds) (P := Sm k) (fun d hd => ⟨hd.plain, same_refl k d hd⟩) ds 0 h (by omega)
      unfold b_pair g_pair at hl2
      have hp2 : plains ds = true := hp
      rw [List.replicate_zero] at hl2
      simp -implicitDefEqProofs only [Mi.EVA, Mi.EVB, D.frz, frzs, D.plain, plains, List.length_cons, List.length_nil, List.length_set, Nat.reduceAdd, Nat.reduceLT, Nat.reduceLeDiff, sizeLine_eq, if_true, if_false, List.cons_append, List.nil_append, Option.map_some, Option.bind_some, Int.reduceToNat, Int.reducePow, Int.reduceNeg, Int.reduceEq, Int.reduceLT, Int.reduceLE, Int.reduceAdd, Int.reduceSub, Int.reduceMul, eq_self, Mi.dat, hp2, dNe_tt, dNe_ff, hl2, all_rep]
    · have hl2 := same_loop (a := .lst ds) (b := .lst ds) (P := Sm k) (fun d hd => ⟨hd.plain, same_refl k d hd⟩) ds 0 h (by omega)
      unfold b_pair g_pair at hl2
      have hp2 : plains ds = true := hp
      have hz2 : frzs ds = ds := frzs_plain _ hp2
      rw [List.replicate_zero] at hl2
      simp -implicitDefEqProofs only [Mi.EVA, Mi.EVB, D.frz, frzs, D.plain, plains, List.length_cons, List.length_nil, List.length_set, Nat.reduceAdd, Nat.reduceLT, Nat.reduceLeDiff, sizeLine_eq, if_true, if_false, List.cons_append, List.nil_append, Option.map_some, Option.bind_some, Int.reduceToNat, Int.reducePow, Int.reduceNeg, Int.reduceEq, Int.reduceLT, Int.reduceLE, Int.reduceAdd, Int.reduceSub, Int.reduceMul, eq_self, Mi.dat, hp2, hz2, dNe_tt, dNe_ff, hl2, all_rep]
end Lw

namespace Lw
open PySem PySem.Spec PyProof.Rows L2 Mi
variable [TabsC]
theorem dNe_iiX {i j : Int} : dNe (.int i) (.int j) = some (.bl (!decide (i = j))) := by
  unfold dNe pyEq
  show some (D.bl (!PyData.eqv (.int i) (.int j))) = _
  rw [show PyData.eqv (.int i) (.int j) = decide (i = j) by simp only [PyData.eqv]; by_cases h : i = j <;> simp [h]]
theorem dIn_Zl {i : Int} {ns : List Int} : dIn (.int i) (.lst (ns.map D.int)) = some (.bl (decide (i ∈ ns))) := by
  unfold dIn pyIn
  have e : toPy (.lst (ns.map D.int)) = some (.list (ns.map PyData.int)) := by
    show (toPys (ns.map D.int)).map PyData.list = _
    rw [toPys_intsZ]; rfl
  have sh : SeqAt.shaped (.list (ns.map PyData.int)) = true := by
    have := depth_ints ns
    unfold SeqAt.shaped PyData.canLay0 PyData.depth
    rw [lay_ints]
    simp; omega
  rw [e]
  show (if (SeqAt.shaped (.int i) && SeqAt.shaped (.list (ns.map PyData.int))) = true then some (D.bl (xor false ((ns.map PyData.int).any fun z => PyData.eqv z (.int i)))) else none) = _
  rw [shp_i, sh, any_Z]
  simp
def shZ (n : Nat) (ps : List (List Int)) (i j : Int) : List Int := (nearZ n ps i).filter fun x => decide (x ∈ nearZ n ps j)
section
variable {n : Nat} {ps : List (List Int)} (W : Web n ps)
include W
theorem v_shared {i j : Int} (i0 : 0 ≤ i) (i1 : i < n) (j0 : 0 ≤ j) (j1 : j < n) : F_shared_in [.tup [.int (n : Int), .tup (ps.map tupZ)], .int i, .int j] = .ok (.tup ((shZ n ps i j).map D.int)) := by
  have pp := plains_tups ps
  have fp := frzs_Ts ps
  have vn := v_near_rows W
  have fr := frzs_rows n (nearZ n ps)
  have pl := plains_rowsL n (nearZ n ps)
  have fr2 := frzs_plain _ pl
  have ai := rowsL_at (nearZ n ps) i0 i1
  have aj := rowsL_at (nearZ n ps) j0 j1
  have pi := plains_intsZ (nearZ n ps i)
  have fi := frzs_ints (nearZ n ps i)
  have lc := lc_fil (vs := [4]) (g := mgName 4) (tt := (mT (mOp2 dIn (mVar 4) (mOp2 dIx (mFrz 3) (mVar 2))))) (te := mVar 4)
      (fun e => e = [some (.tup [.int (n : Int), .tup (ps.map tupZ)]), some (.int i), some (.int j), some (.lst (rowsL n (nearZ n ps))), none]) (fun x => decide (x ∈ nearZ n ps j)) id D.int D.int (nearZ n ps i) [] _ (fun x hp _ he => by
      subst he
      have di := dIn_Zl (i := x) (ns := nearZ n ps j)
      refine ⟨_, [some (.tup [.int (n : Int), .tup (ps.map tupZ)]), some (.int i), some (.int j), some (.lst (rowsL n (nearZ n ps))), some (.int x)], rfl, ?_, fun _ => ⟨[some (.tup [.int (n : Int), .tup (ps.map tupZ)]), some (.int i), some (.int j), some (.lst (rowsL n (nearZ n ps))), some (.int x)], rfl, rfl⟩, fun _ => rfl⟩
      simp -implicitDefEqProofs only [Mi.EVA, Mi.EVB, D.frz, frzs, D.plain, plains, List.length_cons, List.length_nil, List.length_set, Nat.reduceAdd, Nat.reduceLT, Nat.reduceLeDiff, sizeLine_eq, if_true, if_false, List.cons_append, List.nil_append, Option.map_some, Option.bind_some, Int.reduceToNat, Int.reducePow, Int.reduceNeg, Int.reduceEq, Int.reduceLT, Int.reduceLE, Int.reduceAdd, Int.reduceSub, Int.reduceMul, eq_self, Mi.dat, fr2, pl, aj, di]) (by have := nearZ_len (n := n) ps i; have := W.n16; rw [List.length_nil, sizeLine_eq]; omega) rfl
  obtain ⟨e', h1, rfl⟩ := lc
  rw [List.nil_append, List.map_id] at h1
  have fs := frzs_ints (shZ n ps i j)
  unfold shZ at fs ⊢
  unfold F_shared_in m_shared_in
  simp -implicitDefEqProofs only [Mi.EVA, Mi.EVB, D.frz, frzs, D.plain, plains, List.length_cons, List.length_nil, List.length_set, Nat.reduceAdd, Nat.reduceLT, Nat.reduceLeDiff, sizeLine_eq, if_true, if_false, List.cons_append, List.nil_append, Option.map_some, Option.bind_some, Int.reduceToNat, Int.reducePow, Int.reduceNeg, Int.reduceEq, Int.reduceLT, Int.reduceLE, Int.reduceAdd, Int.reduceSub, Int.reduceMul, eq_self, Mi.dat, pp, fp, vn, fr, fr2, pl, ai, pi, fi, h1, fs, dTuple_ow]
end
def allEq (ns : List Int) : Prop := ∀ x ∈ ns, ∀ y ∈ ns, x = y
end Lw

namespace Lw
open PySem PySem.Spec PyProof.Rows L2 Mi
variable [TabsC]
def degs (n : Nat) (ps : List (List Int)) : List Int := (rgF 0 n).map fun i => ((nearZ n ps i).length : Int)
def shL (n : Nat) (ps : List (List Int)) : List Int → Int
  | [i, j] => ((shZ n ps i j).length : Nat)
  | _ => 0
def tdL (n : Nat) (ps : List (List Int)) (b : Bool) : List (List Int) := (allP n).filter fun p => decide (p ∈ ps) == b
structure LikeW (n : Nat) (ps : List (List Int)) : Prop where
  t : tdL n ps true ≠ []
  u : tdL n ps false ≠ []
  d : allEq (degs n ps)
  a : allEq ((tdL n ps true).map (shL n ps))
  b : allEq ((tdL n ps false).map (shL n ps))
end Lw

namespace Lw
open PySem PySem.Spec PyProof.Rows L2 Mi
variable [TabsC]
section
variable {n : Nat} {ps : List (List Int)} (W : Web n ps)
include W
theorem v_w_near (i : Int) : F_w_near [.tup [.int (n : Int), .tup (ps.map tupZ)], .int i] = .ok (.own ((nearZ n ps i).map D.int)) := by
  have pp := plains_tups ps
  have fp := frzs_Ts ps
  have n16 := W.n16
  have s62 : small62 (n : Int) := ⟨by omega, by omega⟩
  have en : ((n : Int)).toNat = n := Int.toNat_natCast n
  obtain ⟨e', h1, rfl⟩ := lc_fil (vs := [2]) (g := mgName 2) (tt := (mAndT (mT (mOp2 dNe (mVar 2) (mVar 1))) (mT (mCall F_w_tied (mCons (mVar 0) (mCons (mVar 1) (mCons (mVar 2) (mNil)))))))) (te := mVar 2)
    (fun e => e = [some (.tup [.int (n : Int), .tup (ps.map tupZ)]), some (.int i), none]) (fun j => decide (j ≠ i) && tiedB ps i j) id D.int D.int (rgF 0 n) [] _ (fun x hp _ he => by
    subst he
    have vt := v_tied (n : Int) ps i x
    have dn : dNe (.int x) (.int i) = some (.bl (!decide (x = i))) := dNe_iiX
    refine ⟨_, [some (.tup [.int (n : Int), .tup (ps.map tupZ)]), some (.int i), some (.int x)], rfl, ?_, fun _ => ⟨[some (.tup [.int (n : Int), .tup (ps.map tupZ)]), some (.int i), some (.int x)], rfl, rfl⟩, fun _ => rfl⟩
    by_cases c : x = i
    · rw [decide_eq_true c] at dn
      rw [decide_eq_false (show ¬ x ≠ i from fun h => h c)]
      simp -implicitDefEqProofs only [Mi.EVA, Mi.EVB, D.frz, frzs, D.plain, plains, List.length_cons, List.length_nil, List.length_set, Nat.reduceAdd, Nat.reduceLT, Nat.reduceLeDiff, sizeLine_eq, if_true, if_false, List.cons_append, List.nil_append, Option.map_some, Option.bind_some, Int.reduceToNat, Int.reducePow, Int.reduceNeg, Int.reduceEq, Int.reduceLT, Int.reduceLE, Int.reduceAdd, Int.reduceSub, Int.reduceMul, eq_self, Mi.dat, pp, fp, dn]
    · rw [decide_eq_false c] at dn
      rw [decide_eq_true (show x ≠ i from c)]
      simp -implicitDefEqProofs only [Mi.EVA, Mi.EVB, D.frz, frzs, D.plain, plains, List.length_cons, List.length_nil, List.length_set, Nat.reduceAdd, Nat.reduceLT, Nat.reduceLeDiff, sizeLine_eq, if_true, if_false, List.cons_append, List.nil_append, Option.map_some, Option.bind_some, Int.reduceToNat, Int.reducePow, Int.reduceNeg, Int.reduceEq, Int.reduceLT, Int.reduceLE, Int.reduceAdd, Int.reduceSub, Int.reduceMul, eq_self, Mi.dat, pp, fp, dn, vt]) (by rw [rgF_len, List.length_nil, sizeLine_eq]; omega) rfl
  rw [List.nil_append, List.map_id, ← rgF_D] at h1
  change mLcLoop _ _ _ _ _ _ _ = .ok (.own ((nearZ n ps i).map D.int), _) at h1
  unfold F_w_near m_w_near
  simp -implicitDefEqProofs only [Mi.EVA, Mi.EVB, D.frz, frzs, D.plain, plains, List.length_cons, List.length_nil, List.length_set, Nat.reduceAdd, Nat.reduceLT, Nat.reduceLeDiff, sizeLine_eq, if_true, if_false, List.cons_append, List.nil_append, Option.map_some, Option.bind_some, Int.reduceToNat, Int.reducePow, Int.reduceNeg, Int.reduceEq, Int.reduceLT, Int.reduceLE, Int.reduceAdd, Int.reduceSub, Int.reduceMul, eq_self, Mi.dat, pp, s62, en, h1]
end
end Lw

namespace Lw
open PySem PySem.Spec PyProof.Rows L2 Mi
variable [TabsC]
theorem nat_of {i : Int} (h : 0 ≤ i) : ∃ n : Nat, i = n := ⟨i.toNat, by omega⟩
section
variable {n : Nat} {ps : List (List Int)} (W : Web n ps)
include W
theorem web_ix0 : dIxS (webD n ps) (.int 0) = some (.int n) := by
  have pps := plains_tups ps
  unfold webD
  simp -implicitDefEqProofs only [Mi.EVA, Mi.EVB, D.frz, frzs, D.plain, plains, List.length_cons, List.length_nil, List.length_set, Nat.reduceAdd, Nat.reduceLT, Nat.reduceLeDiff, sizeLine_eq, if_true, if_false, List.cons_append, List.nil_append, Option.map_some, Option.bind_some, Int.reduceToNat, Int.reducePow, Int.reduceNeg, Int.reduceEq, Int.reduceLT, Int.reduceLE, Int.reduceAdd, Int.reduceSub, Int.reduceMul, eq_self, Mi.dat, pps]
end
end Lw

namespace Lw
open PySem PySem.Spec PyProof.Rows L2 Mi
variable [TabsC]
theorem cut_front {α : Type} (xs : List α) : cutL xs none (some (-1)) = xs.dropLast := by
  unfold cutL
  have e : HT.sIx xs.length xs.length (some (-1)) = xs.length - 1 := by
    unfold HT.sIx
    show (if (-1 : Int) < 0 then ((-1 : Int) + (xs.length : Int)).toNat else min (-1 : Int).toNat xs.length) = _
    rw [if_pos (by decide)]
    omega
  rw [e, HT.sIx_none, List.drop_zero, Nat.sub_zero, List.dropLast_eq_take]
theorem cut_tail {α : Type} (xs : List α) : cutL xs (some 1) none = xs.tail := by
  unfold cutL
  have e : HT.sIx xs.length 0 (some 1) = min 1 xs.length := HT.sIx_nat _ _ 1
  rw [e, HT.sIx_none]
  cases xs with
  | nil => rfl
  | cons x xs =>
    rw [List.tail_cons, List.length_cons, show min 1 (xs.length + 1) = 1 by omega, List.drop_succ_cons, List.drop_zero, List.take_of_length_le (by omega)]
theorem lex_of : ∀ {a b : List Int}, lexZ a b = true → a ≠ b → HT.lexLt a b = true
  | [], [], _, h => absurd rfl h
  | [], _ :: _, _, _ => rfl
  | _ :: _, [], h, _ => nomatch h
  | x :: xs, y :: ys, h, hn => by
    have h : (decide (x < y) || (decide (x = y) && lexZ xs ys)) = true := h
    simp only [Bool.or_eq_true, Bool.and_eq_true, decide_eq_true_eq] at h
    rw [HT.lexLt_cons]
    rcases h with h1 | ⟨rfl, h2⟩
    · rw [if_neg (by omega), decide_eq_true h1]
    · rw [if_pos rfl]
      exact lex_of h2 fun z => hn (by rw [z])
end Lw

namespace Lw
open PySem PySem.Spec PyProof.Rows L2 Mi
variable [TabsC]
theorem pick_take {α : Type} (ys : List α) : ∀ n : Nat, (List.range n).filterMap (fun m => ys[m]?) = ys.take n
  | 0 => by simp
  | n + 1 => by
    rw [List.range_succ, List.filterMap_append, pick_take ys n, List.take_succ]
    congr 1
theorem stepP_rev {α : Type} (xs : List α) : stepP xs none none (-1) = xs.reverse := by
  unfold stepP
  have e1 : Builtin.Slice.sliceAdjust none none (-1) (xs.length : Int) = ((xs.length : Int) - 1, -1) := rfl
  have e2 : Builtin.Slice.slicePlaces ((xs.length : Int) - 1) (-1) (-1) = xs.length := by
    unfold Builtin.Slice.slicePlaces
    rw [if_neg (by decide)]
    by_cases c : (xs.length : Int) - 1 > -1
    · rw [if_pos c, show (- (-1 : Int)) = 1 from rfl, Int.ediv_one]; omega
    · rw [if_neg c]; omega
  rw [e1]
  show List.filterMap _ (List.range (Builtin.Slice.slicePlaces ((xs.length : Int) - 1) (-1) (-1))) = _
  rw [e2]
  have t := pick_take xs.reverse xs.length
  rw [List.take_of_length_le (by rw [List.length_reverse]; omega)] at t
  rw [← t]
  have fc : ∀ l : List Nat, (∀ m ∈ l, m < xs.length) → l.filterMap (fun m : Nat => xs[((xs.length : Int) - 1 + (m : Int) * -1).toNat]?) = l.filterMap fun m => xs.reverse[m]? := by
    intro l
    induction l with
    | nil => intro _; rfl
    | cons m l ih =>
      intro h
      have hm := h m List.mem_cons_self
      rw [List.filterMap_cons, List.filterMap_cons, ih fun y hy => h y (List.mem_cons_of_mem _ hy), List.getElem?_reverse hm, show ((xs.length : Int) - 1 + (m : Int) * -1).toNat = xs.length - 1 - m by omega]
  exact fc _ fun m hm => List.mem_range.mp hm
end Lw

namespace Lw
open PySem PySem.Spec PyProof.Rows L2 Mi
variable [TabsC]
section
variable {n : Nat} {ps : List (List Int)} (W : Web n ps)
include W
theorem v_near_in {i : Int} (h0 : 0 ≤ i) (h1 : i < n) : F_near_in [webD n ps, .int i] = .ok (.tup ((nearZ n ps i).map D.int)) := by
  have vn := v_near_rows W
  have ar : atI (rowsO n (nearZ n ps)) i = some (.own ((nearZ n ps i).map D.int)) := by
    obtain ⟨k, rfl⟩ : ∃ k : Nat, i = k := ⟨i.toNat, by omega⟩
    unfold atI
    rw [rowsO_len, ixN_nat (by omega), Option.bind_some]
    unfold rowsO
    rw [List.getElem?_map, rgF_at (by omega), Option.map_some, Int.zero_add]
  have fz := frzs_ints (nearZ n ps i)
  have wp := plain_web n ps
  have wf := frz_web n ps
  have vn : F_near_rows [webD n ps] = _ := vn
  unfold F_near_in m_near_in
  generalize webD n ps = X at *
  simp -implicitDefEqProofs only [Mi.EVA, Mi.EVB, D.frz, frzs, D.plain, plains, List.length_cons, List.length_nil, List.length_set, Nat.reduceAdd, Nat.reduceLT, Nat.reduceLeDiff, sizeLine_eq, if_true, if_false, List.cons_append, List.nil_append, Option.map_some, Option.bind_some, Int.reduceToNat, Int.reducePow, Int.reduceNeg, Int.reduceEq, Int.reduceLT, Int.reduceLE, Int.reduceAdd, Int.reduceSub, Int.reduceMul, eq_self, Mi.dat, wp, wf, vn, ar, dTuple_ow, fz]
end
end Lw

namespace Lw
open PySem PySem.Spec PyProof.Rows L2 Mi
variable [TabsC]
section
variable {n : Nat} {ps : List (List Int)} (W : Web n ps)
include W
theorem v_look_place {p : Int} (h0 : 0 ≤ p) (h1 : p < n) : F_look_at_place [webD n ps, .int p] = .ok .non := by
  have w0 := web_ix0 W
  have wp := plain_web n ps
  have wf := frz_web n ps
  have vb := vb_int p 0 ((n : Int) - 1)
  rw [decide_eq_true h0, decide_eq_true (show p ≤ (n : Int) - 1 by omega)] at vb
  unfold F_look_at_place m_look_at_place
  generalize webD n ps = X at *
  simp -implicitDefEqProofs only [Mi.EVA, Mi.EVB, D.frz, frzs, D.plain, plains, List.length_cons, List.length_nil, List.length_set, Nat.reduceAdd, Nat.reduceLT, Nat.reduceLeDiff, sizeLine_eq, if_true, if_false, List.cons_append, List.nil_append, Option.map_some, Option.bind_some, Int.reduceToNat, Int.reducePow, Int.reduceNeg, Int.reduceEq, Int.reduceLT, Int.reduceLE, Int.reduceAdd, Int.reduceSub, Int.reduceMul, eq_self, Mi.dat, wp, wf, w0, vb]
end
end Lw

namespace Lw
open PySem PySem.Spec PyProof.Rows L2 Mi
variable [TabsC]
structure It (d : D) : Prop where
  da : dat d = true
  i : ∀ xs, d = .tup xs → ∀ x ∈ xs, dat x = true
def pr (n : Nat) : D → Bool
  | .tup [.int a, .int b] => decide (0 ≤ a ∧ a < b ∧ b < n)
  | _ => false
theorem isi_tup (xs : List D) : dIsi (.tup xs) (.raw (.ty "tuple")) = some (.bl true) := rfl
theorem not_tup {d : D} (h : dat d = true) (n : ∀ xs, d ≠ .tup xs) : dIsi d (.raw (.ty "tuple")) = some (.bl false) := by
  cases d <;> first | rfl | exact absurd rfl (n _) | cases h
theorem isW_int {d : D} (h : isW d = true) : ∃ i, d = .int i := by
  cases d <;> first | exact ⟨_, rfl⟩ | cases h
theorem pr_no {d : D} (n : Nat) (h : ∀ a b, d ≠ .tup [.int a, .int b]) : pr n d = false := by
  unfold pr
  split
  · exact absurd rfl (h _ _)
  · rfl
theorem ne_two {k : Nat} (h : k ≠ 2) : dNe (.int (k : Int)) (.int 2) = some (.bl true) := by
  rw [dNe_int]
  have : ¬ ((k : Int) = 2) := by omega
  simp [this]
theorem two_two : dNe (.int ((2 : Nat) : Int)) (.int 2) = some (.bl false) := by rw [dNe_int]; rfl
theorem btw_iff {d : D} (n : Nat) : btw d 0 ((n : Int) - 1) = true ↔ ∃ i : Int, d = .int i ∧ 0 ≤ i ∧ i < n := by
  cases d with
  | int i =>
    show (decide ((0 : Int) ≤ i) && decide (i ≤ (n : Int) - 1)) = true ↔ _
    rw [Bool.and_eq_true, decide_eq_true_eq, decide_eq_true_eq]
    constructor
    · intro h; exact ⟨i, rfl, h.1, by omega⟩
    · rintro ⟨j, e, h⟩; cases e; omega
  | _ => constructor <;> intro h <;> first | (obtain ⟨_, e, _⟩ := h; cases e) | cases h
section
variable {n : Nat} {d : D} (h : It d)
include h
theorem v_pr : F_is_pair [d, .int (n : Int)] = .ok (.bl (pr n d)) := by
  have pl := dat_plain h.da
  have fz := dat_frz h.da
  by_cases t : ∃ xs, d = .tup xs
  · obtain ⟨xs, rfl⟩ := t
    have pxs : plains xs = true := pl
    have is := isi_tup xs
    have ln : dLen (.tup xs) = some (.int (xs.length : Nat)) := rfl
    by_cases l2 : xs.length = 2
    · obtain ⟨x, y, rfl⟩ : ∃ x y, xs = [x, y] := by
        match xs, l2 with
        | [x, y], _ => exact ⟨x, y, rfl⟩
      have dx := h.i _ rfl x (by simp)
      have dy := h.i _ rfl y (by simp)
      have b1 := v_between x 0 ((n : Int) - 1) dx
      have b2 := v_between y 0 ((n : Int) - 1) dy
      have px := dat_plain dx
      have py := dat_plain dy
      have fx := dat_frz dx
      have fy := dat_frz dy
      have lc : mLcLoop [2] (mgName 2) (mYes) (mCall F_is_between (mCons (mVar 2) (mCons (mC (.int 0)) (mCons (mOp2 dSub (mVar 1) (mC (.int 1))) (mNil))))) [x, y] [] [some (.tup [x, y]), some (.int (n : Int)), none] = .ok (.own [.bl (btw x 0 ((n : Int) - 1)), .bl (btw y 0 ((n : Int) - 1))], [some (.tup [x, y]), some (.int (n : Int)), none]) := by
        simp -implicitDefEqProofs only [Mi.EVA, Mi.EVB, D.frz, frzs, D.plain, plains, List.length_cons, List.length_nil, List.length_set, Nat.reduceAdd, Nat.reduceLT, Nat.reduceLeDiff, sizeLine_eq, if_true, if_false, List.cons_append, List.nil_append, Option.map_some, Option.bind_some, Int.reduceToNat, Int.reducePow, Int.reduceNeg, Int.reduceEq, Int.reduceLT, Int.reduceLE, Int.reduceAdd, Int.reduceSub, Int.reduceMul, eq_self, Mi.dat, b1, b2, px, py, fx, fy, mLcLoop]
      have da : dAll (.own [.bl (btw x 0 ((n : Int) - 1)), .bl (btw y 0 ((n : Int) - 1))]) = some (.bl (btw x 0 ((n : Int) - 1) && btw y 0 ((n : Int) - 1))) := by
        show some (D.bl (_ && (_ && true))) = _
        rw [Bool.and_true]; rfl
      generalize D.own [D.bl (btw x 0 ((n : Int) - 1)), D.bl (btw y 0 ((n : Int) - 1))] = BB at lc da
      have n2 := two_two
      cases c : (btw x 0 ((n : Int) - 1) && btw y 0 ((n : Int) - 1)) with
      | true =>
        rw [c] at da
        rw [Bool.and_eq_true] at c
        obtain ⟨i, rfl, i0, i1⟩ := (btw_iff n).mp c.1
        obtain ⟨j, rfl, j0, j1⟩ := (btw_iff n).mp c.2
        have e : pr n (.tup [.int i, .int j]) = decide (i < j) := by
          show decide (0 ≤ i ∧ i < j ∧ j < n) = _
          refine decide_eq_decide.mpr ⟨fun h => h.2.1, fun h => ⟨i0, h, j1⟩⟩
        have a0 : atI [D.int i, D.int j] 0 = some (.int i) := rfl
        have a1 : atI [D.int i, D.int j] 1 = some (.int j) := rfl
        rw [e]
        unfold F_is_pair m_is_pair
        simp -implicitDefEqProofs only [Mi.EVA, Mi.EVB, D.frz, frzs, D.plain, plains, List.length_cons, List.length_nil, List.length_set, Nat.reduceAdd, Nat.reduceLT, Nat.reduceLeDiff, sizeLine_eq, if_true, if_false, List.cons_append, List.nil_append, Option.map_some, Option.bind_some, Int.reduceToNat, Int.reducePow, Int.reduceNeg, Int.reduceEq, Int.reduceLT, Int.reduceLE, Int.reduceAdd, Int.reduceSub, Int.reduceMul, eq_self, Mi.dat, pl, fz, is, ln, n2, pxs, lc, da, a0, a1]
      | false =>
        rw [c] at da
        have e : pr n (.tup [x, y]) = false := by
          cases q : pr n (.tup [x, y]) with
          | false => rfl
          | true =>
            exfalso
            have : ∃ a b, x = .int a ∧ y = .int b ∧ 0 ≤ a ∧ a < b ∧ b < n := by
              cases x <;> first | cases q | (cases y <;> first | cases q | exact ⟨_, _, rfl, rfl, of_decide_eq_true q⟩)
            obtain ⟨a, b, rfl, rfl, h1, h2, h3⟩ := this
            have := (btw_iff (d := .int a) n).mpr ⟨a, rfl, h1, by omega⟩
            have := (btw_iff (d := .int b) n).mpr ⟨b, rfl, by omega, h3⟩
            simp_all
        rw [e]
        unfold F_is_pair m_is_pair
        simp -implicitDefEqProofs only [Mi.EVA, Mi.EVB, D.frz, frzs, D.plain, plains, List.length_cons, List.length_nil, List.length_set, Nat.reduceAdd, Nat.reduceLT, Nat.reduceLeDiff, sizeLine_eq, if_true, if_false, List.cons_append, List.nil_append, Option.map_some, Option.bind_some, Int.reduceToNat, Int.reducePow, Int.reduceNeg, Int.reduceEq, Int.reduceLT, Int.reduceLE, Int.reduceAdd, Int.reduceSub, Int.reduceMul, eq_self, Mi.dat, pl, fz, is, ln, n2, pxs, px, py, fx, fy, lc, da]
    · have e : pr n (.tup xs) = false := pr_no n fun a b z => by cases z; exact l2 rfl
      have n2 := ne_two l2
      rw [e]
      unfold F_is_pair m_is_pair
      simp -implicitDefEqProofs only [Mi.EVA, Mi.EVB, D.frz, frzs, D.plain, plains, List.length_cons, List.length_nil, List.length_set, Nat.reduceAdd, Nat.reduceLT, Nat.reduceLeDiff, sizeLine_eq, if_true, if_false, List.cons_append, List.nil_append, Option.map_some, Option.bind_some, Int.reduceToNat, Int.reducePow, Int.reduceNeg, Int.reduceEq, Int.reduceLT, Int.reduceLE, Int.reduceAdd, Int.reduceSub, Int.reduceMul, eq_self, Mi.dat, pl, fz, is, ln, n2, pxs]
  · have is := not_tup h.da fun xs e => t ⟨xs, e⟩
    have e : pr n d = false := pr_no n fun a b z => t ⟨_, z⟩
    rw [e]
    unfold F_is_pair m_is_pair
    simp -implicitDefEqProofs only [Mi.EVA, Mi.EVB, D.frz, frzs, D.plain, plains, List.length_cons, List.length_nil, List.length_set, Nat.reduceAdd, Nat.reduceLT, Nat.reduceLeDiff, sizeLine_eq, if_true, if_false, List.cons_append, List.nil_append, Option.map_some, Option.bind_some, Int.reduceToNat, Int.reducePow, Int.reduceNeg, Int.reduceEq, Int.reduceLT, Int.reduceLE, Int.reduceAdd, Int.reduceSub, Int.reduceMul, eq_self, Mi.dat, pl, fz, is]
end
end Lw

namespace Lw
open PySem PySem.Spec PyProof.Rows L2 Mi
variable [TabsC]
theorem of_lex : ∀ {a b : List Int}, HT.lexLt a b = true → lexZ a b = true ∧ a ≠ b
  | [], [], h => nomatch h
  | [], _ :: _, _ => ⟨rfl, fun z => nomatch z⟩
  | _ :: _, [], h => nomatch h
  | x :: xs, y :: ys, h => by
    rw [HT.lexLt_cons] at h
    show (decide (x < y) || (decide (x = y) && lexZ xs ys)) = true ∧ _
    by_cases c : x = y
    · subst c
      rw [if_pos rfl] at h
      obtain ⟨h1, h2⟩ := of_lex h
      exact ⟨by simp [h1], fun z => h2 (List.cons.inj z).2⟩
    · rw [if_neg c] at h
      have := of_decide_eq_true h
      exact ⟨by simp [this], fun z => c (List.cons.inj z).1⟩
theorem lex_iff {a b : List Int} : HT.lexLt a b = true ↔ ltT a b := ⟨of_lex, fun h => lex_of h.1 h.2⟩
theorem ltT_trans {a b c : List Int} (h : ltT a b) (g : ltT b c) : ltT a c := ⟨lexZ_trans a b c h.1 g.1, fun e => by
  subst e
  exact h.2 (lexZ_anti a b h.1 g.1)⟩
def risT (zs : List (List Int)) : Bool := (zs.dropLast.zip zs.tail).all fun p => HT.lexLt p.1 p.2
theorem ris_cons (a b : List Int) (l : List (List Int)) : risT (a :: b :: l) = (HT.lexLt a b && risT (b :: l)) := rfl
theorem ris_pw : ∀ zs : List (List Int), risT zs = true ↔ zs.Pairwise ltT
  | [] => ⟨fun _ => List.Pairwise.nil, fun _ => rfl⟩
  | [a] => ⟨fun _ => List.pairwise_singleton _ _, fun _ => rfl⟩
  | a :: b :: l => by
    rw [ris_cons, Bool.and_eq_true, ris_pw (b :: l), lex_iff]
    refine Iff.trans ?_ List.pairwise_cons.symm
    constructor
    · rintro ⟨h, p⟩
      refine ⟨fun c hc => ?_, p⟩
      rcases List.mem_cons.mp hc with rfl | hc
      · exact h
      · exact ltT_trans h ((List.pairwise_cons.mp p).1 c hc)
    · rintro ⟨h, p⟩
      exact ⟨h b List.mem_cons_self, p⟩
theorem nub_self : ∀ {zs : List (List Int)}, zs.Nodup → nubT zs = zs
  | [], _ => rfl
  | z :: zs, h => by
    obtain ⟨a, b⟩ := List.nodup_cons.mp h
    unfold nubT
    rw [nub_self b, if_neg a]
theorem ris_eq (zs : List (List Int)) : risT zs = decide (zs = sortT (nubT zs)) := by
  cases q : risT zs with
  | true =>
    have p := (ris_pw zs).mp q
    have nd := ltT_nodup p
    rw [nub_self nd]
    exact (decide_eq_true (sortT_uniq (List.Perm.refl _) (ltT_srt p))).symm
  | false =>
    refine (decide_eq_false fun e => ?_).symm
    have nd : zs.Nodup := by rw [e]; exact (sortT_perm _).nodup_iff.mpr (nodup_nubT zs)
    have sr : zs.Pairwise (fun a b => lexZ a b = true) := by rw [e]; exact sortT_srt _
    have p : zs.Pairwise ltT := sr.and nd
    rw [(ris_pw zs).mpr p] at q
    cases q
theorem dLt_TT (a b : List Int) : dLt (tupZ a) (tupZ b) = some (.bl (HT.lexLt a b)) := by
  show (dLtI (tupZ a) (tupZ b)).or (dLtT (tupZ a) (tupZ b)) = _
  have e : dLtT (tupZ a) (tupZ b) = some (.bl (HT.lexLt a b)) := by
    show (intsD (a.map D.int)).bind (fun ns => (intsD (b.map D.int)).map fun ms => D.bl (HT.lexLt ns ms)) = _
    rw [intsD_ints, intsD_ints, Option.bind_some, Option.map_some]
  rw [e]
  rfl
theorem zipD_T : ∀ as bs : List (List Int), zipD (as.map tupZ) (bs.map tupZ) = (as.zip bs).map fun p => D.tup [tupZ p.1, tupZ p.2]
  | [], _ => rfl
  | _ :: _, [] => rfl
  | a :: as, b :: bs => by
    show D.tup [(tupZ a).frz, (tupZ b).frz] :: zipD (as.map tupZ) (bs.map tupZ) = _
    rw [zipD_T as bs, frz_T, frz_T]
    rfl
theorem v_rising (zs : List (List Int)) (hl : zs.length ≤ 300) : F_are_rising [.tup (zs.map tupZ)] = .ok (.bl (risT zs)) := by
  have pl := plains_tups zs
  have pl1 := plains_tups zs.dropLast
  have pl2 := plains_tups zs.tail
  have c1 : dSl (.tup (zs.map tupZ)) none (some (-1)) = some (.tup (zs.dropLast.map tupZ)) := by
    show some (D.tup (cutL (zs.map tupZ) none (some (-1)))) = _
    rw [cut_front, List.map_dropLast]
  have c2 : dSl (.tup (zs.map tupZ)) (some 1) none = some (.tup (zs.tail.map tupZ)) := by
    show some (D.tup (cutL (zs.map tupZ) (some 1) none)) = _
    rw [cut_tail, List.map_tail]
  have hz := zipD_T zs.dropLast zs.tail
  have lc : ∀ X : D, mLcLoop [1, 2] (mgTup 2 (mgCons (mgName 1) (mgCons (mgName 2) (mgNil)))) (mYes) (mOp2 dLt (mVar 1) (mVar 2)) ((zs.dropLast.zip zs.tail).map fun p => D.tup [tupZ p.1, tupZ p.2]) [] [some X, none, none] = .ok (.own (((zs.dropLast.zip zs.tail).map fun p => HT.lexLt p.1 p.2).map D.bl), [some X, none, none]) := fun X => by
    obtain ⟨e', h1, rfl⟩ := lc_fil (vs := [1, 2]) (g := mgTup 2 (mgCons (mgName 1) (mgCons (mgName 2) (mgNil)))) (tt := mYes) (te := mOp2 dLt (mVar 1) (mVar 2))
      (fun e => e = [some X, none, none]) (fun _ => true) (fun p : List Int × List Int => HT.lexLt p.1 p.2) (fun p => D.tup [tupZ p.1, tupZ p.2]) D.bl (zs.dropLast.zip zs.tail) [] _ (fun p hp _ he => by
      subst he
      have pa := plain_T p.1
      have pb := plain_T p.2
      have dl := dLt_TT p.1 p.2
      refine ⟨[some X, some (tupZ p.1), some (tupZ p.2)], [some X, some (tupZ p.1), some (tupZ p.2)], rfl, rfl, fun _ => ⟨[some X, some (tupZ p.1), some (tupZ p.2)], ?_, rfl⟩, fun z => nomatch z⟩
      generalize tupZ p.1 = A at *
      generalize tupZ p.2 = B at *
      simp -implicitDefEqProofs only [Mi.EVA, Mi.EVB, D.frz, frzs, D.plain, plains, List.length_cons, List.length_nil, List.length_set, Nat.reduceAdd, Nat.reduceLT, Nat.reduceLeDiff, sizeLine_eq, if_true, if_false, List.cons_append, List.nil_append, Option.map_some, Option.bind_some, Int.reduceToNat, Int.reducePow, Int.reduceNeg, Int.reduceEq, Int.reduceLT, Int.reduceLE, Int.reduceAdd, Int.reduceSub, Int.reduceMul, eq_self, Mi.dat, pa, pb, dl]) (by rw [List.length_nil, List.length_zip, List.length_dropLast, sizeLine_eq]; omega) rfl
    rw [List.nil_append, List.filter_eq_self.mpr fun _ _ => rfl] at h1
    exact h1
  have da : dAll (.own (((zs.dropLast.zip zs.tail).map fun p => HT.lexLt p.1 p.2).map D.bl)) = some (.bl (risT zs)) := by
    rw [dAll_own]
    unfold risT
    rw [List.all_map]
    rfl
  unfold F_are_rising m_are_rising
  generalize ((zs.dropLast.zip zs.tail).map fun p => HT.lexLt p.1 p.2).map D.bl = BB at *
  generalize (zs.dropLast.zip zs.tail).map (fun p => D.tup [tupZ p.1, tupZ p.2]) = Z at *
  generalize zs.map tupZ = X at *
  simp -implicitDefEqProofs only [Mi.EVA, Mi.EVB, D.frz, frzs, D.plain, plains, List.length_cons, List.length_nil, List.length_set, Nat.reduceAdd, Nat.reduceLT, Nat.reduceLeDiff, sizeLine_eq, if_true, if_false, List.cons_append, List.nil_append, Option.map_some, Option.bind_some, Int.reduceToNat, Int.reducePow, Int.reduceNeg, Int.reduceEq, Int.reduceLT, Int.reduceLE, Int.reduceAdd, Int.reduceSub, Int.reduceMul, eq_self, Mi.dat, pl, pl1, pl2, c1, c2, hz, lc, da]
theorem eq_oo (zs ws : List (List Int)) : dEq (.own (zs.map tupZ)) (.own (ws.map tupZ)) = some (.bl (decide (zs = ws))) := by
  unfold dEq pyEq
  rw [toPy_To, toPy_To]
  show ((if (SeqAt.shaped (.list (zs.map pyT)) && SeqAt.shaped (.list (ws.map pyT))) = true then some (PyData.eqv (.list (zs.map pyT)) (.list (ws.map pyT))) else none).map D.bl) = _
  rw [shp_Tl, shp_Tl]
  show some (D.bl (PyData.eqv (.list (zs.map pyT)) (.list (ws.map pyT)))) = _
  unfold PyData.eqv
  rw [eqv_Ts]
end Lw

namespace Lw
open PySem PySem.Spec PyProof.Rows L2 Mi
variable [TabsC]
theorem whole_ (x : D) (h : dat x = true) : F_w_whole [x] = .ok (.bl (isW x)) := v_is_whole x h
section
variable {n : Nat} {d T : D} (h : It d) (hT : T.plain = true)
include h hT
theorem law_pair : l_w_is_web_0 [some (.tup [.int (n : Int), T]), some d, none] = if pr n d = true then .nx [some (.tup [.int (n : Int), T]), some d, none] else .rt (.bl false) [some (.tup [.int (n : Int), T]), some d, none] := by
  have pl := dat_plain h.da
  have fz := dat_frz h.da
  have Tp : plains [D.int (n : Int), T] = true := by
    show (true && (T.plain && true)) = true
    rw [hT]; rfl
  by_cases t : ∃ xs, d = .tup xs
  · obtain ⟨xs, rfl⟩ := t
    have pxs : plains xs = true := pl
    have is := isi_tup xs
    have ln : dLen (.tup xs) = some (.int (xs.length : Nat)) := rfl
    by_cases l2 : xs.length = 2
    · obtain ⟨x, y, rfl⟩ : ∃ x y, xs = [x, y] := by
        match xs, l2 with
        | [x, y], _ => exact ⟨x, y, rfl⟩
      have dx := h.i _ rfl x (by simp)
      have dy := h.i _ rfl y (by simp)
      have b1 := whole_ x dx
      have b2 := whole_ y dy
      have px := dat_plain dx
      have py := dat_plain dy
      have fx := dat_frz dx
      have fy := dat_frz dy
      have lc : mLcLoop [2] (mgName 2) (mYes) (mCall F_w_whole (mCons (mVar 2) (mNil))) [x, y] [] [some (.tup [.int (n : Int), T]), some (.tup [x, y]), none] = .ok (.own [.bl (isW x), .bl (isW y)], [some (.tup [.int (n : Int), T]), some (.tup [x, y]), none]) := by
        simp -implicitDefEqProofs only [Mi.EVA, Mi.EVB, D.frz, frzs, D.plain, plains, List.length_cons, List.length_nil, List.length_set, Nat.reduceAdd, Nat.reduceLT, Nat.reduceLeDiff, sizeLine_eq, if_true, if_false, List.cons_append, List.nil_append, Option.map_some, Option.bind_some, Int.reduceToNat, Int.reducePow, Int.reduceNeg, Int.reduceEq, Int.reduceLT, Int.reduceLE, Int.reduceAdd, Int.reduceSub, Int.reduceMul, eq_self, Mi.dat, b1, b2, px, py, fx, fy, mLcLoop]
      have da : dAll (.own [.bl (isW x), .bl (isW y)]) = some (.bl (isW x && isW y)) := by
        show some (D.bl (_ && (_ && true))) = _
        rw [Bool.and_true]; rfl
      generalize D.own [D.bl (isW x), D.bl (isW y)] = BB at lc da
      have n2 := two_two
      cases c : (isW x && isW y) with
      | true =>
        rw [c] at da
        rw [Bool.and_eq_true] at c
        obtain ⟨i, rfl⟩ := isW_int c.1
        obtain ⟨j, rfl⟩ := isW_int c.2
        have a0 : atI [D.int i, D.int j] 0 = some (.int i) := rfl
        have a1 : atI [D.int i, D.int j] 1 = some (.int j) := rfl
        have a2 : atI [D.int (n : Int), T] 0 = some (.int n) := rfl
        have e : pr n (.tup [.int i, .int j]) = decide (0 ≤ i ∧ i < j ∧ j < n) := rfl
        rw [e]
        by_cases g1 : (0 : Int) ≤ i
        · have g1' : ((0 : Int) ≤ i) = True := eq_true g1
          by_cases g2 : i < j
          · have g2' : (i < j) = True := eq_true g2
            by_cases g3 : j < n
            · have g3' : (j < (n : Int)) = True := eq_true g3
              rw [decide_eq_true (show 0 ≤ i ∧ i < j ∧ j < n from ⟨g1, g2, g3⟩), if_pos rfl]
              unfold l_w_is_web_0
              simp -implicitDefEqProofs only [Mi.EVA, Mi.EVB, D.frz, frzs, D.plain, plains, List.length_cons, List.length_nil, List.length_set, Nat.reduceAdd, Nat.reduceLT, Nat.reduceLeDiff, sizeLine_eq, if_true, if_false, List.cons_append, List.nil_append, Option.map_some, Option.bind_some, Int.reduceToNat, Int.reducePow, Int.reduceNeg, Int.reduceEq, Int.reduceLT, Int.reduceLE, Int.reduceAdd, Int.reduceSub, Int.reduceMul, eq_self, Mi.dat, pl, fz, is, ln, n2, pxs, lc, da, a0, a1, a2, Tp, hT, g1', g2', g3']
            · have g3' : (j < (n : Int)) = False := eq_false g3
              rw [decide_eq_false (show ¬ (0 ≤ i ∧ i < j ∧ j < n) from fun z => g3 z.2.2), if_neg Bool.false_ne_true]
              unfold l_w_is_web_0
              simp -implicitDefEqProofs only [Mi.EVA, Mi.EVB, D.frz, frzs, D.plain, plains, List.length_cons, List.length_nil, List.length_set, Nat.reduceAdd, Nat.reduceLT, Nat.reduceLeDiff, sizeLine_eq, if_true, if_false, List.cons_append, List.nil_append, Option.map_some, Option.bind_some, Int.reduceToNat, Int.reducePow, Int.reduceNeg, Int.reduceEq, Int.reduceLT, Int.reduceLE, Int.reduceAdd, Int.reduceSub, Int.reduceMul, eq_self, Mi.dat, pl, fz, is, ln, n2, pxs, lc, da, a0, a1, a2, Tp, hT, g1', g2', g3']
          · have g2' : (i < j) = False := eq_false g2
            rw [decide_eq_false (show ¬ (0 ≤ i ∧ i < j ∧ j < n) from fun z => g2 z.2.1), if_neg Bool.false_ne_true]
            unfold l_w_is_web_0
            simp -implicitDefEqProofs only [Mi.EVA, Mi.EVB, D.frz, frzs, D.plain, plains, List.length_cons, List.length_nil, List.length_set, Nat.reduceAdd, Nat.reduceLT, Nat.reduceLeDiff, sizeLine_eq, if_true, if_false, List.cons_append, List.nil_append, Option.map_some, Option.bind_some, Int.reduceToNat, Int.reducePow, Int.reduceNeg, Int.reduceEq, Int.reduceLT, Int.reduceLE, Int.reduceAdd, Int.reduceSub, Int.reduceMul, eq_self, Mi.dat, pl, fz, is, ln, n2, pxs, lc, da, a0, a1, a2, Tp, hT, g1', g2']
        · have g1' : ((0 : Int) ≤ i) = False := eq_false g1
          rw [decide_eq_false (show ¬ (0 ≤ i ∧ i < j ∧ j < n) from fun z => g1 z.1), if_neg Bool.false_ne_true]
          unfold l_w_is_web_0
          simp -implicitDefEqProofs only [Mi.EVA, Mi.EVB, D.frz, frzs, D.plain, plains, List.length_cons, List.length_nil, List.length_set, Nat.reduceAdd, Nat.reduceLT, Nat.reduceLeDiff, sizeLine_eq, if_true, if_false, List.cons_append, List.nil_append, Option.map_some, Option.bind_some, Int.reduceToNat, Int.reducePow, Int.reduceNeg, Int.reduceEq, Int.reduceLT, Int.reduceLE, Int.reduceAdd, Int.reduceSub, Int.reduceMul, eq_self, Mi.dat, pl, fz, is, ln, n2, pxs, lc, da, a0, a1, a2, Tp, hT, g1']
      | false =>
        rw [c] at da
        have e : pr n (.tup [x, y]) = false := by
          cases q : pr n (.tup [x, y]) with
          | false => rfl
          | true =>
            exfalso
            have : isW x = true ∧ isW y = true := by
              cases x <;> first | cases q | (cases y <;> first | cases q | exact ⟨rfl, rfl⟩)
            rw [this.1, this.2] at c
            cases c
        rw [e, if_neg Bool.false_ne_true]
        unfold l_w_is_web_0
        simp -implicitDefEqProofs only [Mi.EVA, Mi.EVB, D.frz, frzs, D.plain, plains, List.length_cons, List.length_nil, List.length_set, Nat.reduceAdd, Nat.reduceLT, Nat.reduceLeDiff, sizeLine_eq, if_true, if_false, List.cons_append, List.nil_append, Option.map_some, Option.bind_some, Int.reduceToNat, Int.reducePow, Int.reduceNeg, Int.reduceEq, Int.reduceLT, Int.reduceLE, Int.reduceAdd, Int.reduceSub, Int.reduceMul, eq_self, Mi.dat, pl, fz, is, ln, n2, pxs, px, py, fx, fy, lc, da]
    · have e : pr n (.tup xs) = false := pr_no n fun a b z => by cases z; exact l2 rfl
      have n2 := ne_two l2
      rw [e, if_neg Bool.false_ne_true]
      unfold l_w_is_web_0
      simp -implicitDefEqProofs only [Mi.EVA, Mi.EVB, D.frz, frzs, D.plain, plains, List.length_cons, List.length_nil, List.length_set, Nat.reduceAdd, Nat.reduceLT, Nat.reduceLeDiff, sizeLine_eq, if_true, if_false, List.cons_append, List.nil_append, Option.map_some, Option.bind_some, Int.reduceToNat, Int.reducePow, Int.reduceNeg, Int.reduceEq, Int.reduceLT, Int.reduceLE, Int.reduceAdd, Int.reduceSub, Int.reduceMul, eq_self, Mi.dat, pl, fz, is, ln, n2, pxs]
  · have is := not_tup h.da fun xs e => t ⟨xs, e⟩
    have e : pr n d = false := pr_no n fun a b z => t ⟨_, z⟩
    rw [e, if_neg Bool.false_ne_true]
    unfold l_w_is_web_0
    simp -implicitDefEqProofs only [Mi.EVA, Mi.EVB, D.frz, frzs, D.plain, plains, List.length_cons, List.length_nil, List.length_set, Nat.reduceAdd, Nat.reduceLT, Nat.reduceLeDiff, sizeLine_eq, if_true, if_false, List.cons_append, List.nil_append, Option.map_some, Option.bind_some, Int.reduceToNat, Int.reducePow, Int.reduceNeg, Int.reduceEq, Int.reduceLT, Int.reduceLE, Int.reduceAdd, Int.reduceSub, Int.reduceMul, eq_self, Mi.dat, pl, fz, is]
end
theorem law_items {n : Nat} {T : D} (hT : T.plain = true) : ∀ (items : List D), (∀ x ∈ items, It x) → ∀ o1 : Option D, ∃ o1' : Option D, mLoop (mgName 1) l_w_is_web_0 items [some (.tup [.int (n : Int), T]), o1, none] =
    if items.all (pr n) = true then .nx [some (.tup [.int (n : Int), T]), o1', none] else .rt (.bl false) [some (.tup [.int (n : Int), T]), o1', none]
  | [], _, o1 => ⟨o1, rfl⟩
  | x :: xs, h, o1 => by
    have hx := h x List.mem_cons_self
    have hp := law_pair (n := n) (T := T) hx hT
    have hg : mgName 1 x [some (.tup [.int (n : Int), T]), o1, none] = some [some (.tup [.int (n : Int), T]), some x, none] := rfl
    cases c : pr n x with
    | true =>
      rw [c, if_pos rfl] at hp
      obtain ⟨o1', hr⟩ := law_items hT xs (fun y hy => h y (List.mem_cons_of_mem _ hy)) (some x)
      refine ⟨o1', ?_⟩
      rw [Mi.mLoop_cons, hg, Mi.kl1_some, hp, Mi.kl2_nx, hr, List.all_cons, c, Bool.true_and]
    | false =>
      rw [c, if_neg Bool.false_ne_true] at hp
      refine ⟨some x, ?_⟩
      rw [Mi.mLoop_cons, hg, Mi.kl1_some, hp, List.all_cons, c, Bool.false_and, if_neg Bool.false_ne_true]
      rfl
end Lw

namespace Lw
open PySem PySem.Spec PyProof.Rows L2 Mi
variable [TabsC]
structure Th (d : D) : Prop where
  da : dat d = true
  i : ∀ xs, d = .tup xs → ∀ x ∈ xs, dat x = true ∧ ∀ ys, x = .tup ys → ys.length ≤ 300 ∧ ∀ y ∈ ys, It y
theorem pr_pairs {n : Nat} : ∀ {items : List D}, items.all (pr n) = true → ∃ zs : List (List Int), items = zs.map tupZ ∧ ∀ z ∈ zs, z ≠ []
  | [], _ => ⟨[], rfl, fun _ z => nomatch z⟩
  | x :: xs, h => by
    rw [List.all_cons, Bool.and_eq_true] at h
    obtain ⟨zs, rfl, hz⟩ := pr_pairs h.2
    have : ∃ a b, x = .tup [.int a, .int b] := by
      have h1 := h.1
      unfold pr at h1
      split at h1
      · exact ⟨_, _, rfl⟩
      · cases h1
    obtain ⟨a, b, rfl⟩ := this
    exact ⟨[a, b] :: zs, rfl, fun z hz' => (List.mem_cons.mp hz').elim (fun e => by rw [e]; simp) (hz z)⟩
theorem btw_16 {d : D} : btw d 1 16 = true ↔ ∃ n : Nat, d = .int (n : Int) ∧ 1 ≤ n ∧ n ≤ 16 := by
  cases d with
  | int i =>
    show (decide ((1 : Int) ≤ i) && decide (i ≤ 16)) = true ↔ _
    rw [Bool.and_eq_true, decide_eq_true_eq, decide_eq_true_eq]
    constructor
    · intro h; exact ⟨i.toNat, by congr 1; omega, by omega, by omega⟩
    · rintro ⟨j, e, h⟩; cases e; omega
  | _ => constructor <;> intro h <;> first | (obtain ⟨_, e, _⟩ := h; cases e) | cases h
theorem both_web {d : D} (h : Th d) : ∃ b : Bool, F_is_web [d] = .ok (.bl b) ∧ F_w_is_web [d] = .ok (.bl b) := by
  have pl := dat_plain h.da
  have fz := dat_frz h.da
  by_cases t : ∃ xs, d = .tup xs
  · obtain ⟨xs, rfl⟩ := t
    have pxs : plains xs = true := pl
    have is := isi_tup xs
    have ln : dLen (.tup xs) = some (.int (xs.length : Nat)) := rfl
    by_cases l2 : xs.length = 2
    · obtain ⟨x, y, rfl⟩ : ∃ x y, xs = [x, y] := by
        match xs, l2 with
        | [x, y], _ => exact ⟨x, y, rfl⟩
      have n2 := two_two
      have dx := (h.i _ rfl x (by simp)).1
      have dy := (h.i _ rfl y (by simp)).1
      have iy := (h.i _ rfl y (by simp)).2
      have px := dat_plain dx
      have py := dat_plain dy
      have fx := dat_frz dx
      have fy := dat_frz dy
      have a0 : atI [x, y] 0 = some x := rfl
      have a1 : atI [x, y] 1 = some y := rfl
      have vb := v_between x 1 16 dx
      have vw := whole_ x dx
      cases c : btw x 1 16 with
      | false =>
        rw [c] at vb
        refine ⟨false, ?_, ?_⟩
        · unfold F_is_web m_is_web
          simp -implicitDefEqProofs only [Mi.EVA, Mi.EVB, D.frz, frzs, D.plain, plains, List.length_cons, List.length_nil, List.length_set, Nat.reduceAdd, Nat.reduceLT, Nat.reduceLeDiff, sizeLine_eq, if_true, if_false, List.cons_append, List.nil_append, Option.map_some, Option.bind_some, Int.reduceToNat, Int.reducePow, Int.reduceNeg, Int.reduceEq, Int.reduceLT, Int.reduceLE, Int.reduceAdd, Int.reduceSub, Int.reduceMul, eq_self, Mi.dat, pl, fz, is, ln, n2, pxs, px, py, a0, px, fx, vb]
        · cases w : isW x with
          | false =>
            rw [w] at vw
            unfold F_w_is_web m_w_is_web
            simp -implicitDefEqProofs only [Mi.EVA, Mi.EVB, D.frz, frzs, D.plain, plains, List.length_cons, List.length_nil, List.length_set, Nat.reduceAdd, Nat.reduceLT, Nat.reduceLeDiff, sizeLine_eq, if_true, if_false, List.cons_append, List.nil_append, Option.map_some, Option.bind_some, Int.reduceToNat, Int.reducePow, Int.reduceNeg, Int.reduceEq, Int.reduceLT, Int.reduceLE, Int.reduceAdd, Int.reduceSub, Int.reduceMul, eq_self, Mi.dat, pl, fz, is, ln, n2, pxs, px, py, a0, px, fx, vw]
          | true =>
            rw [w] at vw
            obtain ⟨i, rfl⟩ := isW_int w
            have c : (decide ((1 : Int) ≤ i) && decide (i ≤ 16)) = false := c
            unfold F_w_is_web m_w_is_web
            by_cases g1 : (1 : Int) ≤ i
            · have g2 : ¬ i ≤ 16 := fun z => by simp [g1, z] at c
              have g1' : ((1 : Int) ≤ i) = True := eq_true g1
              have g2' : (i ≤ (16 : Int)) = False := eq_false g2
              simp -implicitDefEqProofs only [Mi.EVA, Mi.EVB, D.frz, frzs, D.plain, plains, List.length_cons, List.length_nil, List.length_set, Nat.reduceAdd, Nat.reduceLT, Nat.reduceLeDiff, sizeLine_eq, if_true, if_false, List.cons_append, List.nil_append, Option.map_some, Option.bind_some, Int.reduceToNat, Int.reducePow, Int.reduceNeg, Int.reduceEq, Int.reduceLT, Int.reduceLE, Int.reduceAdd, Int.reduceSub, Int.reduceMul, eq_self, Mi.dat, pl, fz, is, ln, n2, pxs, px, py, a0, px, fx, vw, g1', g2']
            · have g1' : ((1 : Int) ≤ i) = False := eq_false g1
              simp -implicitDefEqProofs only [Mi.EVA, Mi.EVB, D.frz, frzs, D.plain, plains, List.length_cons, List.length_nil, List.length_set, Nat.reduceAdd, Nat.reduceLT, Nat.reduceLeDiff, sizeLine_eq, if_true, if_false, List.cons_append, List.nil_append, Option.map_some, Option.bind_some, Int.reduceToNat, Int.reducePow, Int.reduceNeg, Int.reduceEq, Int.reduceLT, Int.reduceLE, Int.reduceAdd, Int.reduceSub, Int.reduceMul, eq_self, Mi.dat, pl, fz, is, ln, n2, pxs, px, py, a0, px, fx, vw, g1']
      | true =>
        rw [c] at vb
        obtain ⟨n, rfl, n1, n16⟩ := btw_16.mp c
        have g1' : ((1 : Int) ≤ (n : Int)) = True := eq_true (by omega)
        have g2' : ((n : Int) ≤ (16 : Int)) = True := eq_true (by omega)
        have vw : F_w_whole [.int (n : Int)] = .ok (.bl true) := vw
        by_cases ty : ∃ ys, y = .tup ys
        · obtain ⟨items, rfl⟩ := ty
          obtain ⟨il, ii⟩ := iy items rfl
          have pi : plains items = true := py
          have fi : frzs items = items := D.tup.inj fy
          have isy := isi_tup items
          have lc : mLcLoop [1] (mgName 1) (mYes) (mCall F_is_pair (mCons (mVar 1) (mCons (mSlotIx 0 (mC (.int 0))) (mNil)))) items [] [some (.tup [.int (n : Int), .tup items]), none] = .ok (.own ((items.map (pr n)).map D.bl), [some (.tup [.int (n : Int), .tup items]), none]) := by
            rw [lc_map (vs := [1]) [some (.tup [.int (n : Int), .tup items]), none] (fun d => .bl (pr n d)) items (fun d hd => ?_) (by rw [sizeLine_eq]; omega), List.map_map]
            · rfl
            · have hi := ii d hd
              have vp := v_pr (n := n) hi
              have dp := dat_plain hi.da
              have df := dat_frz hi.da
              refine ⟨[some (.tup [.int (n : Int), .tup items]), some d], [some (.tup [.int (n : Int), .tup items]), some d], rfl, ?_, rfl⟩
              simp -implicitDefEqProofs only [Mi.EVA, Mi.EVB, D.frz, frzs, D.plain, plains, List.length_cons, List.length_nil, List.length_set, Nat.reduceAdd, Nat.reduceLT, Nat.reduceLeDiff, sizeLine_eq, if_true, if_false, List.cons_append, List.nil_append, Option.map_some, Option.bind_some, Int.reduceToNat, Int.reducePow, Int.reduceNeg, Int.reduceEq, Int.reduceLT, Int.reduceLE, Int.reduceAdd, Int.reduceSub, Int.reduceMul, eq_self, Mi.dat, dp, df, a0, pxs, pi, vp]
          have da : dAll (.own ((items.map (pr n)).map D.bl)) = some (.bl (items.all (pr n))) := by
            rw [dAll_own, List.all_map]; rfl
          obtain ⟨o1', lp⟩ := law_items (n := n) (T := .tup items) py items ii none
          cases q : items.all (pr n) with
          | false =>
            rw [q] at da
            rw [q, if_neg Bool.false_ne_true] at lp
            refine ⟨false, ?_, ?_⟩
            · unfold F_is_web m_is_web
              generalize (items.map (pr n)).map D.bl = BB at *
              simp -implicitDefEqProofs only [Mi.EVA, Mi.EVB, D.frz, frzs, D.plain, plains, List.length_cons, List.length_nil, List.length_set, Nat.reduceAdd, Nat.reduceLT, Nat.reduceLeDiff, sizeLine_eq, if_true, if_false, List.cons_append, List.nil_append, Option.map_some, Option.bind_some, Int.reduceToNat, Int.reducePow, Int.reduceNeg, Int.reduceEq, Int.reduceLT, Int.reduceLE, Int.reduceAdd, Int.reduceSub, Int.reduceMul, eq_self, Mi.dat, pl, fz, is, ln, n2, pxs, px, py, a0, a1, px, fx, py, fy, vb, isy, pi, fi, lc, da]
            · unfold l_w_is_web_0 at lp
              unfold F_w_is_web m_w_is_web
              simp -implicitDefEqProofs only [Mi.EVA, Mi.EVB, D.frz, frzs, D.plain, plains, List.length_cons, List.length_nil, List.length_set, Nat.reduceAdd, Nat.reduceLT, Nat.reduceLeDiff, sizeLine_eq, if_true, if_false, List.cons_append, List.nil_append, Option.map_some, Option.bind_some, Int.reduceToNat, Int.reducePow, Int.reduceNeg, Int.reduceEq, Int.reduceLT, Int.reduceLE, Int.reduceAdd, Int.reduceSub, Int.reduceMul, eq_self, Mi.dat, pl, fz, is, ln, n2, pxs, px, py, a0, a1, px, fx, py, fy, vw, g1', g2', isy, pi, fi, lp]
          | true =>
            rw [q] at da
            rw [q, if_pos rfl] at lp
            obtain ⟨zs, rfl, zne⟩ := pr_pairs q
            have zl : zs.length ≤ 300 := by rw [List.length_map] at il; exact il
            have vr := v_rising zs zl
            have ss := dSortSetG_tup zl zne
            have dl : dList (.tup (zs.map tupZ)) = some (.own (zs.map tupZ)) := rfl
            have eo := eq_oo zs (sortT (nubT zs))
            rw [← ris_eq zs] at eo
            refine ⟨risT zs, ?_, ?_⟩
            · unfold F_is_web m_is_web
              generalize ((zs.map tupZ).map (pr n)).map D.bl = BB at *
              generalize risT zs = RR at *
              generalize zs.map tupZ = Z at *
              simp -implicitDefEqProofs only [Mi.EVA, Mi.EVB, D.frz, frzs, D.plain, plains, List.length_cons, List.length_nil, List.length_set, Nat.reduceAdd, Nat.reduceLT, Nat.reduceLeDiff, sizeLine_eq, if_true, if_false, List.cons_append, List.nil_append, Option.map_some, Option.bind_some, Int.reduceToNat, Int.reducePow, Int.reduceNeg, Int.reduceEq, Int.reduceLT, Int.reduceLE, Int.reduceAdd, Int.reduceSub, Int.reduceMul, eq_self, Mi.dat, pl, fz, is, ln, n2, pxs, px, py, a0, a1, px, fx, py, fy, vb, isy, pi, fi, lc, da, vr]
            · unfold l_w_is_web_0 at lp
              unfold F_w_is_web m_w_is_web
              generalize (sortT (nubT zs)).map tupZ = Y at *
              generalize risT zs = RR at *
              generalize zs.map tupZ = Z at *
              simp -implicitDefEqProofs only [Mi.EVA, Mi.EVB, D.frz, frzs, D.plain, plains, List.length_cons, List.length_nil, List.length_set, Nat.reduceAdd, Nat.reduceLT, Nat.reduceLeDiff, sizeLine_eq, if_true, if_false, List.cons_append, List.nil_append, Option.map_some, Option.bind_some, Int.reduceToNat, Int.reducePow, Int.reduceNeg, Int.reduceEq, Int.reduceLT, Int.reduceLE, Int.reduceAdd, Int.reduceSub, Int.reduceMul, eq_self, Mi.dat, pl, fz, is, ln, n2, pxs, px, py, a0, a1, px, fx, py, fy, vw, g1', g2', isy, pi, fi, lp, dl, ss, eo]
        · have isy := not_tup dy fun ys e => ty ⟨ys, e⟩
          refine ⟨false, ?_, ?_⟩
          · unfold F_is_web m_is_web
            simp -implicitDefEqProofs only [Mi.EVA, Mi.EVB, D.frz, frzs, D.plain, plains, List.length_cons, List.length_nil, List.length_set, Nat.reduceAdd, Nat.reduceLT, Nat.reduceLeDiff, sizeLine_eq, if_true, if_false, List.cons_append, List.nil_append, Option.map_some, Option.bind_some, Int.reduceToNat, Int.reducePow, Int.reduceNeg, Int.reduceEq, Int.reduceLT, Int.reduceLE, Int.reduceAdd, Int.reduceSub, Int.reduceMul, eq_self, Mi.dat, pl, fz, is, ln, n2, pxs, px, py, a0, a1, px, fx, py, fy, vb, isy]
          · unfold F_w_is_web m_w_is_web
            simp -implicitDefEqProofs only [Mi.EVA, Mi.EVB, D.frz, frzs, D.plain, plains, List.length_cons, List.length_nil, List.length_set, Nat.reduceAdd, Nat.reduceLT, Nat.reduceLeDiff, sizeLine_eq, if_true, if_false, List.cons_append, List.nil_append, Option.map_some, Option.bind_some, Int.reduceToNat, Int.reducePow, Int.reduceNeg, Int.reduceEq, Int.reduceLT, Int.reduceLE, Int.reduceAdd, Int.reduceSub, Int.reduceMul, eq_self, Mi.dat, pl, fz, is, ln, n2, pxs, px, py, a0, a1, px, fx, py, fy, vw, g1', g2', isy]
    · have n2 := ne_two l2
      refine ⟨false, ?_, ?_⟩
      · unfold F_is_web m_is_web
        simp -implicitDefEqProofs only [Mi.EVA, Mi.EVB, D.frz, frzs, D.plain, plains, List.length_cons, List.length_nil, List.length_set, Nat.reduceAdd, Nat.reduceLT, Nat.reduceLeDiff, sizeLine_eq, if_true, if_false, List.cons_append, List.nil_append, Option.map_some, Option.bind_some, Int.reduceToNat, Int.reducePow, Int.reduceNeg, Int.reduceEq, Int.reduceLT, Int.reduceLE, Int.reduceAdd, Int.reduceSub, Int.reduceMul, eq_self, Mi.dat, pl, fz, is, ln, n2, pxs]
      · unfold F_w_is_web m_w_is_web
        simp -implicitDefEqProofs only [Mi.EVA, Mi.EVB, D.frz, frzs, D.plain, plains, List.length_cons, List.length_nil, List.length_set, Nat.reduceAdd, Nat.reduceLT, Nat.reduceLeDiff, sizeLine_eq, if_true, if_false, List.cons_append, List.nil_append, Option.map_some, Option.bind_some, Int.reduceToNat, Int.reducePow, Int.reduceNeg, Int.reduceEq, Int.reduceLT, Int.reduceLE, Int.reduceAdd, Int.reduceSub, Int.reduceMul, eq_self, Mi.dat, pl, fz, is, ln, n2, pxs]
  · have is := not_tup h.da fun xs e => t ⟨xs, e⟩
    refine ⟨false, ?_, ?_⟩
    · unfold F_is_web m_is_web
      simp -implicitDefEqProofs only [Mi.EVA, Mi.EVB, D.frz, frzs, D.plain, plains, List.length_cons, List.length_nil, List.length_set, Nat.reduceAdd, Nat.reduceLT, Nat.reduceLeDiff, sizeLine_eq, if_true, if_false, List.cons_append, List.nil_append, Option.map_some, Option.bind_some, Int.reduceToNat, Int.reducePow, Int.reduceNeg, Int.reduceEq, Int.reduceLT, Int.reduceLE, Int.reduceAdd, Int.reduceSub, Int.reduceMul, eq_self, Mi.dat, pl, fz, is]
    · unfold F_w_is_web m_w_is_web
      simp -implicitDefEqProofs only [Mi.EVA, Mi.EVB, D.frz, frzs, D.plain, plains, List.length_cons, List.length_nil, List.length_set, Nat.reduceAdd, Nat.reduceLT, Nat.reduceLeDiff, sizeLine_eq, if_true, if_false, List.cons_append, List.nil_append, Option.map_some, Option.bind_some, Int.reduceToNat, Int.reducePow, Int.reduceNeg, Int.reduceEq, Int.reduceLT, Int.reduceLE, Int.reduceAdd, Int.reduceSub, Int.reduceMul, eq_self, Mi.dat, pl, fz, is]
end Lw

namespace Lw
open PySem PySem.Spec PyProof.Rows L2 Mi
variable [TabsC]
structure Yo (y : D) : Prop where
  da : dat y = true
  i : ∀ ys, y = .tup ys → ys.length ≤ 300 ∧ ∀ x ∈ ys, It x
theorem it_tup {xs : List D} (h : ∀ x ∈ xs, dat x = true) : It (.tup xs) := ⟨plains_all fun x hx => dat_plain (h x hx), fun ys e x hx => by cases e; exact h x hx⟩
theorem it_at {d : D} (h : dat d = true) (n : ∀ xs, d ≠ .tup xs) : It d := ⟨h, fun xs e => absurd e (n xs)⟩
theorem it_T (z : List Int) : It (tupZ z) := it_tup fun x hx => by
  obtain ⟨i, _, rfl⟩ := List.mem_map.mp hx
  rfl
theorem yo_at {d : D} (h : dat d = true) (n : ∀ xs, d ≠ .tup xs) : Yo d := ⟨h, fun xs e => absurd e (n xs)⟩
theorem yo_tup {xs : List D} (l : xs.length ≤ 300) (h : ∀ x ∈ xs, It x) : Yo (.tup xs) := ⟨plains_all fun x hx => dat_plain (h x hx).da, fun ys e => by cases e; exact ⟨l, h⟩⟩
theorem yo_T {zs : List (List Int)} (l : zs.length ≤ 300) : Yo (.tup (zs.map tupZ)) := yo_tup (by rw [List.length_map]; exact l) fun x hx => by
  obtain ⟨z, _, rfl⟩ := List.mem_map.mp hx
  exact it_T z
theorem th_tup {xs : List D} (h : ∀ x ∈ xs, Yo x) : Th (.tup xs) := ⟨plains_all fun x hx => dat_plain (h x hx).da, fun ys e x hx => by cases e; exact ⟨(h x hx).da, (h x hx).i⟩⟩
theorem th_at {d : D} (h : dat d = true) (n : ∀ xs, d ≠ .tup xs) : Th d := ⟨h, fun xs e => absurd e (n xs)⟩
theorem th_2 {x y : D} (hx : Yo x) (hy : Yo y) : Th (.tup [x, y]) := th_tup fun z hz => by
  simp only [List.mem_cons, List.not_mem_nil, or_false] at hz
  rcases hz with rfl | rfl
  · exact hx
  · exact hy
theorem yo_int (i : Int) : Yo (.int i) := yo_at rfl fun _ z => nomatch z
theorem Yo.th {d : D} (h : Yo d) (l : ∀ ys, d = .tup ys → ∀ x ∈ ys, Yo x) : Th d := ⟨h.da, fun ys e x hx => ⟨(l ys e x hx).da, (l ys e x hx).i⟩⟩
theorem yo_pair (a b : Int) : Yo (.tup [.int a, .int b]) := yo_tup (by show 2 ≤ 300; decide) fun x hx => by
  simp only [List.mem_cons, List.not_mem_nil, or_false] at hx
  rcases hx with rfl | rfl <;> exact it_at rfl fun _ z => nomatch z
def odds01 : List D := [.non, .bl true, .int 7, .str "", .str "0", .tup [], .lst [], .dic, .tup [.int 1, .int 2], .tup [.int 0], .tup [.int 1, .int 0], .int (-1), .tup [.int 0, .int 1], .lst [.tup [.int 0, .int 1]], .bl false, .tup [.int 2, .tup [.tup [.int 0, .int 1]]]]
theorem odds_th : ∀ d ∈ odds01, Th d := by
  intro d hd
  simp only [odds01, List.mem_cons, List.not_mem_nil, or_false] at hd
  have no : ∀ {d : D} (xs : List D), (∀ ys, d ≠ .tup ys) → d ≠ .tup xs := fun xs h => h xs
  rcases hd with rfl | rfl | rfl | rfl | rfl | rfl | rfl | rfl | rfl | rfl | rfl | rfl | rfl | rfl | rfl | rfl
  · exact th_at rfl fun _ z => nomatch z
  · exact th_at rfl fun _ z => nomatch z
  · exact th_at rfl fun _ z => nomatch z
  · exact th_at rfl fun _ z => nomatch z
  · exact th_at rfl fun _ z => nomatch z
  · exact th_tup fun _ z => nomatch z
  · exact th_at rfl fun _ z => nomatch z
  · exact th_at rfl fun _ z => nomatch z
  · exact th_2 (yo_int 1) (yo_int 2)
  · exact th_tup fun x hx => by rw [List.mem_singleton.mp hx]; exact yo_int 0
  · exact th_2 (yo_int 1) (yo_int 0)
  · exact th_at rfl fun _ z => nomatch z
  · exact th_2 (yo_int 0) (yo_int 1)
  · exact th_at rfl fun _ z => nomatch z
  · exact th_at rfl fun _ z => nomatch z
  · exact th_2 (yo_int 2) (yo_T (zs := [[0, 1]]) (by decide))
theorem v_odd01 (z : Int) : ∃ (d : D) (z' : Int), F_w_odd [.int z] [] = .ok d [.int z'] ∧ Th d := by
  have t := v_take z 16 (by decide) (by decide)
  have r0 := Int.emod_nonneg z (show (16 : Int) ≠ 0 by decide)
  have r1 := Int.emod_lt_of_pos z (show (0 : Int) < 16 by decide)
  generalize z % 16 = r at *
  generalize z / 16 = z1 at *
  obtain ⟨d, hd, hT⟩ := at_mem (xs := odds01) (P := Th) odds_th r0 (by show r < 16; exact r1)
  refine ⟨d, z1, ?_, hT⟩
  have dp := dat_plain hT.da
  unfold odds01 at hd
  unfold F_w_odd m_w_odd
  simp -implicitDefEqProofs only [Mi.EVA, Mi.EVB, D.frz, frzs, D.plain, plains, List.length_cons, List.length_nil, List.length_set, Nat.reduceAdd, Nat.reduceLT, Nat.reduceLeDiff, sizeLine_eq, if_true, if_false, List.cons_append, List.nil_append, Option.map_some, Option.bind_some, Int.reduceToNat, Int.reducePow, Int.reduceNeg, Int.reduceEq, Int.reduceLT, Int.reduceLE, Int.reduceAdd, Int.reduceSub, Int.reduceMul, eq_self, Mi.dat, t, hd, dp]
end Lw

namespace Lw
open PySem PySem.Spec PyProof.Rows L2 Mi
variable [TabsC]
theorem tk (z : Int) (m : Int) (h : 0 < m) (h2 : m < 2 ^ 64) : ∃ r z' : Int, F_w_take [.int z] [.int m] = .ok (.int r) [.int z'] ∧ 0 ≤ r ∧ r < m :=
  ⟨_, _, v_take z m h h2, Int.emod_nonneg _ (by omega), Int.emod_lt_of_pos _ h⟩
theorem cut_to {α : Type} (xs : List α) {k : Nat} (h : k ≤ xs.length) : cutL xs none (some (k : Int)) = xs.take k := by
  unfold cutL
  rw [HT.sIx_nat, HT.sIx_none, Nat.min_eq_left h, List.drop_zero, Nat.sub_zero]
theorem cut_from {α : Type} (xs : List α) {k : Nat} (h : k ≤ xs.length) : cutL xs (some (k : Int)) none = xs.drop k := by
  unfold cutL
  rw [HT.sIx_nat, HT.sIx_none, Nat.min_eq_left h]
  exact List.take_of_length_le (by rw [List.length_drop]; exact Nat.le_refl _)
theorem cut_at {α : Type} (xs : List α) {k j : Nat} (h : k ≤ xs.length) : cutL xs (some (k : Int)) (some (j : Int)) = (xs.drop k).take (min j xs.length - k) := by
  unfold cutL
  rw [HT.sIx_nat, HT.sIx_nat, Nat.min_eq_left h]
theorem cut_from_any {α : Type} (xs : List α) (k : Nat) : cutL xs (some (k : Int)) none = xs.drop (min k xs.length) := by
  unfold cutL
  rw [HT.sIx_nat, HT.sIx_none]
  exact List.take_of_length_le (by rw [List.length_drop]; exact Nat.le_refl _)
def lump (zs : List (List Int)) (k : Nat) (d : D) : D := .tup ((zs.take k).map tupZ ++ [d] ++ (zs.drop (min (k + 1) zs.length)).map tupZ)
theorem yo_lump {zs : List (List Int)} (l : zs.length ≤ 256) (k : Nat) {d : D} (h : It d) : Yo (lump zs k d) := by
  refine yo_tup ?_ fun x hx => ?_
  · simp
    omega
  · rcases List.mem_append.mp hx with hx | hx
    · rcases List.mem_append.mp hx with hx | hx
      · obtain ⟨z, _, rfl⟩ := List.mem_map.mp hx
        exact it_T z
      · rw [List.mem_singleton.mp hx]; exact h
    · obtain ⟨z, _, rfl⟩ := List.mem_map.mp hx
      exact it_T z
theorem dat_all : ∀ {xs : List D}, (∀ x ∈ xs, dat x = true) → plains xs = true := fun h => plains_all fun x hx => dat_plain (h x hx)
end Lw

namespace Lw
open PySem PySem.Spec PyProof.Rows L2 Mi
variable [TabsC]
theorem pow39 : CPow 10 39 := by decide
theorem pow39n : (39 : Int).toNat = 39 := rfl
theorem lc_lump {zs : List (List Int)} (l : zs.length ≤ 256) {k : Nat} (hk : k ≤ zs.length) (ds : List D) (hd : ∀ d ∈ ds, It d) (hl : ds.length ≤ 1000) (o0 o1 o3 o4 o5 o6 o7 o9 o10 o12 : Option D) :
    mLcLoop [11] (mgName 11) (mYes) (mOp2 dAdd (mOp2 dAdd (mSl (mVar 8) (mNoPart) (mPart (mVar 2))) (mTup (mCons (mVar 11) (mNil)))) (mSl (mVar 8) (mPart (mOp2 dAdd (mVar 2) (mC (.int 1)))) (mNoPart))) ds [] [o0, o1, some (.int (k : Int)), o3, o4, o5, o6, o7, some (.tup (zs.map tupZ)), o9, o10, none, o12] =
      .ok (.own (ds.map (lump zs k)), [o0, o1, some (.int (k : Int)), o3, o4, o5, o6, o7, some (.tup (zs.map tupZ)), o9, o10, none, o12]) := by
  refine lc_map (vs := [11]) [o0, o1, some (.int (k : Int)), o3, o4, o5, o6, o7, some (.tup (zs.map tupZ)), o9, o10, none, o12] (lump zs k) ds (fun d h => ?_) (by rw [sizeLine_eq]; omega)
  have dp := dat_plain (hd d h).da
  have df := dat_frz (hd d h).da
  have pp := plains_tups zs
  have e1 : dSl (.tup (zs.map tupZ)) none (some (k : Int)) = some (.tup ((zs.take k).map tupZ)) := by
    show some (D.tup (cutL _ _ _)) = _
    rw [cut_to _ (by rw [List.length_map]; exact hk), List.map_take]
  have e2 : dAdd (.tup ((zs.take k).map tupZ)) (.tup [d]) = some (.tup ((zs.take k).map tupZ ++ [d])) := dAdd_tup (by simp; rw [sizeLine_eq]; omega)
  have e0 : dAdd (.int (k : Int)) (.int 1) = some (.int ((k + 1 : Nat) : Int)) := rfl
  have e3 : dSl (.tup (zs.map tupZ)) (some ((k + 1 : Nat) : Int)) none = some (.tup ((zs.drop (min (k + 1) zs.length)).map tupZ)) := by
    show some (D.tup (cutL _ _ _)) = _
    rw [cut_from_any, List.length_map, List.map_drop]
  have e4 : dAdd (.tup ((zs.take k).map tupZ ++ [d])) (.tup ((zs.drop (min (k + 1) zs.length)).map tupZ)) = some (lump zs k d) := dAdd_tup (by simp; rw [sizeLine_eq]; omega)
  refine ⟨[o0, o1, some (.int (k : Int)), o3, o4, o5, o6, o7, some (.tup (zs.map tupZ)), o9, o10, some d, o12], [o0, o1, some (.int (k : Int)), o3, o4, o5, o6, o7, some (.tup (zs.map tupZ)), o9, o10, some d, o12], rfl, ?_, rfl⟩
  generalize lump zs k d = LL at *
  generalize (zs.drop (min (k + 1) zs.length)).map tupZ = D3 at *
  generalize (zs.take k).map tupZ = D1 at *
  generalize zs.map tupZ = Z at *
  generalize ((k + 1 : Nat) : Int) = K1 at *
  simp -implicitDefEqProofs only [Mi.EVA, Mi.EVB, D.frz, frzs, D.plain, plains, List.length_cons, List.length_nil, List.length_set, Nat.reduceAdd, Nat.reduceLT, Nat.reduceLeDiff, sizeLine_eq, if_true, if_false, List.cons_append, List.nil_append, Option.map_some, Option.bind_some, Int.reduceToNat, Int.reducePow, Int.reduceNeg, Int.reduceEq, Int.reduceLT, Int.reduceLE, Int.reduceAdd, Int.reduceSub, Int.reduceMul, eq_self, Mi.dat, dp, df, pp, e1, e2, e0, e3, e4]
theorem add_T (xs ys : List (List Int)) (h : xs.length + ys.length ≤ 1000) : dAdd (.tup (xs.map tupZ)) (.tup (ys.map tupZ)) = some (.tup ((xs ++ ys).map tupZ)) := by
  rw [dAdd_tup (by rw [List.length_map, List.length_map, sizeLine_eq]; omega), List.map_append]
def odd9 (n a : Int) : List D := [.int n, .int (-1), .bl true, .non, .str "0", .tup [.int 0], .int 0, .int 1000000000000000000000000000000000000000, .int a]
theorem odd9_it (n a : Int) : ∀ d ∈ odd9 n a, It d := by
  intro y hy
  simp only [odd9, List.mem_cons, List.not_mem_nil, or_false] at hy
  rcases hy with rfl | rfl | rfl | rfl | rfl | rfl | rfl | rfl | rfl
  · exact it_at rfl fun _ z => nomatch z
  · exact it_at rfl fun _ z => nomatch z
  · exact it_at rfl fun _ z => nomatch z
  · exact it_at rfl fun _ z => nomatch z
  · exact it_at rfl fun _ z => nomatch z
  · exact it_tup fun x hx => by rw [List.mem_singleton.mp hx]; rfl
  · exact it_at rfl fun _ z => nomatch z
  · exact it_at rfl fun _ z => nomatch z
  · exact it_at rfl fun _ z => nomatch z
def new8 (x : D) (a b : Int) : List D := [.tup [x, .int b], .tup [.int a, x], .tup [.int b, .int a], .tup [.int a, .int a], .lst [.int a, .int b], .tup [.int a], .tup [.int a, .int b, .int 0], x]
theorem new8_it {x : D} (xd : It x) (a b : Int) : ∀ d ∈ new8 x a b, It d := by
  intro d hd
  simp only [new8, List.mem_cons, List.not_mem_nil, or_false] at hd
  rcases hd with rfl | rfl | rfl | rfl | rfl | rfl | rfl | rfl
  · exact it_tup fun y hy => by
      simp only [List.mem_cons, List.not_mem_nil, or_false] at hy
      rcases hy with rfl | rfl
      · exact xd.da
      · rfl
  · exact it_tup fun y hy => by
      simp only [List.mem_cons, List.not_mem_nil, or_false] at hy
      rcases hy with rfl | rfl
      · rfl
      · exact xd.da
  · exact it_tup fun y hy => by
      simp only [List.mem_cons, List.not_mem_nil, or_false] at hy
      rcases hy with rfl | rfl <;> rfl
  · exact it_tup fun y hy => by
      simp only [List.mem_cons, List.not_mem_nil, or_false] at hy
      rcases hy with rfl | rfl <;> rfl
  · exact it_at rfl fun _ z => nomatch z
  · exact it_tup fun y hy => by rw [List.mem_singleton.mp hy]; rfl
  · exact it_tup fun y hy => by
      simp only [List.mem_cons, List.not_mem_nil, or_false] at hy
      rcases hy with rfl | rfl | rfl <;> rfl
  · exact xd
theorem four {S0 SS : List D} (h0 : frzs S0 = SS) (hl : SS.length = 13) (hS : ∀ d ∈ SS, Yo d) (n z : Int) (o1 o2 o3 o4 o6 o8 o9 o10 o11 : Option D) : ∃ (z' : Int) (a b c d : D), Th a ∧ Th b ∧ Th c ∧ Th d ∧
    mLcLoop [12] (mgName 12) (mYes) (mTup (mCons (mVar 7) (mCons (mOp2 dIx (mFrz 5) (mCallO F_w_take 0 (mCons (mC (.int 13)) (mNil)))) (mNil)))) [.int 0, .int 1, .int 2, .int 3] [] [some (.own [.int z]), o1, o2, o3, o4, some (.own S0), o6, some (.int n), o8, o9, o10, o11, none] =
      .ok (.own [a, b, c, d], [some (.own [.int z']), o1, o2, o3, o4, some (.lst SS), o6, some (.int n), o8, o9, o10, o11, none]) := by
  obtain ⟨r1, z1, t1, a1, b1⟩ := tk z 13 (by decide) (by decide)
  obtain ⟨r2, z2, t2, a2, b2⟩ := tk z1 13 (by decide) (by decide)
  obtain ⟨r3, z3, t3, a3, b3⟩ := tk z2 13 (by decide) (by decide)
  obtain ⟨r4, z4, t4, a4, b4⟩ := tk z3 13 (by decide) (by decide)
  obtain ⟨d1, h1, y1⟩ := at_mem (xs := SS) (P := Yo) hS a1 (by rw [hl]; exact b1)
  obtain ⟨d2, h2, y2⟩ := at_mem (xs := SS) (P := Yo) hS a2 (by rw [hl]; exact b2)
  obtain ⟨d3, h3, y3⟩ := at_mem (xs := SS) (P := Yo) hS a3 (by rw [hl]; exact b3)
  obtain ⟨d4, h4, y4⟩ := at_mem (xs := SS) (P := Yo) hS a4 (by rw [hl]; exact b4)
  have p1 := dat_plain y1.da
  have p2 := dat_plain y2.da
  have p3 := dat_plain y3.da
  have p4 := dat_plain y4.da
  have f1 := dat_frz y1.da
  have f2 := dat_frz y2.da
  have f3 := dat_frz y3.da
  have f4 := dat_frz y4.da
  have pS : plains SS = true := dat_all fun d h => (hS d h).da
  have fS : frzs SS = SS := D.tup.inj (frz_plain (.tup SS) pS)
  refine ⟨z4, _, _, _, _, th_2 (yo_int n) y1, th_2 (yo_int n) y2, th_2 (yo_int n) y3, th_2 (yo_int n) y4, ?_⟩
  simp -implicitDefEqProofs only [Mi.EVA, Mi.EVB, D.frz, frzs, D.plain, plains, List.length_cons, List.length_nil, List.length_set, Nat.reduceAdd, Nat.reduceLT, Nat.reduceLeDiff, sizeLine_eq, if_true, if_false, List.cons_append, List.nil_append, Option.map_some, Option.bind_some, Int.reduceToNat, Int.reducePow, Int.reduceNeg, Int.reduceEq, Int.reduceLT, Int.reduceLE, Int.reduceAdd, Int.reduceSub, Int.reduceMul, eq_self, Mi.dat, mLcLoop, t1, t2, t3, t4, h1, h2, h3, h4, p1, p2, p3, p4, f1, f2, f3, f4, pS, fS, h0]
end Lw

namespace Lw
open PySem PySem.Spec PyProof.Rows L2 Mi
variable [TabsC]
theorem rng4 : rangeD 0 4 = [.int 0, .int 1, .int 2, .int 3] := rfl
section
variable {n : Nat} {ps : List (List Int)} (W : Web n ps)
include W
theorem v_others (z : Int) : ∃ (z' : Int) (ds : List D), F_w_others [.int z] [webD n ps] = .ok (.own ds) [.int z'] ∧ (∀ d ∈ ds, Th d) ∧ ds.length ≤ 100 := by
  have n16 := W.n16
  have l := W.len
  have wp := plain_web n ps
  have wf := frz_web n ps
  obtain ⟨k0, z1, t1, k0', k1'⟩ := tk z ((ps.length : Int) + 1) (by omega) (by omega)
  obtain ⟨k, rfl⟩ := nat_of k0'
  have hk : k ≤ ps.length := by omega
  obtain ⟨p, hp⟩ : ∃ p, (ps ++ [[0, 1]])[k]? = some p := ⟨(ps ++ [[0, 1]])[k]'(by simp; omega), List.getElem?_eq_getElem _⟩
  obtain ⟨a, b, rfl⟩ : ∃ a b, p = [a, b] := by
    rcases List.mem_append.mp (List.mem_of_getElem? hp) with h | h
    · obtain ⟨i, j, e, _⟩ := W.inn p h
      exact ⟨i, j, e⟩
    · exact ⟨0, 1, List.mem_singleton.mp h⟩
  have ap : atI ((ps ++ [[0, 1]]).map tupZ) (k : Int) = some (.tup [.int a, .int b]) := by
    rw [atI_pos (by omega) (by simp; omega), Int.toNat_natCast, List.getElem?_map, hp]; rfl
  have ad0 : dAdd (.tup (ps.map tupZ)) (.tup [.tup [.int 0, .int 1]]) = some (.tup ((ps ++ [[0, 1]]).map tupZ)) := add_T ps [[0, 1]] (by simp; omega)
  have pa0 := plains_tups (ps ++ [[0, 1]])
  have fa0 : frzs ((ps ++ [[0, 1]]).map tupZ) = (ps ++ [[0, 1]]).map tupZ := D.tup.inj (frz_plain (.tup _) pa0)
  have pp := plains_tups ps
  have fp : frzs (ps.map tupZ) = ps.map tupZ := D.tup.inj (frz_plain (.tup _) pp)
  have ln : dLen (.tup (ps.map tupZ)) = some (.int (ps.length : Int)) := by
    show some (D.int ((ps.map tupZ).length : Nat)) = _
    rw [List.length_map]
  have ad1 : dAdd (.int (ps.length : Int)) (.int 1) = some (.int ((ps.length : Int) + 1)) := rfl
  obtain ⟨r, z2, t2, r0, r9⟩ := tk z1 9 (by decide) (by decide)
  obtain ⟨x, hx, xd⟩ := at_mem (xs := odd9 n a) (P := It) (odd9_it n a) r0 (by show r < 9; exact r9)
  have xp := dat_plain xd.da
  have xf := dat_frz xd.da
  have pow : (10 ^ 39 : Int) = 10 ^ 39 := rfl
  have lc := lc_lump (zs := ps) l hk (new8 x a b) (new8_it xd a b) (by show 8 ≤ 1000; decide)
  have sl1 : dSl (.tup (ps.map tupZ)) none (some (k : Int)) = some (.tup ((ps.take k).map tupZ)) := by
    show some (D.tup (cutL _ _ _)) = _
    rw [cut_to _ (by rw [List.length_map]; exact hk), List.map_take]
  have sl2 : dSl (.tup (ps.map tupZ)) (some (k : Int)) (some ((k : Int) + 1)) = some (.tup (((ps.drop k).take (min (k + 1) ps.length - k)).map tupZ)) := by
    show some (D.tup (cutL _ _ (some ((k + 1 : Nat) : Int)))) = _
    rw [cut_at _ (by rw [List.length_map]; exact hk), List.length_map, ← List.map_drop, ← List.map_take]
  have sl3 : dSl (.tup (ps.map tupZ)) (some (k : Int)) none = some (.tup ((ps.drop k).map tupZ)) := by
    show some (D.tup (cutL _ _ _)) = _
    rw [cut_from _ (by rw [List.length_map]; exact hk), List.map_drop]
  have sl4 : dSl (.tup (ps.map tupZ)) (some ((k : Int) + 1)) none = some (.tup ((ps.drop (min (k + 1) ps.length)).map tupZ)) := by
    show some (D.tup (cutL _ (some ((k + 1 : Nat) : Int)) _)) = _
    rw [cut_from_any, List.length_map, List.map_drop]
  have st : dSt (.tup (ps.map tupZ)) none none = some (.tup (ps.reverse.map tupZ)) := by
    show (if (stepP (ps.map tupZ) none none (-1)).length ≤ sizeLine then some (D.tup (stepP (ps.map tupZ) none none (-1))) else none) = _
    rw [stepP_rev, List.map_reverse.symm, if_pos (by rw [List.length_map, List.length_reverse, sizeLine_eq]; omega)]
  have l1 : (ps.take k).length ≤ 256 := by rw [List.length_take]; omega
  have l2 : ((ps.drop k).take (min (k + 1) ps.length - k)).length ≤ 1 := by rw [List.length_take]; omega
  have l3 : (ps.drop k).length + k ≤ 256 := by rw [List.length_drop]; omega
  have l1' : (ps.take k).length = k := by rw [List.length_take]; omega
  have l4 : (ps.drop (min (k + 1) ps.length)).length + k ≤ 256 := by rw [List.length_drop]; omega
  have y1 := yo_T (zs := ps.take k ++ (ps.drop k).take (min (k + 1) ps.length - k) ++ ps.drop k) (by rw [List.length_append, List.length_append]; omega)
  have y2 := yo_T (zs := ps.reverse) (by rw [List.length_reverse]; omega)
  have y3 := yo_T (zs := ps.take k ++ ps.drop (min (k + 1) ps.length)) (by rw [List.length_append]; omega)
  have yps := yo_T (zs := ps) (by omega)
  have a1 := add_T (ps.take k) ((ps.drop k).take (min (k + 1) ps.length - k)) (by omega)
  have a2 := add_T (ps.take k ++ (ps.drop k).take (min (k + 1) ps.length - k)) (ps.drop k) (by rw [List.length_append]; omega)
  have a3 := add_T (ps.take k) (ps.drop (min (k + 1) ps.length)) (by omega)
  have q1 := plains_tups (ps.take k)
  have q2 := plains_tups ((ps.drop k).take (min (k + 1) ps.length - k))
  have q3 := plains_tups (ps.drop k)
  have q4 := plains_tups (ps.drop (min (k + 1) ps.length))
  have q5 := plains_tups (ps.take k ++ (ps.drop k).take (min (k + 1) ps.length - k))
  have q6 := plains_tups (ps.take k ++ (ps.drop k).take (min (k + 1) ps.length - k) ++ ps.drop k)
  have q7 := plains_tups (ps.take k ++ ps.drop (min (k + 1) ps.length))
  have q8 := plains_tups ps.reverse
  generalize (ps.take k ++ (ps.drop k).take (min (k + 1) ps.length - k) ++ ps.drop k).map tupZ = P6 at *
  generalize (ps.take k ++ (ps.drop k).take (min (k + 1) ps.length - k)).map tupZ = P5 at *
  generalize (ps.take k ++ ps.drop (min (k + 1) ps.length)).map tupZ = P7 at *
  generalize ps.reverse.map tupZ = P8 at *
  generalize (ps.take k).map tupZ = P1 at *
  generalize ((ps.drop k).take (min (k + 1) ps.length - k)).map tupZ = P2 at *
  generalize (ps.drop k).map tupZ = P3 at *
  generalize (ps.drop (min (k + 1) ps.length)).map tupZ = P4 at *
  have yl : ∀ d ∈ (new8 x a b).map (lump ps k) ++ [.tup P6, .tup P8, .tup P7, .lst (ps.map tupZ), .non], Yo d := fun d hd => by
    rcases List.mem_append.mp hd with hd | hd
    · obtain ⟨u, hu, rfl⟩ := List.mem_map.mp hd
      exact yo_lump l k (new8_it xd a b u hu)
    · simp only [List.mem_cons, List.not_mem_nil, or_false] at hd
      rcases hd with rfl | rfl | rfl | rfl | rfl
      · exact y1
      · exact y2
      · exact y3
      · exact yo_at pp fun _ z => nomatch z
      · exact yo_at rfl fun _ z => nomatch z
  have pL : plains ((new8 x a b).map (lump ps k)) = true := dat_all fun d hd => (yl d (List.mem_append_left _ hd)).da
  have fL : frzs ((new8 x a b).map (lump ps k)) = (new8 x a b).map (lump ps k) := D.tup.inj (frz_plain (.tup _) pL)
  have pp6 : plains P6 = true := q6
  have f6 : frzs P6 = P6 := D.tup.inj (frz_plain (.tup _) q6)
  have f7 : frzs P7 = P7 := D.tup.inj (frz_plain (.tup _) q7)
  have f8 : frzs P8 = P8 := D.tup.inj (frz_plain (.tup _) q8)
  have adL : dAdd (.lst ((new8 x a b).map (lump ps k))) (.own [.tup P6, .tup P8, .tup P7, .own (ps.map tupZ), .non]) = some (.own ((new8 x a b).map (lump ps k) ++ [.tup P6, .tup P8, .tup P7, .own (ps.map tupZ), .non])) := dAdd_lo (by show 13 ≤ _; rw [sizeLine_eq]; decide)
  have frS : frzs ((new8 x a b).map (lump ps k) ++ [.tup P6, .tup P8, .tup P7, .own (ps.map tupZ), .non]) = (new8 x a b).map (lump ps k) ++ [.tup P6, .tup P8, .tup P7, .lst (ps.map tupZ), .non] := by
    rw [frzs_app, fL]
    show _ ++ [D.tup (frzs P6), .tup (frzs P8), .tup (frzs P7), .lst (frzs (ps.map tupZ)), .non] = _
    rw [f6, f7, f8, fp]
  have lL : ((new8 x a b).map (lump ps k) ++ [D.tup P6, .tup P8, .tup P7, .lst (ps.map tupZ), .non]).length = 13 := rfl
  generalize hSS : (new8 x a b).map (lump ps k) ++ [D.tup P6, .tup P8, .tup P7, .lst (ps.map tupZ), .non] = SS at *
  generalize hS0 : (new8 x a b).map (lump ps k) ++ [D.tup P6, .tup P8, .tup P7, .own (ps.map tupZ), .non] = S0 at *
  generalize hLL : (new8 x a b).map (lump ps k) = LL at *
  obtain ⟨z3, w1, w2, w3, w4, h1, h2, h3, h4, f4⟩ := four frS lL yl n z2 (some (webD n ps)) (some (.int (k : Int))) (some x) (some (.lst (new8 x a b))) none (some (.tup (ps.map tupZ))) (some (.int a)) (some (.int b)) none
  obtain ⟨d, z4, ho, hd⟩ := v_odd01 z3
  unfold odd9 at hx
  unfold new8 at lc f4
  have dp := dat_plain hd.da
  have df := dat_frz hd.da
  have wg1 := dat_frz h1.da
  have wg2 := dat_frz h2.da
  have wg3 := dat_frz h3.da
  have wg4 := dat_frz h4.da
  have wp1 := dat_plain h1.da
  have wp2 := dat_plain h2.da
  have wp3 := dat_plain h3.da
  have wp4 := dat_plain h4.da
  have p39 := pow39
  have p39n := pow39n
  have r4 := rng4
  have s4 : small62 4 := by decide
  have dl : dList (.tup (ps.map tupZ)) = some (.own (ps.map tupZ)) := rfl
  unfold webD at *
  refine ⟨z4, [w1, w2, w3, w4, .tup [.int 0, .tup (ps.map tupZ)], .tup [.int 17, .tup (ps.map tupZ)], .tup [.int 16, .tup (ps.map tupZ)], .tup [.bl true, .tup (ps.map tupZ)], .tup [.str "3", .tup (ps.map tupZ)], .tup [.int (if (n : Int) - 1 > 1 then (n : Int) - 1 else 1), .tup (ps.map tupZ)], .lst [.int n, .tup (ps.map tupZ)], .tup [.int n], .tup [.int n, .tup (ps.map tupZ), .tup []], .tup (ps.map tupZ), d], ?_, ?_, ?_⟩
  · unfold F_w_others m_w_others
    simp -implicitDefEqProofs only [Mi.EVA, Mi.EVB, D.frz, frzs, D.plain, plains, List.length_cons, List.length_nil, List.length_set, Nat.reduceAdd, Nat.reduceLT, Nat.reduceLeDiff, sizeLine_eq, if_true, if_false, List.cons_append, List.nil_append, Option.map_some, Option.bind_some, Int.reduceToNat, Int.reducePow, Int.reduceNeg, Int.reduceEq, Int.reduceLT, Int.reduceLE, Int.reduceAdd, Int.reduceSub, Int.reduceMul, eq_self, Mi.dat, wp, wf, t1, ad0, ap, pa0, fa0, pp, fp, ln, ad1, t2, hx, xp, xf, lc, sl1, sl2, sl3, sl4, st, a1, a2, a3, q1, q2, q3, q4, q5, q6, q7, q8, pL, fL, adL, f4, ho, dp, df, wp1, wp2, wp3, wp4, p39, p39n, r4, s4, dl, wg1, wg2, wg3, wg4]
  · intro e he
    simp only [List.mem_cons, List.not_mem_nil, or_false] at he
    rcases he with rfl | rfl | rfl | rfl | rfl | rfl | rfl | rfl | rfl | rfl | rfl | rfl | rfl | rfl | rfl
    · exact h1
    · exact h2
    · exact h3
    · exact h4
    · exact th_2 (yo_int _) yps
    · exact th_2 (yo_int _) yps
    · exact th_2 (yo_int _) yps
    · exact th_2 (yo_at rfl fun _ z => nomatch z) yps
    · exact th_2 (yo_at rfl fun _ z => nomatch z) yps
    · exact th_2 (yo_int _) yps
    · exact th_at (by show (true && (plains (ps.map tupZ) && true)) = true; rw [pp]; rfl) fun _ z => nomatch z
    · exact th_tup fun y hy => by rw [List.mem_singleton.mp hy]; exact yo_int _
    · exact th_tup fun y hy => by
        simp only [List.mem_cons, List.not_mem_nil, or_false] at hy
        rcases hy with rfl | rfl | rfl
        · exact yo_int _
        · exact yps
        · exact yo_tup (by decide) fun _ z => nomatch z
    · exact th_tup fun y hy => by
        obtain ⟨q, hq, rfl⟩ := List.mem_map.mp hy
        obtain ⟨i, j, e, _⟩ := W.inn q hq
        rw [e]
        exact yo_pair _ _
    · exact hd
  · show 15 ≤ 100
    decide
end
end Lw

namespace Lw
open PySem PySem.Spec PyProof.Rows L2 Mi
variable [TabsC]
theorem kdPl : kd "NoPlace" = some "! place" := by rfl
theorem nmPl : names.contains "NoPlace" = true := by rfl
section
variable {n : Nat} {ps : List (List Int)} (W : Web n ps)
include W
theorem look_no {d : D} (hd : dat d = true) (hb : btw d 0 ((n : Int) - 1) = false) : F_look_at_place [webD n ps, d] = .exc "NoPlace" [] := by
  have w0 := web_ix0 W
  have wp := plain_web n ps
  have wf := frz_web n ps
  have vb := v_between d 0 ((n : Int) - 1) hd
  have dp := dat_plain hd
  have df := dat_frz hd
  rw [hb] at vb
  unfold F_look_at_place m_look_at_place
  generalize webD n ps = X at *
  simp -implicitDefEqProofs only [Mi.EVA, Mi.EVB, D.frz, frzs, D.plain, plains, List.length_cons, List.length_nil, List.length_set, Nat.reduceAdd, Nat.reduceLT, Nat.reduceLeDiff, sizeLine_eq, if_true, if_false, List.cons_append, List.nil_append, Option.map_some, Option.bind_some, Int.reduceToNat, Int.reducePow, Int.reduceNeg, Int.reduceEq, Int.reduceLT, Int.reduceLE, Int.reduceAdd, Int.reduceSub, Int.reduceMul, eq_self, Mi.dat, wp, wf, w0, vb, dp, df]
theorem asked_near {i : Int} (i0 : 0 ≤ i) (i1 : i < n) : F_w_asked [.int 0, webD n ps, .int i, .int 0] = .ok (.tup ((nearZ n ps i).map D.int)) := by
  have wp := plain_web n ps
  have wf := frz_web n ps
  have lp := v_look_place W i0 i1
  have vn := v_near_in W i0 i1
  have pz := plains_intsZ (nearZ n ps i)
  have fz := frzs_ints (nearZ n ps i)
  have vm : F_near [webD n ps, .int i] = .ok (.tup ((nearZ n ps i).map D.int)) := by
    unfold F_near m_near
    generalize webD n ps = X at *
    generalize (nearZ n ps i).map D.int = Y at *
    simp -implicitDefEqProofs only [Mi.EVA, Mi.EVB, D.frz, frzs, D.plain, plains, List.length_cons, List.length_nil, List.length_set, Nat.reduceAdd, Nat.reduceLT, Nat.reduceLeDiff, sizeLine_eq, if_true, if_false, List.cons_append, List.nil_append, Option.map_some, Option.bind_some, Int.reduceToNat, Int.reducePow, Int.reduceNeg, Int.reduceEq, Int.reduceLT, Int.reduceLE, Int.reduceAdd, Int.reduceSub, Int.reduceMul, eq_self, Mi.dat, wp, wf, lp, vn, pz, fz]
  unfold F_w_asked m_w_asked
  generalize webD n ps = X at *
  generalize (nearZ n ps i).map D.int = Y at *
  simp -implicitDefEqProofs only [Mi.EVA, Mi.EVB, D.frz, frzs, D.plain, plains, List.length_cons, List.length_nil, List.length_set, Nat.reduceAdd, Nat.reduceLT, Nat.reduceLeDiff, sizeLine_eq, if_true, if_false, List.cons_append, List.nil_append, Option.map_some, Option.bind_some, Int.reduceToNat, Int.reducePow, Int.reduceNeg, Int.reduceEq, Int.reduceLT, Int.reduceLE, Int.reduceAdd, Int.reduceSub, Int.reduceMul, eq_self, Mi.dat, wp, wf, vm, pz, fz]
theorem asked_shared {i j : Int} (i0 : 0 ≤ i) (i1 : i < n) (j0 : 0 ≤ j) (j1 : j < n) : F_w_asked [.int 1, webD n ps, .int i, .int j] = .ok (.tup ((shZ n ps i j).map D.int)) := by
  have wp := plain_web n ps
  have wf := frz_web n ps
  have lp := v_look_place W i0 i1
  have lq := v_look_place W j0 j1
  have vn : F_shared_in [webD n ps, .int i, .int j] = _ := v_shared W i0 i1 j0 j1
  have pz := plains_intsZ (shZ n ps i j)
  have fz := frzs_ints (shZ n ps i j)
  have vm : F_shared [webD n ps, .int i, .int j] = .ok (.tup ((shZ n ps i j).map D.int)) := by
    unfold F_shared m_shared
    generalize webD n ps = X at *
    generalize (shZ n ps i j).map D.int = Y at *
    simp -implicitDefEqProofs only [Mi.EVA, Mi.EVB, D.frz, frzs, D.plain, plains, List.length_cons, List.length_nil, List.length_set, Nat.reduceAdd, Nat.reduceLT, Nat.reduceLeDiff, sizeLine_eq, if_true, if_false, List.cons_append, List.nil_append, Option.map_some, Option.bind_some, Int.reduceToNat, Int.reducePow, Int.reduceNeg, Int.reduceEq, Int.reduceLT, Int.reduceLE, Int.reduceAdd, Int.reduceSub, Int.reduceMul, eq_self, Mi.dat, wp, wf, lp, lq, vn, pz, fz]
  unfold F_w_asked m_w_asked
  generalize webD n ps = X at *
  generalize (shZ n ps i j).map D.int = Y at *
  simp -implicitDefEqProofs only [Mi.EVA, Mi.EVB, D.frz, frzs, D.plain, plains, List.length_cons, List.length_nil, List.length_set, Nat.reduceAdd, Nat.reduceLT, Nat.reduceLeDiff, sizeLine_eq, if_true, if_false, List.cons_append, List.nil_append, Option.map_some, Option.bind_some, Int.reduceToNat, Int.reducePow, Int.reduceNeg, Int.reduceEq, Int.reduceLT, Int.reduceLE, Int.reduceAdd, Int.reduceSub, Int.reduceMul, eq_self, Mi.dat, wp, wf, vm, pz, fz]
theorem asked_no {d : D} (hd : dat d = true) (hb : btw d 0 ((n : Int) - 1) = false) : F_w_asked [.int 0, webD n ps, d, .int 0] = .ok (.str "! place") ∧ F_w_asked [.int 1, webD n ps, d, .int 0] = .ok (.str "! place") ∧ F_w_asked [.int 1, webD n ps, .int 0, d] = .ok (.str "! place") := by
  have wp := plain_web n ps
  have wf := frz_web n ps
  have dp := dat_plain hd
  have df := dat_frz hd
  have n1 := W.n1
  have lp := v_look_place W (p := 0) (by omega) (by omega)
  have ln := look_no W hd hb
  have kt := fun e => kTr_excR (i := 4) (e := e) kdPl nmPl
  generalize webD n ps = X at *
  refine ⟨?_, ?_, ?_⟩
  · have vm : F_near [X, d] = .exc "NoPlace" [] := by
      unfold F_near m_near
      simp -implicitDefEqProofs only [Mi.EVA, Mi.EVB, D.frz, frzs, D.plain, plains, List.length_cons, List.length_nil, List.length_set, Nat.reduceAdd, Nat.reduceLT, Nat.reduceLeDiff, sizeLine_eq, if_true, if_false, List.cons_append, List.nil_append, Option.map_some, Option.bind_some, Int.reduceToNat, Int.reducePow, Int.reduceNeg, Int.reduceEq, Int.reduceLT, Int.reduceLE, Int.reduceAdd, Int.reduceSub, Int.reduceMul, eq_self, Mi.dat, wp, wf, dp, df, ln]
    unfold F_w_asked m_w_asked
    simp -implicitDefEqProofs only [Mi.EVA, Mi.EVB, D.frz, frzs, D.plain, plains, List.length_cons, List.length_nil, List.length_set, Nat.reduceAdd, Nat.reduceLT, Nat.reduceLeDiff, sizeLine_eq, if_true, if_false, List.cons_append, List.nil_append, Option.map_some, Option.bind_some, Int.reduceToNat, Int.reducePow, Int.reduceNeg, Int.reduceEq, Int.reduceLT, Int.reduceLE, Int.reduceAdd, Int.reduceSub, Int.reduceMul, eq_self, Mi.dat, wp, wf, dp, df, vm, kt]
  · have vm : F_shared [X, d, .int 0] = .exc "NoPlace" [] := by
      unfold F_shared m_shared
      simp -implicitDefEqProofs only [Mi.EVA, Mi.EVB, D.frz, frzs, D.plain, plains, List.length_cons, List.length_nil, List.length_set, Nat.reduceAdd, Nat.reduceLT, Nat.reduceLeDiff, sizeLine_eq, if_true, if_false, List.cons_append, List.nil_append, Option.map_some, Option.bind_some, Int.reduceToNat, Int.reducePow, Int.reduceNeg, Int.reduceEq, Int.reduceLT, Int.reduceLE, Int.reduceAdd, Int.reduceSub, Int.reduceMul, eq_self, Mi.dat, wp, wf, dp, df, ln]
    unfold F_w_asked m_w_asked
    simp -implicitDefEqProofs only [Mi.EVA, Mi.EVB, D.frz, frzs, D.plain, plains, List.length_cons, List.length_nil, List.length_set, Nat.reduceAdd, Nat.reduceLT, Nat.reduceLeDiff, sizeLine_eq, if_true, if_false, List.cons_append, List.nil_append, Option.map_some, Option.bind_some, Int.reduceToNat, Int.reducePow, Int.reduceNeg, Int.reduceEq, Int.reduceLT, Int.reduceLE, Int.reduceAdd, Int.reduceSub, Int.reduceMul, eq_self, Mi.dat, wp, wf, dp, df, vm, kt]
  · have vm : F_shared [X, .int 0, d] = .exc "NoPlace" [] := by
      unfold F_shared m_shared
      simp -implicitDefEqProofs only [Mi.EVA, Mi.EVB, D.frz, frzs, D.plain, plains, List.length_cons, List.length_nil, List.length_set, Nat.reduceAdd, Nat.reduceLT, Nat.reduceLeDiff, sizeLine_eq, if_true, if_false, List.cons_append, List.nil_append, Option.map_some, Option.bind_some, Int.reduceToNat, Int.reducePow, Int.reduceNeg, Int.reduceEq, Int.reduceLT, Int.reduceLE, Int.reduceAdd, Int.reduceSub, Int.reduceMul, eq_self, Mi.dat, wp, wf, dp, df, lp, ln]
    unfold F_w_asked m_w_asked
    simp -implicitDefEqProofs only [Mi.EVA, Mi.EVB, D.frz, frzs, D.plain, plains, List.length_cons, List.length_nil, List.length_set, Nat.reduceAdd, Nat.reduceLT, Nat.reduceLeDiff, sizeLine_eq, if_true, if_false, List.cons_append, List.nil_append, Option.map_some, Option.bind_some, Int.reduceToNat, Int.reducePow, Int.reduceNeg, Int.reduceEq, Int.reduceLT, Int.reduceLE, Int.reduceAdd, Int.reduceSub, Int.reduceMul, eq_self, Mi.dat, wp, wf, dp, df, vm, kt]
theorem shZ_comm (i j : Int) : shZ n ps i j = shZ n ps j i := by
  unfold shZ nearZ
  rw [List.filter_filter, List.filter_filter]
  refine List.filter_congr fun x hx => ?_
  have e : ∀ k : Int, decide (x ∈ (rgF 0 n).filter fun j => decide (j ≠ k) && tiedB ps k j) = (decide (x ≠ k) && tiedB ps k x) := fun k => by
    cases q : (decide (x ≠ k) && tiedB ps k x) with
    | true => exact decide_eq_true (List.mem_filter.mpr ⟨hx, q⟩)
    | false => exact decide_eq_false fun z => by rw [(List.mem_filter.mp z).2] at q; cases q
  rw [e i, e j, Bool.and_comm]
theorem things (ds : List D) (hd : ∀ d ∈ ds, Th d) (o0 o1 o2 o3 o4 o5 o6 o7 o8 o9 o10 o11 : Option D) : ∃ o4', mLoop (mgName 4) l_law_1 ds [o0, o1, o2, o3, o4, o5, o6, o7, o8, o9, o10, o11] = .nx [o0, o1, o2, o3, o4', o5, o6, o7, o8, o9, o10, o11] := by
  obtain ⟨e', h, o4', rfl⟩ := loop_inv (g := mgName 4) (body := l_law_1) (fun e => ∃ o4', e = [o0, o1, o2, o3, o4', o5, o6, o7, o8, o9, o10, o11]) ds (fun d hx e he => by
    obtain ⟨o4, rfl⟩ := he
    have t := hd d hx
    have dp := dat_plain t.da
    have df := dat_frz t.da
    obtain ⟨b, h1, h2⟩ := both_web t
    have sm := same_refl 4 (.bl b) Sm.bl
    refine ⟨[o0, o1, o2, o3, some d, o5, o6, o7, o8, o9, o10, o11], [o0, o1, o2, o3, some d, o5, o6, o7, o8, o9, o10, o11], rfl, ?_, some d, rfl⟩
    unfold l_law_1
    simp -implicitDefEqProofs only [Mi.EVA, Mi.EVB, D.frz, frzs, D.plain, plains, List.length_cons, List.length_nil, List.length_set, Nat.reduceAdd, Nat.reduceLT, Nat.reduceLeDiff, sizeLine_eq, if_true, if_false, List.cons_append, List.nil_append, Option.map_some, Option.bind_some, Int.reduceToNat, Int.reducePow, Int.reduceNeg, Int.reduceEq, Int.reduceLT, Int.reduceLE, Int.reduceAdd, Int.reduceSub, Int.reduceMul, eq_self, Mi.dat, dp, df, h1, h2, sm]) _ ⟨o4, rfl⟩
  exact ⟨o4', h⟩
end
end Lw

namespace Lw
open PySem PySem.Spec PyProof.Rows L2 Mi
variable [TabsC]
section
variable {n : Nat} {ps : List (List Int)} (W : Web n ps)
include W
theorem lw_rows (o0 o1 o2 o4 o5 o6 o7 o8 o9 o10 : Option D) : mLcLoop [11] (mgName 11) (mYes) (mCall F_w_near (mCons (mVar 3) (mCons (mVar 11) (mNil)))) (rangeD 0 n) [] [o0, o1, o2, some (webD n ps), o4, o5, o6, o7, o8, o9, o10, none] =
    .ok (.own (rowsO n (nearZ n ps)), [o0, o1, o2, some (webD n ps), o4, o5, o6, o7, o8, o9, o10, none]) := by
  have wp := plain_web n ps
  have wf := frz_web n ps
  have n16 := W.n16
  have vw : ∀ i : Int, F_w_near [webD n ps, .int i] = .ok (.own ((nearZ n ps i).map D.int)) := v_w_near W
  obtain ⟨e', h1, rfl⟩ := lc_fil (vs := [11]) (g := mgName 11) (tt := mYes) (te := mCall F_w_near (mCons (mVar 3) (mCons (mVar 11) (mNil))))
    (fun e => e = [o0, o1, o2, some (webD n ps), o4, o5, o6, o7, o8, o9, o10, none]) (fun _ => true) id D.int (fun i => D.own ((nearZ n ps i).map D.int)) (rgF 0 n) [] _ (fun x hp _ he => by
    subst he
    have v := vw x
    refine ⟨_, _, rfl, rfl, fun _ => ⟨[o0, o1, o2, some (webD n ps), o4, o5, o6, o7, o8, o9, o10, some (.int x)], ?_, rfl⟩, fun z => nomatch z⟩
    generalize webD n ps = X at *
    simp -implicitDefEqProofs only [Mi.EVA, Mi.EVB, D.frz, frzs, D.plain, plains, List.length_cons, List.length_nil, List.length_set, Nat.reduceAdd, Nat.reduceLT, Nat.reduceLeDiff, sizeLine_eq, if_true, if_false, List.cons_append, List.nil_append, Option.map_some, Option.bind_some, Int.reduceToNat, Int.reducePow, Int.reduceNeg, Int.reduceEq, Int.reduceLT, Int.reduceLE, Int.reduceAdd, Int.reduceSub, Int.reduceMul, eq_self, Mi.dat, wp, wf, v]
    rfl) (by rw [rgF_len, List.length_nil, sizeLine_eq]; omega) rfl
  rw [List.nil_append, List.filter_eq_self.mpr fun _ _ => rfl, List.map_id, ← rgF_D] at h1
  exact h1
theorem lw_share {i j : Int} (i0 : 0 ≤ i) (i1 : i < n) (j0 : 0 ≤ j) (j1 : j < n) (o0 o1 o2 o3 o4 o7 o8 o10 : Option D) :
    mLcLoop [11] (mgName 11) (mT (mOp2 dIn (mVar 11) (mOp2 dIx (mFrz 5) (mVar 9)))) (mVar 11) ((nearZ n ps i).map D.int) [] [o0, o1, o2, o3, o4, some (.lst (rowsL n (nearZ n ps))), some (.int i), o7, o8, some (.int j), o10, none] =
      .ok (.own ((shZ n ps i j).map D.int), [o0, o1, o2, o3, o4, some (.lst (rowsL n (nearZ n ps))), some (.int i), o7, o8, some (.int j), o10, none]) := by
  have pl := plains_rowsL n (nearZ n ps)
  have fr2 := frzs_plain _ pl
  have aj := rowsL_at (nearZ n ps) j0 j1
  obtain ⟨e', h1, rfl⟩ := lc_fil (vs := [11]) (g := mgName 11) (tt := (mT (mOp2 dIn (mVar 11) (mOp2 dIx (mFrz 5) (mVar 9))))) (te := mVar 11)
      (fun e => e = [o0, o1, o2, o3, o4, some (.lst (rowsL n (nearZ n ps))), some (.int i), o7, o8, some (.int j), o10, none]) (fun x => decide (x ∈ nearZ n ps j)) id D.int D.int (nearZ n ps i) [] _ (fun x hp _ he => by
      subst he
      have di := dIn_Zl (i := x) (ns := nearZ n ps j)
      refine ⟨_, [o0, o1, o2, o3, o4, some (.lst (rowsL n (nearZ n ps))), some (.int i), o7, o8, some (.int j), o10, some (.int x)], rfl, ?_, fun _ => ⟨[o0, o1, o2, o3, o4, some (.lst (rowsL n (nearZ n ps))), some (.int i), o7, o8, some (.int j), o10, some (.int x)], rfl, rfl⟩, fun _ => rfl⟩
      simp -implicitDefEqProofs only [Mi.EVA, Mi.EVB, D.frz, frzs, D.plain, plains, List.length_cons, List.length_nil, List.length_set, Nat.reduceAdd, Nat.reduceLT, Nat.reduceLeDiff, sizeLine_eq, if_true, if_false, List.cons_append, List.nil_append, Option.map_some, Option.bind_some, Int.reduceToNat, Int.reducePow, Int.reduceNeg, Int.reduceEq, Int.reduceLT, Int.reduceLE, Int.reduceAdd, Int.reduceSub, Int.reduceMul, eq_self, Mi.dat, fr2, pl, aj, di]) (by have := nearZ_len (n := n) ps i; have := W.n16; rw [List.length_nil, sizeLine_eq]; omega) rfl
  rw [List.nil_append, List.map_id] at h1
  exact h1
theorem sm_ints {zs : List Int} (h : zs.length ≤ 16) : F_w_same 4 [.tup (zs.map D.int), .tup (zs.map D.int)] = .ok (.bl true) :=
  same_refl 4 _ (Sm.tup (by rw [List.length_map, sizeLine_eq]; omega) fun x hx => by
    obtain ⟨i, _, rfl⟩ := List.mem_map.mp hx
    exact Sm.int)
theorem place_turn {R : D} (hR : R = .own (rowsO n (nearZ n ps)) ∨ R = .lst (rowsL n (nearZ n ps))) {i : Int} (i0 : 0 ≤ i) (i1 : i < n) (z : Int) (o0 o1 o4 o7 o8 o9 o10 : Option D) :
    ∃ (z' : Int) (p9 p10 : Option D), l_law_2 [o0, o1, some (.own [.int z]), some (webD n ps), o4, some R, some (.int i), o7, o8, o9, o10, none] = .nx [o0, o1, some (.own [.int z']), some (webD n ps), o4, some (.lst (rowsL n (nearZ n ps))), some (.int i), o7, o8, p9, p10, none] := by
  have wp := plain_web n ps
  have wf := frz_web n ps
  have w0 := web_ix0 W
  have n1 := W.n1
  have n16 := W.n16
  have an := asked_near W i0 i1
  obtain ⟨j, z', t, j0, j1⟩ := tk z n (by omega) (by omega)
  have s1 := asked_shared W i0 i1 j0 j1
  have s2 := asked_shared W j0 j1 i0 i1
  rw [← shZ_comm W i j] at s2
  have ls := lw_share W i0 i1 j0 j1 o0 o1 (some (.own [.int z'])) (some (webD n ps)) o4 o7 o8 o10
  have dtl : ∀ xs : List D, dTuple (.lst xs) = some (.tup (frzs xs)) := fun _ => rfl
  have fr := frzs_rows n (nearZ n ps)
  have pl := plains_rowsL n (nearZ n ps)
  have fr2 := frzs_plain _ pl
  have ai := rowsL_at (nearZ n ps) i0 i1
  have pi := plains_intsZ (nearZ n ps i)
  have fi := frzs_ints (nearZ n ps i)
  have pj := plains_intsZ (shZ n ps i j)
  have fj := frzs_ints (shZ n ps i j)
  have sm1 := sm_ints W (zs := nearZ n ps i) (Nat.le_trans (nearZ_len ps i) n16)
  have sm2 := sm_ints W (zs := shZ n ps i j) (Nat.le_trans (List.length_filter_le _ _) (Nat.le_trans (nearZ_len ps i) n16))
  refine ⟨z', some (.int j), some (.tup ((shZ n ps i j).map D.int)), ?_⟩
  unfold l_law_2
  generalize (shZ n ps i j).map D.int = SH at *
  generalize (nearZ n ps i).map D.int = NI at *
  generalize rowsL n (nearZ n ps) = RL at *
  generalize webD n ps = X at *
  rcases hR with rfl | rfl
  · simp -implicitDefEqProofs only [Mi.EVA, Mi.EVB, D.frz, frzs, D.plain, plains, List.length_cons, List.length_nil, List.length_set, Nat.reduceAdd, Nat.reduceLT, Nat.reduceLeDiff, sizeLine_eq, if_true, if_false, List.cons_append, List.nil_append, Option.map_some, Option.bind_some, Int.reduceToNat, Int.reducePow, Int.reduceNeg, Int.reduceEq, Int.reduceLT, Int.reduceLE, Int.reduceAdd, Int.reduceSub, Int.reduceMul, eq_self, Mi.dat, wp, wf, w0, an, t, s1, s2, ls, fr, pl, fr2, ai, pi, fi, pj, fj, sm1, sm2, dtl, dTuple_ow]
  · simp -implicitDefEqProofs only [Mi.EVA, Mi.EVB, D.frz, frzs, D.plain, plains, List.length_cons, List.length_nil, List.length_set, Nat.reduceAdd, Nat.reduceLT, Nat.reduceLeDiff, sizeLine_eq, if_true, if_false, List.cons_append, List.nil_append, Option.map_some, Option.bind_some, Int.reduceToNat, Int.reducePow, Int.reduceNeg, Int.reduceEq, Int.reduceLT, Int.reduceLE, Int.reduceAdd, Int.reduceSub, Int.reduceMul, eq_self, Mi.dat, wp, wf, w0, an, t, s1, s2, ls, fr, pl, fr2, ai, pi, fi, pj, fj, sm1, sm2, dtl, dTuple_ow]
end
end Lw

namespace Lw
open PySem PySem.Spec PyProof.Rows L2 Mi
variable [TabsC]
def bads (n : Int) : List D := [.int n, .int (-1), .bl true, .non, .str "0", .tup [.int 0], .int 1000000000000000000000000000000000000000]
theorem bads_no {n : Nat} (h : n ≤ 16) : ∀ d ∈ bads n, dat d = true ∧ btw d 0 ((n : Int) - 1) = false := by
  intro d hd
  simp only [bads, List.mem_cons, List.not_mem_nil, or_false] at hd
  rcases hd with rfl | rfl | rfl | rfl | rfl | rfl | rfl
  · refine ⟨rfl, ?_⟩
    show (decide ((0 : Int) ≤ n) && decide ((n : Int) ≤ (n : Int) - 1)) = false
    rw [decide_eq_false (show ¬ ((n : Int) ≤ (n : Int) - 1) by omega), Bool.and_false]
  · exact ⟨rfl, rfl⟩
  · exact ⟨rfl, rfl⟩
  · exact ⟨rfl, rfl⟩
  · exact ⟨rfl, rfl⟩
  · exact ⟨rfl, rfl⟩
  · refine ⟨rfl, ?_⟩
    show (decide ((0 : Int) ≤ 1000000000000000000000000000000000000000) && decide ((1000000000000000000000000000000000000000 : Int) ≤ (n : Int) - 1)) = false
    rw [decide_eq_false (show ¬ ((1000000000000000000000000000000000000000 : Int) ≤ (n : Int) - 1) by omega), Bool.and_false]
theorem places {n : Nat} {ps : List (List Int)} (W : Web n ps) (z : Int) (o0 o1 o4 o6 o7 o8 o9 o10 : Option D) : ∃ (z' : Int) (R : D) (p6 p9 p10 : Option D),
    mLoop (mgName 6) l_law_2 (rangeD 0 n) [o0, o1, some (.own [.int z]), some (webD n ps), o4, some (.own (rowsO n (nearZ n ps))), o6, o7, o8, o9, o10, none] = .nx [o0, o1, some (.own [.int z']), some (webD n ps), o4, some R, p6, o7, o8, p9, p10, none] := by
  obtain ⟨e', h, z', R, p6, p9, p10, _, rfl⟩ := loop_inv (g := mgName 6) (body := l_law_2) (fun e => ∃ (z' : Int) (R : D) (p6 p9 p10 : Option D), (R = .own (rowsO n (nearZ n ps)) ∨ R = .lst (rowsL n (nearZ n ps))) ∧ e = [o0, o1, some (.own [.int z']), some (webD n ps), o4, some R, p6, o7, o8, p9, p10, none]) (rangeD 0 n) (fun d hd e he => by
    obtain ⟨z, R, p6, p9, p10, hR, rfl⟩ := he
    obtain ⟨i, hi, rfl⟩ := mem_range hd
    obtain ⟨z', q9, q10, ht⟩ := place_turn W hR (i := 0 + (i : Int)) (by omega) (by omega) z o0 o1 o4 o7 o8 p9 p10
    exact ⟨_, _, rfl, ht, z', _, _, q9, q10, .inr rfl, rfl⟩) _ ⟨z, _, o6, o9, o10, .inl rfl, rfl⟩
  exact ⟨z', R, p6, p9, p10, h⟩
theorem told3 : dNe (.lst [.str "! place", .str "! place", .str "! place"]) (.own [.str "! place", .str "! place", .str "! place"]) = some (.bl false) := by kernel_rfl
theorem mul3 : dMul (.own [.str "! place"]) (.int 3) = some (.own [.str "! place", .str "! place", .str "! place"]) := by kernel_rfl
theorem turn (ns : List Int) (hb : ∀ z ∈ ns, Builtin.Int.intBits z ≤ 1048576) (k : Int) (k0 : 0 ≤ k) (k1 : k < 1000) (o2 o3 o4 o5 o6 o7 o8 o9 o10 : Option D) :
    ∃ p2 p3 p4 p5 p6 p7 p8 p9 p10, b_turn [some (.cst (ns.map D.int)), some (.int k), o2, o3, o4, o5, o6, o7, o8, o9, o10, none] = .nx [some (.cst (ns.map D.int)), some (.int k), p2, p3, p4, p5, p6, p7, p8, p9, p10, none] := by
  have hp := plains_ints ns
  have hz := frzs_ints ns
  obtain ⟨z0, vb⟩ := v_box ns k k0 k1 hb
  obtain ⟨z1, n, ps, vw, W, _⟩ := v_web 16 (by omega) (by omega) z0
  have vw : F_w_web [.int z0] [.int 16] = _ := vw
  obtain ⟨z2, ds, vo, hd, dl⟩ := v_others W z1
  have n1 := W.n1
  have n16 := W.n16
  have wT : Th (webD n ps) := th_2 (yo_int n) (yo_T (Nat.le_trans W.len (by decide)))
  have wp := plain_web n ps
  have wf := frz_web n ps
  have w0 := web_ix0 W
  have ad : dAdd (.own [webD n ps]) (.own ds) = some (.own (webD n ps :: ds)) := dAdd_oo (by show 1 + ds.length ≤ _; rw [sizeLine_eq]; omega)
  have pd : plains (webD n ps :: ds) = true := dat_all fun x hx => (List.mem_cons.mp hx).elim (fun e => by rw [e]; exact wT.da) fun h => (hd x h).da
  have fd : frzs (webD n ps :: ds) = webD n ps :: ds := D.tup.inj (frz_plain (.tup _) pd)
  have pds : plains ds = true := dat_all fun x h => (hd x h).da
  have fds : frzs ds = ds := D.tup.inj (frz_plain (.tup _) pds)
  obtain ⟨q4, th⟩ := things W (webD n ps :: ds) (fun x hx => (List.mem_cons.mp hx).elim (fun e => by rw [e]; exact wT) (hd x)) (some (.cst (ns.map D.int))) (some (.int k)) (some (.own [.int z2])) (some (webD n ps)) o4 o5 o6 o7 o8 o9 o10 none
  have sn : small62 (n : Int) := ⟨by omega, by omega⟩
  have en : (n : Int).toNat = n := Int.toNat_natCast n
  have lr := lw_rows W (some (.cst (ns.map D.int))) (some (.int k)) (some (.own [.int z2])) q4 o5 o6 o7 o8 o9 o10
  obtain ⟨z3, R, q6, q9, q10, pl⟩ := places W z2 (some (.cst (ns.map D.int))) (some (.int k)) q4 o6 o7 o8 o9 o10
  obtain ⟨r, z4, t, r0, r7⟩ := tk z3 7 (by decide) (by decide)
  obtain ⟨d, hx, dd, db⟩ := at_mem (xs := bads n) (P := fun d => dat d = true ∧ btw d 0 ((n : Int) - 1) = false) (bads_no n16) r0 (by show r < 7; exact r7)
  have dp := dat_plain dd
  have df := dat_frz dd
  obtain ⟨a1, a2, a3⟩ := asked_no W dd db
  unfold bads at hx
  have p39 := pow39
  have p39n := pow39n
  have td := told3
  have m3 := mul3
  refine ⟨some (.own [.int z4]), some (webD n ps), q4, some R, q6, some d, some (.lst [.str "! place", .str "! place", .str "! place"]), q9, q10, ?_⟩
  unfold l_law_1 at th
  unfold l_law_2 at pl
  unfold b_turn
  generalize rowsO n (nearZ n ps) = RO at *
  generalize hX : webD n ps = X at *
  generalize ns.map D.int = NS at *
  simp -implicitDefEqProofs only [Mi.EVA, Mi.EVB, D.frz, frzs, D.plain, plains, List.length_cons, List.length_nil, List.length_set, Nat.reduceAdd, Nat.reduceLT, Nat.reduceLeDiff, sizeLine_eq, if_true, if_false, List.cons_append, List.nil_append, Option.map_some, Option.bind_some, Int.reduceToNat, Int.reducePow, Int.reduceNeg, Int.reduceEq, Int.reduceLT, Int.reduceLE, Int.reduceAdd, Int.reduceSub, Int.reduceMul, eq_self, Mi.dat, hp, hz, vb, vw, vo, wp, wf, w0, ad, pd, fd, pds, fds, th, sn, en, lr, pl, t, hx, dp, df, a1, a2, a3, p39, p39n, td, m3]
end Lw

namespace Lw
open PySem PySem.Spec PyProof.Rows L2 Mi
variable [TabsC]
theorem law_loop (ns : List Int) (hb : ∀ z ∈ ns, Builtin.Int.intBits z ≤ 1048576) (m : Nat) (hm : m ≤ 4) :
    ∃ e', mLoop (mgName 1) b_turn (rangeD 0 m) [some (.cst (ns.map D.int)), none, none, none, none, none, none, none, none, none, none, none] = .nx e' := by
  obtain ⟨e', h, _⟩ := loop_inv (g := mgName 1) (body := b_turn) (fun e => ∃ o1 o2 o3 o4 o5 o6 o7 o8 o9 o10, e = [some (.cst (ns.map D.int)), o1, o2, o3, o4, o5, o6, o7, o8, o9, o10, none]) (rangeD 0 m) (fun d hd e he => by
    obtain ⟨o1, o2, o3, o4, o5, o6, o7, o8, o9, o10, rfl⟩ := he
    obtain ⟨i, hi, rfl⟩ := mem_range hd
    obtain ⟨p2, p3, p4, p5, p6, p7, p8, p9, p10, ht⟩ := turn ns hb (0 + i) (by omega) (by omega) o2 o3 o4 o5 o6 o7 o8 o9 o10
    exact ⟨_, _, rfl, ht, some (.int (0 + i)), p2, p3, p4, p5, p6, p7, p8, p9, p10, rfl⟩) _ ⟨none, none, none, none, none, none, none, none, none, none, rfl⟩
  exact ⟨e', h⟩
theorem law_true (ns : List Int) (hl : ns.length ≤ 63) (hb : ∀ z ∈ ns, Builtin.Int.intBits z ≤ 1048576) : F_law [.cst (ns.map D.int)] = .ok (.bl true) := by
  have hp := plains_ints ns
  have hz := frzs_ints ns
  obtain ⟨q, eq⟩ : ∃ q : Int, (if (4 : Int) < (ns.length : Int) then (4 : Int) else (ns.length : Int)) = q := ⟨_, rfl⟩
  have gq : 0 ≤ q ∧ q ≤ 4 := by
    rw [← eq]
    by_cases c : (4 : Int) < (ns.length : Int)
    · rw [if_pos c]; omega
    · rw [if_neg c]; omega
  obtain ⟨j, ej⟩ : ∃ j : Int, (if q > 1 then q else 1) = j := ⟨_, rfl⟩
  have gj : 0 ≤ j ∧ j ≤ 4 := by
    rw [← ej]
    by_cases c : q > 1
    · rw [if_pos c]; omega
    · rw [if_neg c]; omega
  have sj : small62 j := ⟨by omega, by omega⟩
  obtain ⟨e', h⟩ := law_loop ns hb j.toNat (by omega)
  unfold b_turn at h
  unfold F_law m_law
  simp -implicitDefEqProofs only [Mi.EVA, Mi.EVB, D.frz, frzs, D.plain, plains, List.length_cons, List.length_nil, List.length_set, Nat.reduceAdd, Nat.reduceLT, Nat.reduceLeDiff, sizeLine_eq, if_true, if_false, List.cons_append, List.nil_append, Option.map_some, Option.bind_some, Int.reduceToNat, Int.reducePow, Int.reduceNeg, Int.reduceEq, Int.reduceLT, Int.reduceLE, Int.reduceAdd, Int.reduceSub, Int.reduceMul, eq_self, Mi.dat, hp, hz, List.length_map, eq, ej, sj, h]
end Lw

open PySem PySem.W PyProof.Rows
set_option maxHeartbeats 0 in
theorem PySem.Challenge.cw_likeshares_k01_webs_and_what_is_near_holds : PySem.Challenge.rw_likeshares_k01_webs_and_what_is_near.Holds := by
  w_on; o_law; k_head; (case hw => w_witness2)
  k_fill
  refine L2.walk_ofB (l := PySem.Challenge.rw_likeshares_k01_webs_and_what_is_near) (n := 63) (k := 6) (x := "_law_script") (CX := fun w => L2N.CX PySem.Challenge.rw_likeshares_k01_webs_and_what_is_near.prog w) (sp := fun w => @Mi.spL ⟨[], 0⟩ _ Lw.F_law) rfl (by decide) rfl ⟨rfl, by decide, by decide⟩ (fun w h Y => PySem.W.kIn_of Y) ?F (fun w H a ns hl hb hO hS => @Mi.end_lawL ⟨[], 0⟩ _ _ _ _ _ (@Lw.law_true ⟨[], 0⟩ ns hl hb) (fun p hp => nomatch hp) hO hS) (fun _ _ _ _ _ h => by
    obtain ⟨_, _, _, _, _, _, _, _, _, _, _, _, q⟩ := h
    exact q)
  case F =>
    intro w mg fa h KX G hmg
    refine' Lw.all_mk KX G hmg ?p_is_whole ?q_is_whole ?r_is_whole ?t_is_whole ?p_are_rising ?q_are_rising ?r_are_rising ?t_are_rising ?p_near_rows ?q_near_rows ?r_near_rows ?t_near_rows ?p_w_cell ?q_w_cell ?r_w_cell ?t_w_cell ?p_w_take ?q_w_take ?r_w_take ?t_w_take ?p_w_whole ?q_w_whole ?r_w_whole ?t_w_whole ?p_w_kind ?q_w_kind ?r_w_kind ?t_w_kind ?p_w_tied ?q_w_tied ?r_w_tied ?t_w_tied ?p_w_known ?q_w_known ?r_w_known ?t_w_known ?p_is_between ?q_is_between ?r_is_between ?t_is_between ?p_near_in ?q_near_in ?r_near_in ?t_near_in ?p_shared_in ?q_shared_in ?r_shared_in ?t_shared_in ?p_w_box ?q_w_box ?r_w_box ?t_w_box ?p_w_odd ?q_w_odd ?r_w_odd ?t_w_odd ?p_w_near ?q_w_near ?r_w_near ?t_w_near ?p_w_order ?q_w_order ?r_w_order ?t_w_order ?p_w_is_web ?q_w_is_web ?r_w_is_web ?t_w_is_web ?p_is_pair ?q_is_pair ?r_is_pair ?t_is_pair ?p_look_at_place ?q_look_at_place ?r_look_at_place ?t_look_at_place ?p_w_web ?q_w_web ?r_w_web ?t_w_web ?p_w_others ?q_w_others ?r_w_others ?t_w_others ?p_is_web ?q_is_web ?r_is_web ?t_is_web ?p_near ?q_near ?r_near ?t_near ?p_shared ?q_shared ?r_shared ?t_shared ?p_w_same ?q_w_same ?r_w_same ?t_w_same ?p_w_asked ?q_w_asked ?r_w_asked ?t_w_asked ?p_law ?q_law ?r_law ?t_law ?c_MOST_PLACES ?l_LikeError ?l_NoPlace ?l_NoLot ?l_NoOrder ?l_NotLike ?l_NoNumbers ?l_NoNumber ?l_NoTable ?l_NoText ?l_NoRow ?l_TooMany ?ex_NoPlace ?ek_NoPlace ?eb_NoPlace ?et_NoPlace ?xg_NoPlace ?xk_NoPlace ?xd_NoPlace ?xa_NoPlace ?xm_NoPlace ?kv_NoPlace ?xn_NoPlace ?xt_NoPlace ?k_NoPlace_NoPlace ?k_NoPlace_NoLot ?k_NoPlace_NoOrder ?k_NoPlace_NotLike ?k_NoPlace_NoNumbers ?k_NoPlace_NoNumber ?k_NoPlace_NoTable ?k_NoPlace_NoText ?k_NoPlace_NoRow ?k_NoPlace_TooMany ?m_NoPlace ?mb ?ic_LikeError ?it_LikeError ?ic_NoLot ?it_NoLot ?ic_NoNumber ?it_NoNumber ?ic_NoNumbers ?it_NoNumbers ?ic_NoOrder ?it_NoOrder ?ic_NoPlace ?it_NoPlace ?ic_NoRow ?it_NoRow ?ic_NoTable ?it_NoTable ?ic_NoText ?it_NoText ?ic_NotLike ?it_NotLike ?ic_TooMany ?it_TooMany ?z_len ?z_isi ?z_all ?z_any ?z_sum ?z_min ?z_max ?z_sorted ?z_range ?z_enum ?z_zip ?z_tuple ?z_list ?z_dict ?z_set ?z_str ?z_int ?z_bool ?z_abs ?z_divmod ?z_repr ?z_verr
    (case p_is_whole => k_is)
    (case q_is_whole => k_is)
    (case r_is_whole => k_is)
    (case t_is_whole => k_is)
    (case p_are_rising => k_is)
    (case q_are_rising => k_is)
    (case r_are_rising => k_is)
    (case t_are_rising => k_is)
    (case p_near_rows => k_is)
    (case q_near_rows => k_is)
    (case r_near_rows => k_is)
    (case t_near_rows => k_is)
    (case p_w_cell => k_is)
    (case q_w_cell => k_is)
    (case r_w_cell => k_is)
    (case t_w_cell => k_is)
    (case p_w_take => k_is)
    (case q_w_take => k_is)
    (case r_w_take => k_is)
    (case t_w_take => k_is)
    (case p_w_whole => k_is)
    (case q_w_whole => k_is)
    (case r_w_whole => k_is)
    (case t_w_whole => k_is)
    (case p_w_kind => k_is)
    (case q_w_kind => k_is)
    (case r_w_kind => k_is)
    (case t_w_kind => k_is)
    (case p_w_tied => k_is)
    (case q_w_tied => k_is)
    (case r_w_tied => k_is)
    (case t_w_tied => k_is)
    (case p_w_known => k_is)
    (case q_w_known => k_is)
    (case r_w_known => k_is)
    (case t_w_known => k_is)
    (case p_is_between => k_is)
    (case q_is_between => k_is)
    (case r_is_between => k_is)
    (case t_is_between => k_is)
    (case p_near_in => k_is)
    (case q_near_in => k_is)
    (case r_near_in => k_is)
    (case t_near_in => k_is)
    (case p_shared_in => k_is)
    (case q_shared_in => k_is)
    (case r_shared_in => k_is)
    (case t_shared_in => k_is)
    (case p_w_box => k_is)
    (case q_w_box => k_is)
    (case r_w_box => k_is)
    (case t_w_box => k_is)
    (case p_w_odd => k_is)
    (case q_w_odd => k_is)
    (case r_w_odd => k_is)
    (case t_w_odd => k_is)
    (case p_w_near => k_is)
    (case q_w_near => k_is)
    (case r_w_near => k_is)
    (case t_w_near => k_is)
    (case p_w_order => k_is)
    (case q_w_order => k_is)
    (case r_w_order => k_is)
    (case t_w_order => k_is)
    (case p_w_is_web => k_is)
    (case q_w_is_web => k_is)
    (case r_w_is_web => k_is)
    (case t_w_is_web => k_is)
    (case p_is_pair => k_is)
    (case q_is_pair => k_is)
    (case r_is_pair => k_is)
    (case t_is_pair => k_is)
    (case p_look_at_place => k_is)
    (case q_look_at_place => k_is)
    (case r_look_at_place => k_is)
    (case t_look_at_place => k_is)
    (case p_w_web => k_is)
    (case q_w_web => k_is)
    (case r_w_web => k_is)
    (case t_w_web => k_is)
    (case p_w_others => k_is)
    (case q_w_others => k_is)
    (case r_w_others => k_is)
    (case t_w_others => k_is)
    (case p_is_web => k_is)
    (case q_is_web => k_is)
    (case r_is_web => k_is)
    (case t_is_web => k_is)
    (case p_near => k_is)
    (case q_near => k_is)
    (case r_near => k_is)
    (case t_near => k_is)
    (case p_shared => k_is)
    (case q_shared => k_is)
    (case r_shared => k_is)
    (case t_shared => k_is)
    (case p_w_same => k_is)
    (case q_w_same => k_is)
    (case r_w_same => k_is)
    (case t_w_same => k_is)
    (case p_w_asked => k_is)
    (case q_w_asked => k_is)
    (case r_w_asked => k_is)
    (case t_w_asked => k_is)
    (case p_law => k_is)
    (case q_law => k_is)
    (case r_law => k_is)
    (case t_law => k_is)
    (case c_MOST_PLACES => k_is)
    (case l_LikeError => k_is)
    (case l_NoPlace => k_is)
    (case l_NoLot => k_is)
    (case l_NoOrder => k_is)
    (case l_NotLike => k_is)
    (case l_NoNumbers => k_is)
    (case l_NoNumber => k_is)
    (case l_NoTable => k_is)
    (case l_NoText => k_is)
    (case l_NoRow => k_is)
    (case l_TooMany => k_is)
    (case ex_NoPlace => k_exc)
    (case ek_NoPlace => k_is)
    (case eb_NoPlace => k_is)
    (case et_NoPlace => k_is)
    (case xg_NoPlace => k_is)
    (case xk_NoPlace => k_is)
    (case xd_NoPlace => k_is)
    (case xa_NoPlace => k_is)
    (case xm_NoPlace => k_is)
    (case kv_NoPlace => k_is)
    (case xn_NoPlace => k_is)
    (case xt_NoPlace => k_is)
    (case k_NoPlace_NoPlace => first | rfl | k_is)
    (case k_NoPlace_NoLot => first | rfl | k_is)
    (case k_NoPlace_NoOrder => first | rfl | k_is)
    (case k_NoPlace_NotLike => first | rfl | k_is)
    (case k_NoPlace_NoNumbers => first | rfl | k_is)
    (case k_NoPlace_NoNumber => first | rfl | k_is)
    (case k_NoPlace_NoTable => first | rfl | k_is)
    (case k_NoPlace_NoText => first | rfl | k_is)
    (case k_NoPlace_NoRow => first | rfl | k_is)
    (case k_NoPlace_TooMany => first | rfl | k_is)
    (case m_NoPlace => k_is)
    (case mb => k_is)
    (case ic_LikeError => k_is)
    (case it_LikeError => k_is)
    (case ic_NoLot => k_is)
    (case it_NoLot => k_is)
    (case ic_NoNumber => k_is)
    (case it_NoNumber => k_is)
    (case ic_NoNumbers => k_is)
    (case it_NoNumbers => k_is)
    (case ic_NoOrder => k_is)
    (case it_NoOrder => k_is)
    (case ic_NoPlace => k_is)
    (case it_NoPlace => k_is)
    (case ic_NoRow => k_is)
    (case it_NoRow => k_is)
    (case ic_NoTable => k_is)
    (case it_NoTable => k_is)
    (case ic_NoText => k_is)
    (case it_NoText => k_is)
    (case ic_NotLike => k_is)
    (case it_NotLike => k_is)
    (case ic_TooMany => k_is)
    (case it_TooMany => k_is)
    (case z_len => k_is)
    (case z_isi => k_is)
    (case z_all => k_is)
    (case z_any => k_is)
    (case z_sum => k_is)
    (case z_min => k_is)
    (case z_max => k_is)
    (case z_sorted => k_is)
    (case z_range => k_is)
    (case z_enum => k_is)
    (case z_zip => k_is)
    (case z_tuple => k_is)
    (case z_list => k_is)
    (case z_dict => k_is)
    (case z_set => k_is)
    (case z_str => k_is)
    (case z_int => k_is)
    (case z_bool => k_is)
    (case z_abs => k_is)
    (case z_divmod => k_is)
    (case z_repr => k_is)
    (case z_verr => k_is)

