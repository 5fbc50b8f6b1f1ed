import PyProof.Rows.All
import HandS.ForMost
import HandS.ForExc
import HandS.CallSlots
import HandS.Lambda
import KE.KNestM
import HandS.HeadHook4
import HandS.TupAny
import HandS.Wide
import HandS.Deep
import HandS.IsInst
import HandS.Style
import HandS.Defaults
import HandS.ExcCtx
import HandS.Head0
import HandS.Head1
import HandS.Head2
import HandS.HeadEnd
import HandS.HeadHook1
import HandS.HeadHook2
import HandS.Property
import HandS.ExcField
import HandS.ExcIs
import KE.KExcInit
import HandS.HeadNt
import HandS.Comp
import HandS.SortInts
import PyProof.ReprRoads
import HandS.Iter
import KE.GoesEnum
import KE.GoesMore
import PyProof.ReprLen
import HandS.Zip
import HandS.Text
import PyProof.CallStr
import HandS.OwnEq
import HandS.WideBits
import PyProof.NoPylong
import HandS.ExcInit
import HandS.ExcOwn
import HandS.TryMany
import PyProof.CallFns
import KE.KEqNest
import HandS.ClsMeth
import KE.KFmtOwn
import PyProof.InstNe
import HandS.TupMul
import PyProof.EqKinds
import PyProof.Walk
import PyProof.WalkLemmas
import PyProof.Rows.Range3
import HandS.SetFor
import HandS.Strs
import HandS.HotCalls
import KE.KTryMore
import HandS.Conv
import KE.KDictPairs
import HandS.Dict
import KE.KDictZip
import KE.KTupSum
import KE.SortKeyHeap
import KE.KDictSum
import HandS.Nested
import KE.SortData
import KE.DataMinMax
import HandS.ExcValue
import KE.KWithOwn
import KE.KIndexOf
import HandS.Finally
import HandS.RaiseOp
import HandS.SuiteRaise
import HandS.DictTup
import HandS.ReplaceLit
import PySem.Challenge.RW_smoothpairs_k06_texts_of_other_kinds_ref
set_option Elab.async false
set_option linter.all false
set_option maxRecDepth 100000
set_option maxHeartbeats 4000000
/-! The D layer, part a: deep data over the tracked heap. -/
namespace DL
open PySem PySem.Spec L2

/-- a value as data: tuples, settled lists and settled instances stand inline -/
inductive D where
  | non | bl (b : Bool) | int (i : Int) | str (s : Str)
  | tup (xs : List D) | lst (xs : List D) | scr (ns : List Int)
  | inst (c : Str) (fn : List Str) (xs : List D) | ref (a : Addr) | cls (c : Str) | ty (n : String) | dct
  /-- a tuple that is known to have no dict; a settled dict of texts -/
  | ptp (xs : List D) | dcs (ks : List Str) (xs : List D)
  /-- a settled dict with tuples of numbers and texts as keys -/
  | dts (ks : List (List Key)) (xs : List D)
  /-- a tuple that is no settled one (it may be the key of a dict) -/
  | ltp (xs : List D)
  /-- an own error as a value: its class, its attributes -/
  | exc (c : Str) (fn : List Str) (xs : List D)
/-- a written lambda without parameters: its def's name, its text, the names that it captures -/
structure LamD where
  qual : Str
  params : Arguments
  body : Expr
  scope : Scope
  fr : List Str
/-- what may still change -/
inductive MO where
  | lst (xs : List D)
  | ins (c : Str) (fs : List (Str × D))
  | dK (kvs : List (Key × D)) | dT (kvs : List (List Key × D))
  /-- a cell that a function captured; such a function, its cells -/
  | cel (d : D) | clo (L : LamD) (cs : List Addr)
abbrev Mp := Addr → Option MO
def um (M : Mp) (a : Addr) (o : MO) : Mp := fun b => if b = a then some o else M b
def dm (M : Mp) (a : Addr) : Mp := fun b => if b = a then none else M b
@[simp] theorem um_same (M : Mp) (a : Addr) (o : MO) : um M a o a = some o := by simp [um]
theorem um_ne {M : Mp} {a b : Addr} {o : MO} (h : b ≠ a) : um M a o b = M b := by simp [um, h]
@[simp] theorem um_um (M : Mp) (a : Addr) (o u : MO) : um (um M a o) a u = um M a u := by
  funext b; by_cases h : b = a <;> simp [um, h]
@[simp] theorem dm_same (M : Mp) (a : Addr) : dm M a a = none := by simp [dm]
theorem dm_ne {M : Mp} {a b : Addr} (h : b ≠ a) : dm M a b = M b := by simp [dm, h]
theorem dm_um {M : Mp} {a : Addr} {o : MO} (h : M a = none) : dm (um M a o) a = M := by
  funext b
  by_cases q : b = a
  · rw [q, dm_same, h]
  · rw [dm_ne q, um_ne q]
theorem mo_ne {M : Mp} {a b : Addr} {o : MO} (h : M a = some o) (h' : M b = none) : a ≠ b := by
  intro e; subst e; rw [h] at h'; cases h'
/-- less is told -/
def MLe (M M' : Mp) : Prop := ∀ a o, M a = some o → M' a = some o
theorem MLe.rfl' {M : Mp} : MLe M M := fun _ _ h => h
theorem MLe.trans {M M1 M2 : Mp} (a : MLe M M1) (b : MLe M1 M2) : MLe M M2 := fun c o h => b c o (a c o h)
theorem MLe.um {M : Mp} {p : Addr} {o : MO} (h : M p = none) : MLe M (um M p o) := fun a u e => by
  rw [um_ne (mo_ne e h)]; exact e
theorem MLe.none {M M' : Mp} (l : MLe M M') {a : Addr} (h : M' a = none) : M a = none := by
  cases e : M a with
  | none => rfl
  | some o => rw [l a o e] at h; cases h

/-- at e: an error of the class at C, its dict (none | at d) -/
def exV (e C : Addr) (d : Option Addr) : HO := .ext fun h => ∃ (oe : Obj) (fv : Array Value), h.get? e = some oe ∧ oe.cls = .ref C ∧ oe.dict = d ∧ oe.data = .fields fv
theorem exV_tbl (e C : Addr) (d : Option Addr) (ps : Array Value) : exV e C d ≠ .tbl ps := fun z => by unfold exV at z; cases z
/-- at a: a tuple, maybe one that is known for good to have no dict -/
def TupH (H : Hp) (a : Addr) (vs : List V) : Prop := H a = some (.tup vs) ∨ ∃ o : Obj, H a = some (.frz o (.tup vs)) ∧ o.dict = none
theorem TupH.sq {K : PySem.W.Frag} {H : Hp} {a : Addr} {vs : List V} (h : TupH H a vs) : SqT K H a vs := by
  rcases h with h | ⟨o, h, _⟩
  · exact .inl (.inl h)
  · exact .inl (.inr ⟨o, h⟩)
theorem TupH.of {H : Hp} {a : Addr} {vs : List V} (h : H a = some (.tup vs)) : TupH H a vs := .inl h
section
variable (K : PySem.W.Frag) (mg : Str → Option Value) (M : Mp) (H : Hp)
mutual
def RepV : D → V → Prop
  | .non, v => v = .non
  | .bl b, v => v = .bl b
  | .int i, v => v = .int i
  | .str s, v => v = .str s
  | .tup xs, v => ∃ a vs, v = .ref a ∧ M a = none ∧ TupH H a vs ∧ RepVs xs vs
  | .lst xs, v => ∃ a vs, v = .ref a ∧ M a = none ∧ H a = some (.lst vs) ∧ RepVs xs vs
  | .scr ns, v => ∃ a, v = .ref a ∧ ((M a = none ∧ Rd H a (.lst (ns.map V.int))) ∨ SqL K (fun _ => none) a (ns.map V.int))
  | .inst c fn xs, v => ∃ a C dx fs, v = .ref a ∧ M a = none ∧ mg c = some (.ref C) ∧ H a = some (.ins C dx fs) ∧ fs.map (·.1) = fn ∧ RepVs xs (fs.map (·.2))
  | .ref a, v => v = .ref a
  | .cls c, v => ∃ C, v = .ref C ∧ mg c = some (.ref C)
  | .ty n, v => v = .ty n
  | .dct, v => ∃ a, v = .ref a ∧ M a = none ∧ H a = some (.dK [])
  | .ltp xs, v => ∃ a vs, v = .ref a ∧ M a = none ∧ H a = some (.tup vs) ∧ RepVs xs vs
  | .ptp xs, v => ∃ a vs o, v = .ref a ∧ M a = none ∧ H a = some (.frz o (.tup vs)) ∧ o.dict = none ∧ RepVs xs vs
  | .dcs ks xs, v => ∃ a kvs o, v = .ref a ∧ M a = none ∧ H a = some (.frz o (.dK kvs)) ∧ kvs.map (·.1) = ks.map Sum.inr ∧ RepVs xs (kvs.map (·.2))
  | .dts ks xs, v => ∃ a kvs o, v = .ref a ∧ M a = none ∧ H a = some (.frz o (.dT kvs)) ∧ kvs.map (·.1) = ks ∧ RepVs xs (kvs.map (·.2))
  | .exc c fn xs, v => ∃ a C, v = .ref a ∧ M a = none ∧ mg c = some (.ref C) ∧ ∃ d gs, H a = some (exV a C d) ∧ ((d = none ∧ gs = []) ∨ ∃ dx, d = some dx ∧ M dx = none ∧ H dx = some (.xd gs)) ∧ gs.map (·.1) = fn ∧ RepVs xs (gs.map (·.2))
def RepVs : List D → List V → Prop
  | [], vs => vs = []
  | d :: ds, vs => ∃ v vr, vs = v :: vr ∧ RepV d v ∧ RepVs ds vr
end
end

/-- all that is not told in M stays, but tables of code objects, which grow -/
structure Keep (M : Mp) (H : Hp) (M' : Mp) (H' : Hp) : Prop where
  k0 : ∀ b o, H b = some o → (∀ ps, o ≠ HO.tbl ps) → M b = none → H' b = some o ∧ M' b = none
theorem Keep.k {M M' : Mp} {H H' : Hp} (x : Keep M H M' H') (b : Addr) (o : HO) (h : H b = some o) (n : M b = none) (ht : ∀ ps, o ≠ HO.tbl ps := by intro _ z; cases z) : H' b = some o ∧ M' b = none := x.k0 b o h ht n
theorem Keep.rfl' {M : Mp} {H : Hp} : Keep M H M H := ⟨fun _ _ h _ n => ⟨h, n⟩⟩
theorem Keep.trans {M M1 M2 : Mp} {H H1 H2 : Hp} (a : Keep M H M1 H1) (b : Keep M1 H1 M2 H2) : Keep M H M2 H2 :=
  ⟨fun c o h t n => let ⟨x, y⟩ := a.k0 c o h t n; b.k0 c o x t y⟩
theorem Keep.less {M M1 M0 : Mp} {H H1 : Hp} (a : Keep M H M1 H1) (l : MLe M0 M1) : Keep M H M0 H1 :=
  ⟨fun c o h t n => let ⟨x, y⟩ := a.k0 c o h t n; ⟨x, l.none y⟩⟩

theorem TupH.keep {M M' : Mp} {H H' : Hp} {a : Addr} {vs : List V} (h : TupH H a vs) (k : Keep M H M' H') (n : M a = none) : TupH H' a vs ∧ M' a = none := by
  rcases h with h | ⟨o, h, d⟩
  · exact ⟨.inl (k.k _ _ h n).1, (k.k _ _ h n).2⟩
  · exact ⟨.inr ⟨o, (k.k _ _ h n).1, d⟩, (k.k _ _ h n).2⟩
section
variable {K : PySem.W.Frag} {mg : Str → Option Value} {M M' : Mp} {H H' : Hp}
mutual
theorem RepV.keep (k : Keep M H M' H') : ∀ (d : D) (v : V), RepV K mg M H d v → RepV K mg M' H' d v
  | .non, v, h => by unfold RepV at *; exact h
  | .bl b, v, h => by unfold RepV at *; exact h
  | .int i, v, h => by unfold RepV at *; exact h
  | .str s, v, h => by unfold RepV at *; exact h
  | .tup xs, v, h => by
    unfold RepV at *
    obtain ⟨a, vs, e, n, ha, r⟩ := h
    rcases ha with ha | ⟨o, ha, hd⟩
    · exact ⟨a, vs, e, (k.k _ _ ha n).2, .inl (k.k _ _ ha n).1, RepVs.keep k xs vs r⟩
    · exact ⟨a, vs, e, (k.k _ _ ha n).2, .inr ⟨o, (k.k _ _ ha n).1, hd⟩, RepVs.keep k xs vs r⟩
  | .lst xs, v, h => by
    unfold RepV at *
    obtain ⟨a, vs, e, n, ha, r⟩ := h
    exact ⟨a, vs, e, (k.k _ _ ha n).2, (k.k _ _ ha n).1, RepVs.keep k xs vs r⟩
  | .scr ns, v, h => by
    unfold RepV at *
    obtain ⟨a, e, r⟩ := h
    refine ⟨a, e, ?_⟩
    rcases r with ⟨n, r | ⟨o, r⟩⟩ | r
    · exact .inl ⟨(k.k _ _ r n).2, .inl (k.k _ _ r n).1⟩
    · exact .inl ⟨(k.k _ _ r n).2, .inr ⟨o, (k.k _ _ r n).1⟩⟩
    · exact .inr r
  | .inst c fn xs, v, h => by
    unfold RepV at *
    obtain ⟨a, C, dx, fs, e, n, hc, ha, hf, r⟩ := h
    exact ⟨a, C, dx, fs, e, (k.k _ _ ha n).2, hc, (k.k _ _ ha n).1, hf, RepVs.keep k xs _ r⟩
  | .ref a, v, h => by unfold RepV at *; exact h
  | .cls c, v, h => by unfold RepV at *; exact h
  | .ty c, v, h => by unfold RepV at *; exact h
  | .dct, v, h => by
    unfold RepV at *
    obtain ⟨a, e, n, ha⟩ := h
    exact ⟨a, e, (k.k _ _ ha n).2, (k.k _ _ ha n).1⟩
  | .ltp xs, v, h => by
    unfold RepV at *
    obtain ⟨a, vs, e, n, ha, r⟩ := h
    exact ⟨a, vs, e, (k.k _ _ ha n).2, (k.k _ _ ha n).1, RepVs.keep k xs vs r⟩
  | .ptp xs, v, h => by
    unfold RepV at *
    obtain ⟨a, vs, o, e, n, ha, hd, r⟩ := h
    exact ⟨a, vs, o, e, (k.k _ _ ha n).2, (k.k _ _ ha n).1, hd, RepVs.keep k xs vs r⟩
  | .dcs ks xs, v, h => by
    unfold RepV at *
    obtain ⟨a, kvs, o, e, n, ha, hf, r⟩ := h
    exact ⟨a, kvs, o, e, (k.k _ _ ha n).2, (k.k _ _ ha n).1, hf, RepVs.keep k xs _ r⟩
  | .dts ks xs, v, h => by
    unfold RepV at *
    obtain ⟨a, kvs, o, e, n, ha, hf, r⟩ := h
    exact ⟨a, kvs, o, e, (k.k _ _ ha n).2, (k.k _ _ ha n).1, hf, RepVs.keep k xs _ r⟩
  | .exc c fn xs, v, h => by
    unfold RepV at *
    obtain ⟨a, C, e, n, hc, d, gs, ha, hd, hf, r⟩ := h
    refine ⟨a, C, e, (k.k _ _ ha n (exV_tbl a C d)).2, hc, d, gs, (k.k _ _ ha n (exV_tbl a C d)).1, ?_, hf, RepVs.keep k xs _ r⟩
    rcases hd with hd | ⟨dx, e1, n1, h1⟩
    · exact .inl hd
    · exact .inr ⟨dx, e1, (k.k _ _ h1 n1).2, (k.k _ _ h1 n1).1⟩
theorem RepVs.keep (k : Keep M H M' H') : ∀ (ds : List D) (vs : List V), RepVs K mg M H ds vs → RepVs K mg M' H' ds vs
  | [], vs, h => by unfold RepVs at *; exact h
  | d :: ds, vs, h => by
    unfold RepVs at *
    obtain ⟨v, vr, e, r, rs⟩ := h
    exact ⟨v, vr, e, RepV.keep k d v r, RepVs.keep k ds vr rs⟩
end
end
end DL
/-! The D layer, part b: states, judgements. -/
namespace DL
open PySem PySem.Spec L2

/-- the tables of the written defs' code objects, with the name of the lambdas that they tell -/
def tlF (K : PySem.W.Frag) (q : Addr × Obj) : Option (Addr × Str) := match q.2.data with
  | .func fd => (match fd.code with
    | .ref c => if (PySem.W.codeHdIn K c (He.tabOf K c) && (K.lookup (He.tabOf K c)).isNone) = true then some (He.tabOf K c, (fd.qualname ++ ".<locals>.") ++ "<lambda>") else none
    | _ => none)
  | _ => none
def tlOf (K : PySem.W.Frag) : List (Addr × Str) := K.filterMap (tlF K)
/-- oc is a code object at c of the name q, P is its table -/
def CodeOb (oc : Obj) (q : Str) (P c : Addr) : Prop :=
  ∃ vs file tf flags tg inF text tt t, oc.cls = .type "code" ∧ oc.data = .fields vs ∧ vs[11]? = some (.ref P) ∧ vs.getD 11 .none = .ref P ∧ vs.getD 18 .none = .str file tf ∧
    vs.getD 7 .none = .int flags tg ∧ vs.getD 9 .none = .bool inF ∧ vs.getD 10 .none = .int text tt ∧ c ≠ P ∧ vs[1]? = some (.str q t)
theorem CodeOb.hd {oc : Obj} {q : Str} {P c : Addr} {h : Heap} (x : CodeOb oc q P c) (e : h.get? c = some oc) : PySem.W.CodeHd h c P := by
  obtain ⟨vs, file, tf, flags, tg, inF, text, tt, t, a1, a2, a3, a4, a5, a6, a7, a8, a9, a10⟩ := x
  exact ⟨oc, vs, file, tf, flags, tg, inF, text, tt, e, a1, a2, a3, a4, a5, a6, a7, a8, a9⟩
theorem CodeOb.of {q : Str} {P c : Addr} {h : Heap} (x : PySem.W.CodeHd h c P) (r : h.CodeRec (.ref c) q) : ∃ oc, h.get? c = some oc ∧ CodeOb oc q P c := by
  obtain ⟨oc, vs, file, tf, flags, tg, inF, text, tt, e, a1, a2, a3, a4, a5, a6, a7, a8, a9⟩ := x
  obtain ⟨c2, o2, vs2, t, e2, g, hd, hv⟩ := r
  cases e2
  rw [e] at g
  cases g
  rw [a2] at hd
  cases hd
  exact ⟨oc, e, vs, file, tf, flags, tg, inF, text, tt, t, a1, a2, a3, a4, a5, a6, a7, a8, a9, hv⟩
theorem CodeOb.uniq {oc : Obj} {q q2 : Str} {P P2 c c2 : Addr} (x : CodeOb oc q P c) (y : CodeOb oc q2 P2 c2) : q = q2 ∧ P = P2 := by
  obtain ⟨vs, _, _, _, _, _, _, _, t, a1, a2, a3, _, _, _, _, _, _, a10⟩ := x
  obtain ⟨vs2, _, _, _, _, _, _, _, t2, b1, b2, b3, _, _, _, _, _, _, b10⟩ := y
  rw [a2] at b2
  cases b2
  rw [a3] at b3
  rw [a10] at b10
  cases b3
  cases b10
  exact ⟨rfl, rfl⟩
/-- the object at c is known to be a code object of the name q with its table at P -/
def IsCode (H : Hp) (c : Addr) (q : Str) (P : Addr) : Prop := ∃ oc, H c = some (.frz oc (.own c)) ∧ CodeOb oc q P c
theorem IsCode.frz {H : Hp} {c P : Addr} {q : Str} (x : IsCode H c q P) : ∃ oc vs, H c = some (.frz oc (.own c)) ∧ oc.data = .fields vs := by
  obtain ⟨oc, e, vs, _, _, _, _, _, _, _, _, _, a2, _⟩ := x
  exact ⟨oc, vs, e, a2⟩
/-- an object that is no code object, as it is told of at p -/
def NoCode (p : Addr) (o : HO) : Prop := ∀ oc, o = .frz oc (.own p) → ∀ q P, ¬ CodeOb oc q P p
theorem NoCode.data {p : Addr} {oc : Obj} (h : ∀ vs, oc.data ≠ .fields vs) : NoCode p (.frz oc (.own p)) := fun oc' e q P x => by
  cases e
  obtain ⟨vs, _, _, _, _, _, _, _, _, _, a2, _⟩ := x
  exact h vs a2
theorem NoCode.at {p : Addr} {o : HO} {H : Hp} (h : NoCode p o) (e : H p = some o) {q : Str} {P : Addr} : ¬ IsCode H p q P := fun ⟨oc, e', x⟩ => by
  rw [e] at e'
  cases e'
  exact h oc rfl q P x
/-- the name of the lambdas that a code object of the name q makes -/
def lamNm (q : Str) : Str := (q ++ ".<locals>.") ++ "<lambda>"
def TabN (nm : Addr → Str) (H : Hp) (P : Addr) : Prop := ∃ ps : Array Value, H P = some (.tbl ps) ∧ TriplesOk ps.toList ∧ ∀ (pos : Pos) (cv : Value), codeAmong pos ps.toList = some cv → ∃ c P', cv = .ref c ∧ IsCode H c (nm P) P'
/-- all tables: those of T, and each code object's own -/
def TabsN (T : List (Addr × Str)) (H : Hp) : Prop := ∃ nm : Addr → Str, (∀ p ∈ T, nm p.1 = p.2 ∧ TabN nm H p.1) ∧ ∀ c q P, IsCode H c q P → nm P = lamNm q ∧ TabN nm H P
theorem TabN.of {nm : Addr → Str} {H H' : Hp} {P : Addr} (x : TabN nm H P) (hP : ∀ ps, H P = some (.tbl ps) → H' P = some (.tbl ps)) (hc : ∀ c oc u, H c = some (.frz oc u) → (∃ vs, oc.data = .fields vs) → H' c = some (.frz oc u)) : TabN nm H' P := by
  obtain ⟨ps, e1, e2, e3⟩ := x
  refine ⟨ps, hP _ e1, e2, fun pos cv h => ?_⟩
  obtain ⟨c, P', e4, oc, e5, e6⟩ := e3 pos cv h
  obtain ⟨vs, _, _, _, _, _, _, _, _, _, d, _⟩ := id e6
  exact ⟨c, P', e4, oc, hc _ _ _ e5 ⟨vs, d⟩, e6⟩
theorem lookup_fst {T : List (Addr × Str)} (h : (T.map (·.1)).Nodup) : ∀ p ∈ T, T.lookup p.1 = some p.2 := by
  induction T with
  | nil => intro p hp; cases hp
  | cons t T ih =>
    simp only [List.map_cons, List.nodup_cons] at h
    intro p hp
    rw [List.lookup_cons]
    rcases List.mem_cons.mp hp with rfl | hp'
    · simp
    · have : (p.1 == t.1) = false := by
        refine beq_false_of_ne fun z => h.1 ?_
        rw [← z]
        exact List.mem_map.mpr ⟨_, hp', rfl⟩
      rw [this]
      exact ih h.2 p hp'
/-- empty tables, and no code object known -/
theorem TabsN.start {T : List (Addr × Str)} {H : Hp} (nd : (T.map (·.1)).Nodup) (h : ∀ p ∈ T, H p.1 = some (.tbl #[])) (hn : ∀ b oc, H b ≠ some (.frz oc (.own b))) : TabsN T H :=
  ⟨fun b => (T.lookup b).getD "", fun p hp => ⟨by show (T.lookup p.1).getD "" = p.2; rw [lookup_fst nd p hp]; rfl, #[], h p hp, True.intro, fun pos cv hc => by
    have z : codeAmong pos [] = some cv := hc
    simp [codeAmong] at z⟩, fun c q P ⟨oc, e, _⟩ => absurd e (hn c oc)⟩
/-- the objects are others, but the tables and the code objects are the same -/
theorem TabsN.of {T : List (Addr × Str)} {H H' : Hp} (t : TabsN T H) (hP : ∀ P ps, H P = some (.tbl ps) → H' P = some (.tbl ps)) (hc : ∀ c oc u, H c = some (.frz oc u) → (∃ vs, oc.data = .fields vs) → H' c = some (.frz oc u)) (hb : ∀ c q P, IsCode H' c q P → IsCode H c q P) : TabsN T H' := by
  obtain ⟨nm, h1, h2⟩ := t
  exact ⟨nm, fun p hp => ⟨(h1 p hp).1, (h1 p hp).2.of (hP _) hc⟩, fun c q P x => ⟨(h2 c q P (hb c q P x)).1, (h2 c q P (hb c q P x)).2.of (hP _) hc⟩⟩
theorem Tabs.newD {T : List (Addr × Str)} {H : Hp} {p : Addr} {o : HO} (t : TabsN T H) (n : H p = none) (nc : NoCode p o) : TabsN T (upd H p o) :=
  t.of (fun P ps e => by rw [upd_ne (ne_of_none e n)]; exact e) (fun c oc u e _ => by rw [upd_ne (ne_of_none e n)]; exact e) fun c q P x => by
    obtain ⟨oc, e, y⟩ := x
    by_cases z : c = p
    · subst z
      exact absurd ⟨oc, e, y⟩ (nc.at upd_same)
    · rw [upd_ne z] at e
      exact ⟨oc, e, y⟩
theorem Tabs.writeD {T : List (Addr × Str)} {H : Hp} {p : Addr} {o u : HO} (t : TabsN T H) (h : H p = some u) (h1 : ∀ ps, u ≠ .tbl ps) (h2 : ∀ oc v, u = .frz oc v → ∀ vs, oc.data ≠ .fields vs) (nc : NoCode p o) : TabsN T (upd H p o) :=
  t.of (fun P ps e => by rw [upd_ne fun z => by rw [z, h] at e; exact h1 ps (Option.some.inj e)]; exact e) (fun c oc v e d => by
    rw [upd_ne fun z => ?_]
    · exact e
    · rw [z, h] at e
      obtain ⟨vs, d⟩ := d
      exact h2 oc v (Option.some.inj e) vs d) fun c q P x => by
    obtain ⟨oc, e, y⟩ := x
    by_cases z : c = p
    · subst z
      exact absurd ⟨oc, e, y⟩ (nc.at upd_same)
    · rw [upd_ne z] at e
      exact ⟨oc, e, y⟩
section
variable (K : PySem.W.Frag) (mg : Str → Option Value) (M : Mp) (H : Hp)
def RepF (fs : List (Str × D)) (gs : List (Str × V)) : Prop := gs.map (·.1) = fs.map (·.1) ∧ RepVs K mg M H (fs.map (·.2)) (gs.map (·.2))
def RepK {κ : Type} (fs : List (κ × D)) (gs : List (κ × V)) : Prop := gs.map (·.1) = fs.map (·.1) ∧ RepVs K mg M H (fs.map (·.2)) (gs.map (·.2))
/-- how the captured cells lie -/
structure ClW (L : LamD) (cl : List (Str × Addr)) (cs : List Addr) : Prop where
  len : cs.length = L.fr.length
  at_ : ∀ (i : Nat) (y : Str), L.fr[i]? = some y → ∃ c, cs[i]? = some c ∧ cl.lookup y = some c
  all : ∀ y c, cl.lookup y = some c → c ∈ cs
  inj : ∀ x y c, cl.lookup x = some c → cl.lookup y = some c → x = y
def RepO (a : Addr) : MO → Prop
  | .lst ds => ∃ vs, H a = some (.lst vs) ∧ RepVs K mg M H ds vs
  | .ins c fs => ∃ C dx gs, mg c = some (.ref C) ∧ H a = some (.ins C dx gs) ∧ RepF K mg M H fs gs
  | .dK kvs => ∃ ws, H a = some (.dK ws) ∧ RepK K mg M H kvs ws
  | .dT kvs => ∃ ws, H a = some (.dT ws) ∧ RepK K mg M H kvs ws
  | .cel d => ∃ oc v u, H a = some (.frz oc (.own a)) ∧ oc.data = .cell (some u) ∧ L2.RelV v u ∧ RepV K mg M H d v
  | .clo L cs => ∃ pm ctv c' cl, H a = some (.frz (PySem.W.kla_obj "<lambda>" L.qual L.params L.body L.scope cl pm c' ctv) (.own a)) ∧ M c' = none ∧ (∃ P', IsCode H c' L.qual P') ∧ ClW L cl cs
structure RepM : Prop where
  at_ : ∀ a o, M a = some o → RepO K mg M H a o
  tab : TabsN (tlOf K) H
instance : CoeFun (RepM K mg M H) (fun _ => ∀ a o, M a = some o → RepO K mg M H a o) := ⟨RepM.at_⟩
abbrev Rho := List (Option D)
def RepS (ρ : Rho) (σ : St) : Prop := ρ.length = σ.length ∧ ∀ (i : Nat) (d : D), ρ[i]? = some (some d) → ∃ v, σ[i]? = some (some v) ∧ RepV K mg M H d v
end

section
variable {K : PySem.W.Frag} {mg : Str → Option Value} {M M' M0 : Mp} {H H' H0 : Hp} {ρ : Rho} {σ : St}
theorem RepF.keep (k : Keep M H M' H') {fs : List (Str × D)} {gs : List (Str × V)} (h : RepF K mg M H fs gs) : RepF K mg M' H' fs gs := ⟨h.1, RepVs.keep k _ _ h.2⟩
theorem RepK.keep {κ : Type} (k : Keep M H M' H') {fs : List (κ × D)} {gs : List (κ × V)} (h : RepK K mg M H fs gs) : RepK K mg M' H' fs gs := ⟨h.1, RepVs.keep k _ _ h.2⟩
theorem RepS.keep (k : Keep M H M' H') (h : RepS K mg M H ρ σ) : RepS K mg M' H' ρ σ :=
  ⟨h.1, fun i d e => let ⟨v, e1, r⟩ := h.2 i d e; ⟨v, e1, RepV.keep k d v r⟩⟩
theorem RepVs.length : ∀ {ds : List D} {vs : List V}, RepVs K mg M H ds vs → ds.length = vs.length
  | [], vs, h => by unfold RepVs at h; subst h; rfl
  | d :: ds, vs, h => by
    unfold RepVs at h
    obtain ⟨v, vr, rfl, _, r⟩ := h
    simp [RepVs.length r]
theorem RepVs.get : ∀ {ds : List D} {vs : List V} {i : Nat} {d : D}, RepVs K mg M H ds vs → ds[i]? = some d → ∃ v, vs[i]? = some v ∧ RepV K mg M H d v
  | [], _, _, _, _, e => by simp at e
  | x :: ds, vs, i, d, h, e => by
    unfold RepVs at h
    obtain ⟨v, vr, rfl, r, rs⟩ := h
    cases i with
    | zero => simp at e; subst e; exact ⟨v, rfl, r⟩
    | succ i => simpa using RepVs.get rs (by simpa using e)
theorem RepVs.append : ∀ {ds es : List D} {vs ws : List V}, RepVs K mg M H ds vs → RepVs K mg M H es ws → RepVs K mg M H (ds ++ es) (vs ++ ws)
  | [], es, vs, ws, h, h' => by unfold RepVs at h; subst h; simpa using h'
  | x :: ds, es, vs, ws, h, h' => by
    unfold RepVs at h
    obtain ⟨v, vr, rfl, r, rs⟩ := h
    show RepVs K mg M H (x :: (ds ++ es)) (v :: (vr ++ ws))
    unfold RepVs
    exact ⟨v, _, rfl, r, RepVs.append rs h'⟩
theorem RepVs.take : ∀ (n : Nat) {ds : List D} {vs : List V}, RepVs K mg M H ds vs → RepVs K mg M H (ds.take n) (vs.take n)
  | 0, ds, vs, h => by simp [RepVs]
  | n + 1, [], vs, h => by unfold RepVs at h; subst h; simp [RepVs]
  | n + 1, x :: ds, vs, h => by
    unfold RepVs at h
    obtain ⟨v, vr, rfl, r, rs⟩ := h
    show RepVs K mg M H (x :: ds.take n) (v :: vr.take n)
    unfold RepVs
    exact ⟨v, _, rfl, r, RepVs.take n rs⟩
theorem RepVs.drop : ∀ (n : Nat) {ds : List D} {vs : List V}, RepVs K mg M H ds vs → RepVs K mg M H (ds.drop n) (vs.drop n)
  | 0, ds, vs, h => by simpa using h
  | n + 1, [], vs, h => by unfold RepVs at h; subst h; simp [RepVs]
  | n + 1, x :: ds, vs, h => by
    unfold RepVs at h
    obtain ⟨v, vr, rfl, r, rs⟩ := h
    simpa using RepVs.drop n rs
theorem RepVs.set : ∀ (n : Nat) {ds : List D} {vs : List V} {d : D} {v : V}, RepV K mg M H d v → RepVs K mg M H ds vs → RepVs K mg M H (ds.set n d) (vs.set n v)
  | n, [], vs, d, v, r, h => by unfold RepVs at h; subst h; simp [RepVs]
  | 0, x :: ds, vs, d, v, r, h => by
    unfold RepVs at h
    obtain ⟨_, vr, rfl, _, rs⟩ := h
    show RepVs K mg M H (d :: ds) (v :: vr)
    unfold RepVs
    exact ⟨v, vr, rfl, r, rs⟩
  | n + 1, x :: ds, vs, d, v, r, h => by
    unfold RepVs at h
    obtain ⟨w, vr, rfl, r', rs⟩ := h
    show RepVs K mg M H (x :: ds.set n d) (w :: vr.set n v)
    unfold RepVs
    exact ⟨w, _, rfl, r', RepVs.set n r rs⟩
theorem RepVs.ints : ∀ (ns : List Int), RepVs K mg M H (ns.map D.int) (ns.map V.int)
  | [] => by simp [RepVs]
  | n :: ns => by
    show RepVs K mg M H (D.int n :: ns.map D.int) (V.int n :: ns.map V.int)
    unfold RepVs
    exact ⟨_, _, rfl, by simp [RepV], RepVs.ints ns⟩
theorem RepVs.nil : RepVs K mg M H [] [] := by simp [RepVs]
theorem RepVs.cons {d : D} {v : V} {ds : List D} {vs : List V} (r : RepV K mg M H d v) (rs : RepVs K mg M H ds vs) : RepVs K mg M H (d :: ds) (v :: vs) := by
  unfold RepVs; exact ⟨v, vs, rfl, r, rs⟩
theorem RepM.free (h : RepM K mg M H) {a : Addr} (n : H a = none) : M a = none := by
  cases e : M a with
  | none => rfl
  | some o =>
    have q := h a o e
    cases o with
    | lst ds => obtain ⟨vs, q, _⟩ := q; rw [n] at q; cases q
    | ins c fs => obtain ⟨C, dx, gs, _, q, _⟩ := q; rw [n] at q; cases q
    | dK kvs => obtain ⟨ws, q, _⟩ := q; rw [n] at q; cases q
    | dT kvs => obtain ⟨ws, q, _⟩ := q; rw [n] at q; cases q
    | cel d => obtain ⟨_, _, _, q, _⟩ := q; rw [n] at q; cases q
    | clo L cs => obtain ⟨_, _, _, _, q, _⟩ := q; rw [n] at q; cases q
/-- a new object that is not told of -/
theorem Keep.new {p : Addr} {o : HO} (h : RepM K mg M H) (n : H p = none) : Keep M H M (upd H p o) :=
  ⟨fun b u e _ m => ⟨by rw [upd_ne (ne_of_none e n)]; exact e, m⟩⟩
theorem Keep.newM {p : Addr} {o : HO} {u : MO} (h : RepM K mg M H) (n : H p = none) : Keep M H (um M p u) (upd H p o) :=
  ⟨fun b w e _ m => ⟨by rw [upd_ne (ne_of_none e n)]; exact e, by rw [um_ne (ne_of_none e n)]; exact m⟩⟩
/-- what is told of is written -/
theorem Keep.write {p : Addr} {o : HO} {u w : MO} (e : M p = some w) : Keep M H (um M p u) (upd H p o) :=
  ⟨fun b x hb _ m => by
    have ne : b ≠ p := fun z => by subst z; rw [e] at m; cases m
    exact ⟨by rw [upd_ne ne]; exact hb, by rw [um_ne ne]; exact m⟩⟩
theorem RepO.keep (k : Keep M H M' H') {a : Addr} {o : MO} (ha : H' a = H a) (h : RepO K mg M H a o) : RepO K mg M' H' a o := by
  cases o with
  | lst ds => obtain ⟨vs, q, r⟩ := h; exact ⟨vs, ha.trans q, RepVs.keep k _ _ r⟩
  | ins c fs => obtain ⟨C, dx, gs, hc, q, r⟩ := h; exact ⟨C, dx, gs, hc, ha.trans q, r.keep k⟩
  | dK kvs => obtain ⟨ws, q, r⟩ := h; exact ⟨ws, ha.trans q, r.keep k⟩
  | dT kvs => obtain ⟨ws, q, r⟩ := h; exact ⟨ws, ha.trans q, r.keep k⟩
  | cel d => obtain ⟨oc, v, u, q, e, r1, r⟩ := h; exact ⟨oc, v, u, ha.trans q, e, r1, RepV.keep k d v r⟩
  | clo L cs =>
    obtain ⟨pm, ctv, c', cl, q, n, ⟨P', oc, hc, hx⟩, r⟩ := h
    obtain ⟨x, y⟩ := k.k c' _ hc n
    exact ⟨pm, ctv, c', cl, ha.trans q, y, ⟨P', oc, x, hx⟩, r⟩
theorem RepM.new {p : Addr} {o : HO} (h : RepM K mg M H) (n : H p = none) (nc : NoCode p o := by intro _ z; cases z) : RepM K mg M (upd H p o) := ⟨fun a u e =>
  (h a u e).keep (Keep.new h n) (upd_ne fun z => by subst z; rw [h.free n] at e; cases e), Tabs.newD h.tab n nc⟩
/-- what is told of is no code object -/
theorem RepO.noCode {p : Addr} {o : HO} {u : MO} (r : RepO K mg M H p u) (e : H p = some o) : NoCode p o ∧ (∀ ps, o ≠ .tbl ps) ∧ ∀ oc v, o = .frz oc v → ∀ vs, oc.data ≠ .fields vs := by
  cases u with
  | lst ds => obtain ⟨vs, q, _⟩ := r; rw [e] at q; cases q; exact ⟨fun _ z => (by cases z), fun _ z => (by cases z), fun _ _ z => (by cases z)⟩
  | ins c fs => obtain ⟨C, dx, gs, _, q, _⟩ := r; rw [e] at q; cases q; exact ⟨fun _ z => (by cases z), fun _ z => (by cases z), fun _ _ z => (by cases z)⟩
  | dK kvs => obtain ⟨ws, q, _⟩ := r; rw [e] at q; cases q; exact ⟨fun _ z => (by cases z), fun _ z => (by cases z), fun _ _ z => (by cases z)⟩
  | dT kvs => obtain ⟨ws, q, _⟩ := r; rw [e] at q; cases q; exact ⟨fun _ z => (by cases z), fun _ z => (by cases z), fun _ _ z => (by cases z)⟩
  | cel d => obtain ⟨oc, v, u, q, d, _⟩ := r; rw [e] at q; cases q; exact ⟨NoCode.data fun vs z => (by rw [d] at z; cases z), fun _ z => (by cases z), fun _ _ z vs y => (by cases z; rw [d] at y; cases y)⟩
  | clo L cs => obtain ⟨pm, ctv, c', cl, q, _⟩ := r; rw [e] at q; cases q; exact ⟨NoCode.data fun vs z => (by cases z), fun _ z => (by cases z), fun _ _ z vs y => (by cases z; cases y)⟩
theorem RepM.newM {p : Addr} {o : HO} {u : MO} (h : RepM K mg M H) (n : H p = none) (r : RepO K mg (um M p u) (upd H p o) p u) : RepM K mg (um M p u) (upd H p o) := ⟨fun a w e => by
  by_cases z : a = p
  · subst z; rw [um_same] at e; cases e; exact r
  · rw [um_ne z] at e
    exact (h a w e).keep (Keep.newM h n) (upd_ne z), Tabs.newD h.tab n (r.noCode upd_same).1⟩
theorem RepO.there {p : Addr} {u : MO} (r : RepO K mg M H p u) : ∃ o, H p = some o := by
  cases u with
  | lst ds => obtain ⟨vs, q, _⟩ := r; exact ⟨_, q⟩
  | ins c fs => obtain ⟨C, dx, gs, _, q, _⟩ := r; exact ⟨_, q⟩
  | dK kvs => obtain ⟨ws, q, _⟩ := r; exact ⟨_, q⟩
  | dT kvs => obtain ⟨ws, q, _⟩ := r; exact ⟨_, q⟩
  | cel d => obtain ⟨oc, v, u, q, d, _⟩ := r; exact ⟨_, q⟩
  | clo L cs => obtain ⟨pm, ctv, c', cl, q, _⟩ := r; exact ⟨_, q⟩
theorem RepM.write {p : Addr} {o : HO} {u w : MO} (h : RepM K mg M H) (hw : M p = some w) (r : RepO K mg (um M p u) (upd H p o) p u) : RepM K mg (um M p u) (upd H p o) := ⟨fun a x e => by
  by_cases z : a = p
  · subst z; rw [um_same] at e; cases e; exact r
  · rw [um_ne z] at e
    exact (h a x e).keep (Keep.write hw) (upd_ne z), by
  have q := h p w hw
  obtain ⟨o', e⟩ := q.there
  obtain ⟨_, n2, n3⟩ := q.noCode e
  exact Tabs.writeD h.tab e n2 n3 (r.noCode upd_same).1⟩
/-- a code object is not told of -/
theorem code_free {c : Addr} {q : Str} {P : Addr} (m : RepM K mg M H) (h : IsCode H c q P) : M c = none := by
  cases e : M c with
  | none => rfl
  | some o =>
    obtain ⟨oc, hc, hx⟩ := h
    exact absurd hx (((m c o e).noCode hc).1 oc rfl q P)
theorem IsCode.keep {c : Addr} {q : Str} {P : Addr} (m : RepM K mg M H) (h : IsCode H c q P) (k : Keep M H M' H') : IsCode H' c q P := by
  have n := code_free m h
  obtain ⟨oc, hc, hx⟩ := h
  exact ⟨oc, (k.k c _ hc n).1, hx⟩
theorem RepM.less (h : RepM K mg M H) (l : MLe M0 M) : RepM K mg M0 H := ⟨fun a o e =>
  (h a o (l a o e)).keep (Keep.rfl'.less l) rfl, h.tab⟩
theorem RepV.less (l : MLe M0 M) {d : D} {v : V} (h : RepV K mg M H d v) : RepV K mg M0 H d v := RepV.keep (Keep.rfl'.less l) d v h
theorem RepS.less (l : MLe M0 M) (h : RepS K mg M H ρ σ) : RepS K mg M0 H ρ σ := RepS.keep (Keep.rfl'.less l) h
theorem RepS.set {i : Nat} {d : D} {v : V} (h : RepS K mg M H ρ σ) (r : RepV K mg M H d v) : RepS K mg M H (ρ.set i (some d)) (σ.set i (some v)) :=
  ⟨by simp [h.1], fun j e hj => by
    by_cases z : i = j
    · subst z
      by_cases hl : i < ρ.length
      · rw [List.getElem?_set_self hl] at hj
        cases hj
        exact ⟨v, List.getElem?_set_self (by rw [← h.1]; exact hl), r⟩
      · rw [List.getElem?_eq_none (by simpa using hl)] at hj; cases hj
    · rw [List.getElem?_set_ne z] at hj
      obtain ⟨w, e1, r1⟩ := h.2 j e hj
      exact ⟨w, by rw [List.getElem?_set_ne z]; exact e1, r1⟩⟩
end

/-! ### readings -/
abbrev DK := D → Mp → Prop
abbrev TD := Rho → Mp → DK → Prop
abbrev TDs := Rho → Mp → (List D → Mp → Prop) → Prop
abbrev TDb := Rho → Mp → (Bool → Mp → Prop) → Prop
structure DEnds where
  nx : Rho → Mp → Prop
  rt : DK
  bk : Rho → Mp → Prop := fun _ _ => False
  ct : Rho → Mp → Prop := fun _ _ => False
abbrev TDS := DEnds → Rho → Mp → Prop
/-- a target: the value, the names, the state -/
abbrev TDG := D → Rho → Mp → (Rho → Mp → Prop) → Prop
abbrev TDGs := List D → Rho → Mp → (Rho → Mp → Prop) → Prop
/-- what is walked: its items -/
abbrev TDI := Rho → Mp → (List D → Mp → Prop) → Prop

/-- where the code stands: the entry -/
structure At where
  M : Mp
  H : Hp
structure HereK (K : PySem.W.Frag) (mg : Str → Option Value) (B : At) (ρ : Rho) (σ : St) (M : Mp) (H : Hp) : Prop where
  s : RepS K mg M H ρ σ
  m : RepM K mg M H
  k : Keep B.M B.H M H
structure EndsLeK (K : PySem.W.Frag) (mg : Str → Option Value) (B : At) (E : DEnds) (D : Ends) : Prop where
  nx : ∀ ρ σ M H, HereK K mg B ρ σ M H → E.nx ρ M → D.nx σ H
  bk : ∀ ρ σ M H, HereK K mg B ρ σ M H → E.bk ρ M → D.bk σ H
  ct : ∀ ρ σ M H, HereK K mg B ρ σ M H → E.ct ρ M → D.ct σ H
  rt : ∀ d v M H, Keep B.M B.H M H → RepM K mg M H → RepV K mg M H d v → E.rt d M → D.rt v H
section
variable (X : Cx) (B : At)
abbrev Here (ρ : Rho) (σ : St) (M : Mp) (H : Hp) : Prop := HereK X.K X.mg B ρ σ M H
/-- behind: the slots as they were, a value -/
def lft (t : TD) : TE := fun σ H Q => ∃ ρ M R, Here X B ρ σ M H ∧ t ρ M R ∧ ∀ d M' v H', R d M' → Keep M H M' H' → RepM X.K X.mg M' H' → RepV X.K X.mg M' H' d v → Q v H'
def lftA (t : TDs) : TA := fun σ H Q => ∃ ρ M R, Here X B ρ σ M H ∧ t ρ M R ∧ ∀ ds M' vs H', R ds M' → Keep M H M' H' → RepM X.K X.mg M' H' → RepVs X.K X.mg M' H' ds vs → Q vs H'
def lftT (t : TDb) : TT := fun σ H Q => ∃ ρ M R, Here X B ρ σ M H ∧ t ρ M R ∧ ∀ b M' H', R b M' → Keep M H M' H' → RepM X.K X.mg M' H' → Q b H'
abbrev EndsLe (E : DEnds) (D : Ends) : Prop := EndsLeK X.K X.mg B E D
/-- C: a later place than B, from which the ends are told -/
def lftS (t : TDS) : TS := fun D σ H => ∃ (C : At) (ρ : Rho) (M : Mp) (E : DEnds), Keep B.M B.H C.M C.H ∧ Here X C ρ σ M H ∧ EndsLe X C E D ∧ t E ρ M
def DE (e : Expr) (t : TD) : Prop := PE X e (lft X B t)
def DA (es : List Expr) (t : TDs) : Prop := PA X es (lftA X B t)
def DT (e : Expr) (t : TDb) : Prop := PT X e (lftT X B t)
def DW (e : Expr) (t : TDb) : Prop := PW X e (lftT X B t)
def DS (s : Stmt) (t : TDS) : Prop := PS X s (lftS X B t)
def DSs (s : List Stmt) (t : TDS) : Prop := PSs X s (lftS X B t)
def lftG (t : TDG) : TG := fun v σ H Q => ∃ ρ M d R, Here X B ρ σ M H ∧ RepV X.K X.mg M H d v ∧ t d ρ M R ∧ ∀ ρ' M' σ' H', R ρ' M' → Keep M H M' H' → Here X B ρ' σ' M' H' → Q σ' H'
def lftGs (t : TDGs) : TGs := fun vs σ H Q => ∃ ρ M ds R, Here X B ρ σ M H ∧ RepVs X.K X.mg M H ds vs ∧ t ds ρ M R ∧ ∀ ρ' M' σ' H', R ρ' M' → Keep M H M' H' → Here X B ρ' σ' M' H' → Q σ' H'
def DG (e : Expr) (t : TDG) : Prop := PG X e (lftG X B t)
def DGs (es : List Expr) (t : TDGs) : Prop := PGs X es (lftGs X B t)
/-- the iterator J serves the items -/
def Serves (items : List D) (J : It) (M : Mp) (H : Hp) : Prop :=
  ∀ M' H', Keep M H M' H' → RepM X.K X.mg M' H' → ∀ i : Nat, (items.length ≤ i → J.stop i H') ∧
    ∀ d, items[i]? = some d → J.go i H' ∧ ∀ x H2, J.yld i H' x H2 → Keep M' H' M' H2 ∧ RepM X.K X.mg M' H2 ∧ RepV X.K X.mg M' H2 d x
def lftI (t : TDI) : TI := fun σ H R => ∃ ρ M T, Here X B ρ σ M H ∧ t ρ M T ∧ ∀ items M' J H', T items M' → Keep M H M' H' → RepM X.K X.mg M' H' → Serves X items J M' H' → R J H'
def DI (tg e : Expr) (t : TDI) : Prop := PI X tg e (lftI X B t)
end
section
variable {K : PySem.W.Frag} {mg : Str → Option Value} {B : At} {ρ : Rho} {σ : St} {M M' : Mp} {H H' : Hp}
theorem HereK.step (h : HereK K mg B ρ σ M H) (k : Keep M H M' H') (m : RepM K mg M' H') : HereK K mg B ρ σ M' H' := ⟨h.s.keep k, m, h.k.trans k⟩
theorem HereK.set {i : Nat} {d : D} {v : V} (h : HereK K mg B ρ σ M H) (r : RepV K mg M H d v) : HereK K mg B (ρ.set i (some d)) (σ.set i (some v)) M H := ⟨h.s.set r, h.m, h.k⟩
theorem HereK.base {C : At} (kb : Keep B.M B.H C.M C.H) (h : HereK K mg C ρ σ M H) : HereK K mg B ρ σ M H := ⟨h.s, h.m, kb.trans h.k⟩
theorem HereK.up {C : At} (k : Keep C.M C.H M H) (h : HereK K mg B ρ σ M H) : HereK K mg C ρ σ M H := ⟨h.s, h.m, k⟩
theorem EndsLeK.later {C C' : At} (k : Keep C.M C.H C'.M C'.H) {E : DEnds} {D : Ends} (le : EndsLeK K mg C E D) : EndsLeK K mg C' E D :=
  ⟨fun ρ σ M H h => le.nx ρ σ M H (h.base k), fun ρ σ M H h => le.bk ρ σ M H (h.base k), fun ρ σ M H h => le.ct ρ σ M H (h.base k), fun d v M H kk => le.rt d v M H (k.trans kk)⟩
theorem HereK.less {M0 : Mp} (h : HereK K mg B ρ σ M H) (l : MLe M0 M) : HereK K mg B ρ σ M0 H := ⟨h.s.less l, h.m.less l, h.k.less l⟩
end
/-- weaken a reading -/
theorem PE.imp {X : Cx} {e : Expr} {t u : TE} (h : PE X e t) (q : ∀ σ H Q, u σ H Q → t σ H Q) : PE X e u := ⟨fun pins s σ H Q I z => h.run pins s σ H Q I (q _ _ _ z)⟩
theorem PT.imp {X : Cx} {e : Expr} {t u : TT} (h : PT X e t) (q : ∀ σ H Q, u σ H Q → t σ H Q) : PT X e u := ⟨fun pins s σ H Q I z => h.run pins s σ H Q I (q _ _ _ z)⟩
theorem PW.imp {X : Cx} {e : Expr} {t u : TT} (h : PW X e t) (q : ∀ σ H Q, u σ H Q → t σ H Q) : PW X e u := ⟨fun wh pins s σ H Q I z => h.run wh pins s σ H Q I (q _ _ _ z)⟩
theorem PA.imp {X : Cx} {e : List Expr} {t u : TA} (h : PA X e t) (q : ∀ σ H Q, u σ H Q → t σ H Q) : PA X e u := ⟨fun pos pins s σ H Q I z => h.run pos pins s σ H Q I (q _ _ _ z)⟩
theorem PS.imp {X : Cx} {e : Stmt} {t u : TS} (h : PS X e t) (q : ∀ D σ H, u D σ H → t D σ H) : PS X e u := ⟨fun pins s σ H D I z => h.run pins s σ H D I (q _ _ _ z)⟩
theorem PSs.imp {X : Cx} {e : List Stmt} {t u : TS} (h : PSs X e t) (q : ∀ D σ H, u D σ H → t D σ H) : PSs X e u := ⟨fun pins s σ H D I z => h.run pins s σ H D I (q _ _ _ z)⟩
theorem PG.imp {X : Cx} {e : Expr} {t u : TG} (h : PG X e t) (q : ∀ v σ H Q, u v σ H Q → t v σ H Q) : PG X e u := ⟨fun pins s σ H v w Q I r z => h.run pins s σ H v w Q I r (q _ _ _ _ z)⟩
theorem PGs.imp {X : Cx} {e : List Expr} {t u : TGs} (h : PGs X e t) (q : ∀ v σ H Q, u v σ H Q → t v σ H Q) : PGs X e u := ⟨fun pins s σ H v w Q I r z => h.run pins s σ H v w Q I r (q _ _ _ _ z)⟩
theorem PI.imp {X : Cx} {tg e : Expr} {t u : TI} (h : PI X tg e t) (q : ∀ σ H Q, u σ H Q → t σ H Q) : PI X tg e u := ⟨fun pins s σ H Q I z => h.run pins s σ H Q I (q _ _ _ z)⟩
end DL
/-! The D layer, part c: expressions. -/
namespace DL
open PySem PySem.Spec L2

/-! ### data -/
mutual
def D.py : D → PyData
  | .non => .none
  | .bl b => .bool b
  | .int i => .int i
  | .str s => .str s
  | .tup xs => .tuple (pys xs)
  | .lst xs => .list (pys xs)
  | .scr ns => .list (ns.map PyData.int)
  | .inst _ _ _ => .none
  | .ref _ => .none
  | .cls _ => .none
  | .ty _ => .none
  | .dct => .dict []
  | .ptp _ => .none
  | .ltp xs => .tuple (pys xs)
  | .dcs ks xs => .dict ((ks.map PyData.str).zip (pys xs))
  | .dts _ _ => .none
  | .exc _ _ _ => .none
def pys : List D → List PyData
  | [] => []
  | x :: xs => x.py :: pys xs
end
mutual
/-- plain, at most so deep -/
def D.pl : Nat → D → Bool
  | _, .non => true
  | _, .bl _ => true
  | _, .int _ => true
  | _, .str s => PyData.canLay0 (.str s)
  | 0, .tup _ => false
  | n + 1, .tup xs => pls n xs
  | 0, .lst _ => false
  | n + 1, .lst xs => pls n xs
  | 0, .scr _ => false
  | _ + 1, .scr _ => true
  | _, .inst _ _ _ => false
  | _, .ref _ => false
  | _, .cls _ => false
  | _, .ty _ => false
  | _, .dct => false
  | _, .ptp _ => false
  | 0, .ltp _ => false
  | n + 1, .ltp xs => pls n xs
  | _, .dcs _ _ => false
  | _, .dts _ _ => false
  | _, .exc _ _ _ => false
def pls : Nat → List D → Bool
  | _, [] => true
  | n, x :: xs => x.pl n && pls n xs
end
def D.eqv (x y : D) : Bool := PyData.eqv x.py y.py
/-- the items of a list -/
def asL (M : Mp) : D → Option (List D)
  | .lst xs => some xs
  | .ref a => match M a with
    | some (.lst ds) => some ds
    | _ => none
  | _ => none
/-- a list that may change, as it is now -/
def rsv (M : Mp) : D → D
  | .ref a => match M a with
    | some (.lst ds) => .lst ds
    | _ => .ref a
  | d => d
def cutL {α : Type} (xs : List α) (lo hi : Option Int) : List α := (xs.drop (HT.sIx xs.length 0 lo)).take (HT.sIx xs.length xs.length hi - HT.sIx xs.length 0 lo)

section
variable {K : PySem.W.Frag} {mg : Str → Option Value} {M M' : Mp} {H H' : Hp}
theorem asL_at {d : D} {ds : List D} {v : V} (e : asL M d = some ds) (m : RepM K mg M H) (r : RepV K mg M H d v) : ∃ a vs, v = .ref a ∧ H a = some (.lst vs) ∧ RepVs K mg M H ds vs := by
  cases d with
  | lst xs =>
    unfold asL at e
    cases e
    unfold RepV at r
    obtain ⟨a, vs, e, _, h, rs⟩ := r
    exact ⟨a, vs, e, h, rs⟩
  | ref a =>
    unfold RepV at r
    cases q : M a with
    | none => simp [asL, q] at e
    | some o =>
      cases o with
      | ins c fs => simp [asL, q] at e
      | dK kvs => simp [asL, q] at e
      | dT kvs => simp [asL, q] at e
      | cel _ => simp [asL, q] at e
      | clo _ _ => simp [asL, q] at e
      | lst xs =>
        simp [asL, q] at e
        subst e
        obtain ⟨vs, h, rs⟩ := m a _ q
        exact ⟨a, vs, r, h, rs⟩
  | _ => simp [asL] at e
theorem RepVs.cut {xs : List D} {vs : List V} (h : RepVs K mg M H xs vs) (lo hi : Option Int) : RepVs K mg M H (cutL xs lo hi) (cutV vs lo hi) := by
  have e := h.length
  unfold cutL cutV
  rw [e]
  exact RepVs.take _ (RepVs.drop _ h)
theorem scr_at {ns : List Int} {v : V} (r : RepV K mg M H (.scr ns) v) : ∃ a, v = .ref a ∧ SqL K H a (ns.map V.int) := by
  unfold RepV at r
  obtain ⟨a, rfl, h⟩ := r
  refine ⟨a, rfl, ?_⟩
  rcases h with ⟨_, h⟩ | (h | ⟨_, h⟩) | h
  · exact .inl h
  · cases h
  · cases h
  · exact .inr h
theorem Dp_ints : ∀ ns : List Int, DpAll K H (ns.map V.int) (ns.map PyData.int)
  | [] => .nil
  | n :: ns => .cons (.int n) (Dp_ints ns)
mutual
theorem Dp_of : ∀ (n : Nat) (d : D) (v : V), d.pl n = true → RepV K mg M H d v → Dp K H v d.py
  | _, .non, v, _, r => by unfold RepV at r; subst r; exact .non
  | _, .bl b, v, _, r => by unfold RepV at r; subst r; exact .bl b
  | _, .int i, v, _, r => by unfold RepV at r; subst r; exact .int i
  | _, .str s, v, _, r => by unfold RepV at r; subst r; exact .str s
  | 0, .tup xs, v, p, r => by simp [D.pl] at p
  | n + 1, .tup xs, v, p, r => by
    unfold RepV at r
    obtain ⟨a, vs, rfl, _, h, rs⟩ := r
    exact .tup (TupH.sq h) (Dps_of n xs vs (by simpa [D.pl] using p) rs)
  | 0, .lst xs, v, p, r => by simp [D.pl] at p
  | n + 1, .lst xs, v, p, r => by
    unfold RepV at r
    obtain ⟨a, vs, rfl, _, h, rs⟩ := r
    exact .lst (SqL.of h) (Dps_of n xs vs (by simpa [D.pl] using p) rs)
  | 0, .scr ns, v, p, r => by simp [D.pl] at p
  | n + 1, .scr ns, v, p, r => by
    obtain ⟨a, rfl, hs⟩ := scr_at r
    exact .lst hs (Dp_ints ns)
  | _, .inst _ _ _, v, p, r => by simp [D.pl] at p
  | _, .ref _, v, p, r => by simp [D.pl] at p
  | _, .cls _, v, p, r => by simp [D.pl] at p
  | _, .ty _, v, p, r => by simp [D.pl] at p
  | _, .dct, v, p, r => by simp [D.pl] at p
  | _, .ptp _, v, p, r => by simp [D.pl] at p
  | 0, .ltp xs, v, p, r => by simp [D.pl] at p
  | n + 1, .ltp xs, v, p, r => by
    unfold RepV at r
    obtain ⟨a, vs, rfl, _, h, rs⟩ := r
    exact .tup (TupH.sq (.of h)) (Dps_of n xs vs (by simpa [D.pl] using p) rs)
  | _, .dcs _ _, v, p, r => by simp [D.pl] at p
  | _, .dts _ _, v, p, r => by simp [D.pl] at p
  | _, .exc _ _ _, v, p, r => by simp [D.pl] at p
theorem Dps_of : ∀ (n : Nat) (ds : List D) (vs : List V), pls n ds = true → RepVs K mg M H ds vs → DpAll K H vs (pys ds)
  | n, [], vs, _, r => by unfold RepVs at r; subst r; exact .nil
  | n, d :: ds, vs, p, r => by
    unfold RepVs at r
    obtain ⟨v, vr, rfl, rv, rs⟩ := r
    have p' : d.pl n = true ∧ pls n ds = true := by simpa [pls] using p
    exact .cons (Dp_of n d v p'.1 rv) (Dps_of n ds vr p'.2 rs)
end
mutual
theorem pl_shape : ∀ (n : Nat) (d : D), d.pl n = true → PyData.canLay0 d.py = true ∧ d.py.depth ≤ n
  | _, .non, _ => by simp [D.py, PyData.canLay0, PyData.depth]
  | _, .bl b, _ => by simp [D.py, PyData.canLay0, PyData.depth]
  | _, .int i, _ => by simp [D.py, PyData.canLay0, PyData.depth]
  | _, .str s, p => by
    unfold D.pl at p
    exact ⟨p, by simp [D.py, PyData.depth]⟩
  | 0, .tup xs, p => by simp [D.pl] at p
  | n + 1, .tup xs, p => by
    have q := pls_shape n xs (by simpa [D.pl] using p)
    simp only [D.py, PyData.canLay0, PyData.depth]
    exact ⟨q.1, by omega⟩
  | 0, .lst xs, p => by simp [D.pl] at p
  | n + 1, .lst xs, p => by
    have q := pls_shape n xs (by simpa [D.pl] using p)
    simp only [D.py, PyData.canLay0, PyData.depth]
    exact ⟨q.1, by omega⟩
  | 0, .scr ns, p => by simp [D.pl] at p
  | n + 1, .scr ns, p => by
    have q : PyData.canLayAll0 (ns.map PyData.int) = true ∧ PyData.depthAll (ns.map PyData.int) = 0 := by
      clear p
      induction ns with
      | nil => simp [PyData.canLayAll0, PyData.depthAll]
      | cons x xs ih => simp [PyData.canLayAll0, PyData.depthAll, PyData.canLay0, PyData.depth, ih]
    simp only [D.py, PyData.canLay0, PyData.depth]
    exact ⟨q.1, by omega⟩
  | _, .inst _ _ _, p => by simp [D.pl] at p
  | _, .ref _, p => by simp [D.pl] at p
  | _, .cls _, p => by simp [D.pl] at p
  | _, .ty _, p => by simp [D.pl] at p
  | _, .dct, p => by simp [D.pl] at p
  | _, .ptp _, p => by simp [D.pl] at p
  | 0, .ltp xs, p => by simp [D.pl] at p
  | n + 1, .ltp xs, p => by
    have q := pls_shape n xs (by simpa [D.pl] using p)
    simp only [D.py, PyData.canLay0, PyData.depth]
    exact ⟨q.1, by omega⟩
  | _, .dcs _ _, p => by simp [D.pl] at p
  | _, .dts _ _, p => by simp [D.pl] at p
  | _, .exc _ _ _, p => by simp [D.pl] at p
theorem pls_shape : ∀ (n : Nat) (ds : List D), pls n ds = true → PyData.canLayAll0 (pys ds) = true ∧ PyData.depthAll (pys ds) ≤ n
  | n, [], _ => by simp [pys, PyData.canLayAll0, PyData.depthAll]
  | n, d :: ds, p => by
    have p' : d.pl n = true ∧ pls n ds = true := by simpa [pls] using p
    have q1 := pl_shape n d p'.1
    have q2 := pls_shape n ds p'.2
    simp only [pys, PyData.canLayAll0, PyData.depthAll, q1.1, q2.1, Bool.and_self]
    exact ⟨trivial, by omega⟩
end
theorem pl_shaped {n : Nat} {d : D} (h : n ≤ 64) (p : d.pl n = true) : SeqAt.shaped d.py = true := by
  obtain ⟨a, b⟩ := pl_shape n d p
  unfold SeqAt.shaped
  rw [a, decide_eq_true (by omega)]
  rfl
/-- a value, or the list that it is now -/
theorem rsv_dp {n : Nat} {d : D} {v : V} (m : RepM K mg M H) (r : RepV K mg M H d v) (p : (rsv M d).pl n = true) : Dp K H v (rsv M d).py := by
  cases d with
  | ref a =>
    cases q : M a with
    | none => simp [rsv, q, D.pl] at p
    | some o =>
      cases o with
      | ins c fs => simp [rsv, q, D.pl] at p
      | dK kvs => simp [rsv, q, D.pl] at p
      | dT kvs => simp [rsv, q, D.pl] at p
      | cel _ => simp [rsv, q, D.pl] at p
      | clo _ _ => simp [rsv, q, D.pl] at p
      | lst xs =>
        simp only [rsv, q] at p ⊢
        obtain ⟨b, vs, rfl, h, rs⟩ := asL_at (d := .ref a) (ds := xs) (by simp [asL, q]) m r
        cases n with
        | zero => simp [D.pl] at p
        | succ n => exact .lst (SqL.of h) (Dps_of n xs vs (by simpa [D.pl] using p) rs)
  | _ => exact Dp_of n _ v p r
end

section
variable {X : Cx} {B : At}
/-! ### names, constants -/
def dV (i : Nat) : TD := fun ρ M Q => match ρ[i]? with | some (some d) => Q d M | _ => False
def dC (d : D) : TD := fun _ M Q => Q d M
theorem dv (i : Nat) {x : Str} {pos : Pos} (hN : X.N[i]? = some x := by rfl) (hv : Vis X.env.scope x := by first | exact Or.inl rfl | exact Or.inr (Or.inl rfl) | exact Or.inr (Or.inr rfl)) (hd : (x == ("__debug__" : Str)) = false := by decide)
    (hcd : (x == ("__classdict__" : Str)) = false := by decide) : DE X B (.Name x pos) (dV i) := by
  refine PE.imp (pe_var hN hv hd hcd) fun σ H Q h => ?_
  obtain ⟨ρ, M, R, hh, h, q⟩ := h
  unfold dV at h
  split at h
  · rename_i d e
    obtain ⟨v, e1, r⟩ := hh.s.2 i d e
    exact ⟨v, e1, q d M v H h .rfl' hh.m r⟩
  · exact h.elim
theorem de_const {e : Expr} {v : V} {d : D} (h : PE X e (tC v)) (r : ∀ M H, RepV X.K X.mg M H d v) : DE X B e (dC d) :=
  PE.imp h fun σ H Q ⟨ρ, M, R, hh, h, q⟩ => q d M v H h .rfl' hh.m (r M H)
theorem de_int {i j pos} : DE X B (.Constant (.int i) j pos) (dC (.int i)) := de_const pe_int fun _ _ => by simp [RepV]
theorem de_bl {b j pos} : DE X B (.Constant (.bool b) j pos) (dC (.bl b)) := de_const pe_bl fun _ _ => by simp [RepV]
theorem de_non {j pos} : DE X B (.Constant .none j pos) (dC .non) := de_const pe_non fun _ _ => by simp [RepV]
theorem de_str {x j pos} : DE X B (.Constant (.str x) j pos) (dC (.str x)) := de_const pe_str fun _ _ => by simp [RepV]
theorem de_gI {x : Str} {i : Int} {pos : Pos} (hg : Gl X x) (hm : ∃ t, X.mg x = some (.int i t)) (hd : (x == ("__debug__" : Str)) = false := by decide) : DE X B (.Name x pos) (dC (.int i)) := by
  obtain ⟨t, hm⟩ := hm
  exact de_const (pe_glob (v := .int i) hg hm ⟨t, rfl⟩ hd) fun _ _ => by simp [RepV]
theorem de_gS {x : Str} {i : Str} {pos : Pos} (hg : Gl X x) (hm : ∃ t, X.mg x = some (.str i t)) (hd : (x == ("__debug__" : Str)) = false := by decide) : DE X B (.Name x pos) (dC (.str i)) := by
  obtain ⟨t, hm⟩ := hm
  exact de_const (pe_glob (v := .str i) hg hm ⟨t, rfl⟩ hd) fun _ _ => by simp [RepV]

/-! ### operators -/
abbrev DR2 := D → D → Mp → DK → Prop
def dOp (g : DR2) (ta tb : TD) : TD := fun ρ M Q => ta ρ M fun x M1 => tb ρ M1 fun y M2 => g x y M2 Q
/-- what is left: the answers of the heap -/
abbrev Back (X : Cx) (M : Mp) (H : Hp) (R : DK) (Q : VK) : Prop := ∀ d M' v H', R d M' → Keep M H M' H' → RepM X.K X.mg M' H' → RepV X.K X.mg M' H' d v → Q v H'
def OpC (X : Cx) (r : R2) (g : DR2) : Prop := ∀ M H d1 d2 v1 v2 (R : DK) (Q : VK), RepM X.K X.mg M H → RepV X.K X.mg M H d1 v1 → RepV X.K X.mg M H d2 v2 → g d1 d2 M R → Back X M H R Q → r v1 v2 H Q
theorem lft_op {r : R2} {g : DR2} {ta tb : TD} (hc : OpC X r g) {σ : L2.St} {H : Hp} {Q : VK} (h : lft X B (dOp g ta tb) σ H Q) : tOp r (lft X B ta) (lft X B tb) σ H Q := by
  obtain ⟨ρ, M, R, hh, h, q⟩ := h
  refine ⟨ρ, M, _, hh, h, fun d M1 v H1 h1 k1 m1 r1 => ?_⟩
  have hh1 := hh.step k1 m1
  refine ⟨ρ, M1, _, hh1, h1, fun d2 M2 v2 H2 h2 k2 m2 r2 => ?_⟩
  exact hc M2 H2 d d2 v v2 R Q m2 (RepV.keep k2 d v r1) r2 h2 fun d3 M3 v3 H3 h3 k3 m3 r3 => q d3 M3 v3 H3 h3 ((k1.trans k2).trans k3) m3 r3
theorem de_op {a b : Expr} {op : Operator} {r : R2} {g : DR2} {ta tb : TD} {pos : Pos} (ho : OpR X (binaryOp op) r) (hc : OpC X r g) (ha : DE X B a ta) (hb : DE X B b tb) : DE X B (.BinOp a op b pos) (dOp g ta tb) :=
  PE.imp (pe_op ho ha hb) fun _ _ _ h => lft_op hc h
theorem OpC.or {r r' : R2} {g : DR2} (h : ∀ M H d1 d2 v1 v2 (R : DK) (Q : VK), RepM X.K X.mg M H → RepV X.K X.mg M H d1 v1 → RepV X.K X.mg M H d2 v2 → g d1 d2 M R → Back X M H R Q → r v1 v2 H Q ∨ r' v1 v2 H Q) :
    OpC X (fun x y H Q => r x y H Q ∨ r' x y H Q) g := h

theorem rInt {M : Mp} {H : Hp} {K : PySem.W.Frag} {mg : Str → Option Value} {i : Int} : RepV K mg M H (.int i) (.int i) := by simp [RepV]
theorem rBl {M : Mp} {H : Hp} {K : PySem.W.Frag} {mg : Str → Option Value} {i : Bool} : RepV K mg M H (.bl i) (.bl i) := by simp [RepV]
theorem rStr {M : Mp} {H : Hp} {K : PySem.W.Frag} {mg : Str → Option Value} {i : Str} : RepV K mg M H (.str i) (.str i) := by simp [RepV]
theorem rNon {M : Mp} {H : Hp} {K : PySem.W.Frag} {mg : Str → Option Value} : RepV K mg M H .non .non := by simp [RepV]
/-- two ints -/
def gI (c : Int → Int → Prop) (f : Int → Int → D) : DR2 := fun x y M Q => match x, y with | .int i, .int j => c i j ∧ Q (f i j) M | _, _ => False
theorem opI {c c' : Int → Int → Prop} {f : Int → Int → V} {f' : Int → Int → D} (hc : ∀ i j, c' i j → c i j) (hf : ∀ i j M H, RepV X.K X.mg M H (f' i j) (f i j)) : OpC X (rI c f) (gI c' f') := by
  intro M H d1 d2 v1 v2 R Q m r1 r2 g q
  unfold gI at g
  split at g
  · rename_i i j
    unfold RepV at r1 r2
    exact ⟨i, j, r1, r2, hc i j g.1, q _ _ _ _ g.2 .rfl' m (hf i j M H)⟩
  · exact g.elim
theorem opI0 {f : Int → Int → V} {f' : Int → Int → D} (hf : ∀ i j M H, RepV X.K X.mg M H (f' i j) (f i j)) : OpC X (rI0 f) (gI (fun _ _ => True) f') := by
  intro M H d1 d2 v1 v2 R Q m r1 r2 g q
  unfold gI at g
  split at g
  · rename_i i j
    unfold RepV at r1 r2
    exact ⟨i, j, r1, r2, q _ _ _ _ g.2 .rfl' m (hf i j M H)⟩
  · exact g.elim
/-- a new object, an answer -/
theorem Back.new {M : Mp} {H : Hp} {R : DK} {Q : VK} (q : Back X M H R Q) (m : RepM X.K X.mg M H) {d : D} (h : R d M) {p : Addr} {o : HO} (n : H p = none)
    (r : RepV X.K X.mg M (upd H p o) d (.ref p)) (nc : NoCode p o := by intro _ z; cases z) : Q (.ref p) (upd H p o) := q _ _ _ _ h (Keep.new m n) (m.new n nc) r
theorem RepVs.new {K : PySem.W.Frag} {mg : Str → Option Value} {M : Mp} {H : Hp} (m : RepM K mg M H) {p : Addr} {o : HO} (n : H p = none) {ds : List D} {vs : List V} (h : RepVs K mg M H ds vs) : RepVs K mg M (upd H p o) ds vs := RepVs.keep (Keep.new m n) _ _ h

/-- a + b: ints, texts, tuples, lists -/
def gAdd : DR2 := fun x y M Q => match x, y with
  | .int i, .int j => Q (.int (i + j)) M
  | .str i, .str j => i.length + j.length ≤ sizeLine ∧ Q (.str (i ++ j)) M
  | .tup xs, .tup ys => xs.length + ys.length ≤ sizeLine ∧ Q (.tup (xs ++ ys)) M
  | x, y => match asL M x, asL M y with
    | some xs, some ys => xs.length + ys.length ≤ sizeLine ∧ Q (.lst (xs ++ ys)) M
    | _, _ => False
theorem tup_ne {ds : List D} {vs : List V} {K : PySem.W.Frag} {mg : Str → Option Value} {M : Mp} {H : Hp} (r : RepVs K mg M H ds vs) : vs = [] → ds = [] := fun e => by
  have := r.length
  subst e
  exact List.eq_nil_of_length_eq_zero this
theorem de_add {a b : Expr} {ta tb : TD} {pos : Pos} (ha : DE X B a ta) (hb : DE X B b tb) : DE X B (.BinOp a .Add b pos) (dOp gAdd ta tb) := by
  refine de_op (op_add.or (op_add_str.or (op_catA.or op_cat))) ?_ ha hb
  intro M H d1 d2 v1 v2 R Q m r1 r2 g q
  unfold gAdd at g
  split at g
  · rename_i i j
    unfold RepV at r1 r2
    exact .inl ⟨i, j, r1, r2, q _ _ _ _ g .rfl' m rInt⟩
  · rename_i i j
    unfold RepV at r1 r2
    exact .inr (.inl ⟨i, j, r1, r2, g.1, q _ _ _ _ g.2 .rfl' m rStr⟩)
  · rename_i xs ys
    have r1' := r1
    have r2' := r2
    unfold RepV at r1 r2
    obtain ⟨a, vs, rfl, na, ha, ra⟩ := r1
    obtain ⟨b, ws, rfl, nb, hb, rb⟩ := r2
    refine .inr (.inr (.inl ⟨a, b, vs, ws, rfl, rfl, TupH.sq ha, TupH.sq hb, by rw [← ra.length, ← rb.length]; exact g.1, fun e => ?_, fun _ e => ?_, fun _ _ p n => ?_⟩))
    · have e' := tup_ne ra e
      subst e'
      exact q _ _ _ _ g.2 .rfl' m (by simpa using r2')
    · have e' := tup_ne rb e
      subst e'
      exact q _ _ _ _ g.2 .rfl' m (by simpa using r1')
    · refine Back.new q m g.2 n ?_
      unfold RepV
      exact ⟨p, _, rfl, m.free n, (.inl upd_same), RepVs.new m n (ra.append rb)⟩
  · split at g
    · rename_i xs ys e1 e2
      obtain ⟨a, vs, rfl, ha, ra⟩ := asL_at e1 m r1
      obtain ⟨b, ws, rfl, hb, rb⟩ := asL_at e2 m r2
      refine .inr (.inr (.inr ⟨a, b, vs, ws, rfl, rfl, ha, hb, by rw [← ra.length, ← rb.length]; exact g.1, fun p n => ?_⟩))
      refine Back.new q m g.2 n ?_
      unfold RepV
      exact ⟨p, _, rfl, m.free n, upd_same, RepVs.new m n (ra.append rb)⟩
    · exact g.elim
theorem de_sub {a b : Expr} {ta tb : TD} {pos : Pos} (ha : DE X B a ta) (hb : DE X B b tb) : DE X B (.BinOp a .Sub b pos) (dOp (gI (fun _ _ => True) fun i j => .int (i - j)) ta tb) :=
  de_op op_sub (opI0 fun _ _ _ _ => rInt) ha hb
/-- the product is let: one factor below 2^64, or both far below a million bits -/
def mulOk (i j : Int) : Prop := CMul i j ∨ CMulW i j
def divOk (i j : Int) : Prop := 0 < j ∧ (j < 1073741824 ∨ j.natAbs.log2 < 9000)
theorem de_div {a b : Expr} {ta tb : TD} {pos : Pos} (ha : DE X B a ta) (hb : DE X B b tb) : DE X B (.BinOp a .FloorDiv b pos) (dOp (gI divOk fun i j => .int (i / j)) ta tb) := by
  refine de_op (op_fdiv.or op_fdivW) ?_ ha hb
  intro M H d1 d2 v1 v2 R Q m r1 r2 g q
  unfold gI at g
  split at g
  · rename_i i j
    unfold RepV at r1 r2
    obtain ⟨⟨c0, c⟩, g⟩ := g
    rcases c with c | c
    · exact .inl ⟨i, j, r1, r2, ⟨c0, c⟩, q _ _ _ _ g .rfl' m rInt⟩
    · exact .inr ⟨i, j, r1, r2, ⟨c0, c⟩, q _ _ _ _ g .rfl' m rInt⟩
  · exact g.elim
theorem de_mod {a b : Expr} {ta tb : TD} {pos : Pos} (ha : DE X B a ta) (hb : DE X B b tb) : DE X B (.BinOp a .Mod b pos) (dOp (gI (fun _ j => 0 < j) fun i j => .int (i % j)) ta tb) :=
  de_op op_mod (opI (fun _ _ h => h) fun _ _ _ _ => rInt) ha hb
theorem de_pow {a b : Expr} {ta tb : TD} {pos : Pos} (ha : DE X B a ta) (hb : DE X B b tb) : DE X B (.BinOp a .Pow b pos) (dOp (gI CPow fun i j => .int (i ^ j.toNat)) ta tb) :=
  de_op op_pow (opI (fun _ _ h => h) fun _ _ _ _ => rInt) ha hb
def dNeg (ta : TD) : TD := fun ρ M Q => ta ρ M fun x M1 => match x with | .int i => Q (.int (-i)) M1 | _ => False
theorem de_neg {a : Expr} {ta : TD} {pos : Pos} (ha : DE X B a ta) : DE X B (.UnaryOp .USub a pos) (dNeg ta) := by
  refine PE.imp (pe_un un_neg ha) fun σ H Q h => ?_
  obtain ⟨ρ, M, R, hh, h, q⟩ := h
  refine ⟨ρ, M, _, hh, h, fun d M1 v H1 h1 k1 m1 r1 => ?_⟩
  split at h1
  · rename_i i
    unfold RepV at r1
    exact ⟨i, r1, q _ _ _ _ h1 k1 m1 rInt⟩
  · exact h1.elim

/-! ### comparisons -/
def gEq : DR2 := fun x y M Q => match x, y with
  | .str a, .str b => Q (.bl (decide (a = b))) M
  | .int a, .int b => Q (.bl (decide (a = b))) M
  | x, y => ((rsv M x).pl 12 = true ∧ (rsv M y).pl 12 = true) ∧ Q (.bl (D.eqv (rsv M x) (rsv M y))) M
def gNe : DR2 := fun x y M Q => match x, y with
  | .str a, .str b => Q (.bl (!decide (a = b))) M
  | .int a, .int b => Q (.bl (!decide (a = b))) M
  | x, y => ((rsv M x).pl 12 = true ∧ (rsv M y).pl 12 = true) ∧ Q (.bl (!D.eqv (rsv M x) (rsv M y))) M
theorem opc_eq : OpC X (fun x y H Q => rEq x y H Q ∨ rEqD X.K x y H Q) gEq := by
  intro M H d1 d2 v1 v2 R Q m r1 r2 g q
  unfold gEq at g
  split at g
  · rename_i a b
    unfold RepV at r1 r2
    subst r1 r2
    refine .inl ⟨rfl, q _ _ _ _ g .rfl' m ?_⟩
    have e : decide (V.str a = V.str b) = decide (a = b) := by simp
    rw [e]; exact rBl
  · rename_i a b
    unfold RepV at r1 r2
    subst r1 r2
    refine .inl ⟨rfl, q _ _ _ _ g .rfl' m ?_⟩
    have e : decide (V.int a = V.int b) = decide (a = b) := by simp
    rw [e]; exact rBl
  · exact .inr ⟨_, _, rsv_dp m r1 g.1.1, rsv_dp m r2 g.1.2, pl_shaped (by decide) g.1.1, pl_shaped (by decide) g.1.2, q _ _ _ _ g.2 .rfl' m rBl⟩
theorem opc_ne : OpC X (fun x y H Q => rNe x y H Q ∨ rNeD X.K x y H Q) gNe := by
  intro M H d1 d2 v1 v2 R Q m r1 r2 g q
  unfold gNe at g
  split at g
  · rename_i a b
    unfold RepV at r1 r2
    subst r1 r2
    refine .inl ⟨rfl, q _ _ _ _ g .rfl' m ?_⟩
    have e : decide (V.str a = V.str b) = decide (a = b) := by simp
    rw [e]; exact rBl
  · rename_i a b
    unfold RepV at r1 r2
    subst r1 r2
    refine .inl ⟨rfl, q _ _ _ _ g .rfl' m ?_⟩
    have e : decide (V.int a = V.int b) = decide (a = b) := by simp
    rw [e]; exact rBl
  · exact .inr ⟨_, _, rsv_dp m r1 g.1.1, rsv_dp m r2 g.1.2, pl_shaped (by decide) g.1.1, pl_shaped (by decide) g.1.2, q _ _ _ _ g.2 .rfl' m rBl⟩
def gT (f : Int → Int → Bool) : DR2 := gI (fun _ _ => True) fun i j => .bl (f i j)
/-- a rule for an operator of comparison -/
structure CmpD (X : Cx) (op : CmpOp) (g : DR2) : Prop where
  ex : ∃ r, OpR X (compareOp op) r ∧ OpC X r g
theorem cd_eq (hu : X.A.units + 64 < cLine) : CmpD X .Eq gEq := ⟨_, op_eq.or (op_eqD hu), opc_eq⟩
theorem cd_ne (hu : X.A.units + 64 < cLine) : CmpD X .NotEq gNe := ⟨_, op_ne.or (op_neD hu), opc_ne⟩
theorem cd_lt : CmpD X .Lt (gT fun i j => decide (i < j)) := ⟨_, op_lt, opI0 fun _ _ _ _ => rBl⟩
theorem cd_le : CmpD X .LtE (gT fun i j => decide (i ≤ j)) := ⟨_, op_le, opI0 fun _ _ _ _ => rBl⟩
theorem cd_gt : CmpD X .Gt (gT fun i j => decide (j < i)) := ⟨_, op_gt, opI0 fun _ _ _ _ => rBl⟩
theorem cd_ge : CmpD X .GtE (gT fun i j => decide (j ≤ i)) := ⟨_, op_ge, opI0 fun _ _ _ _ => rBl⟩
def D.isNon : D → Bool
  | .non => true
  | _ => false
theorem isNon_of {M : Mp} {H : Hp} {d : D} {v : V} {K : PySem.W.Frag} {mg : Str → Option Value} (r : RepV K mg M H d v) : decide (v = .non) = d.isNon := by
  cases d <;> unfold RepV at r <;> simp only [D.isNon]
  all_goals first
    | (subst r; simp)
    | (obtain ⟨_, _, rfl, _⟩ := r; simp)
    | (obtain ⟨_, rfl, _⟩ := r; simp)
    | (obtain ⟨_, _, _, _, rfl, _⟩ := r; simp)
    | (obtain ⟨_, _, _, rfl, _⟩ := r; simp)
def gIs : DR2 := fun x y M Q => match y with | .non => Q (.bl x.isNon) M | _ => False
theorem cd_is : CmpD X .Is gIs := by
  refine ⟨_, op_isN, ?_⟩
  intro M H d1 d2 v1 v2 R Q m r1 r2 g q
  unfold gIs at g
  split at g
  · unfold RepV at r2
    exact ⟨r2, q _ _ _ _ g .rfl' m (by rw [isNon_of r1]; exact rBl)⟩
  · exact g.elim
theorem de_cmp {a b : Expr} {op : CmpOp} {g : DR2} {ta tb : TD} {pos : Pos} (c : CmpD X op g) (ha : DE X B a ta) (hb : DE X B b tb) (hm : behindInMarks op b = false := by first | exact nomark _ | rfl) : DE X B (.Compare a [op] [b] pos) (dOp g ta tb) := by
  obtain ⟨r, ho, hc⟩ := c.ex
  exact PE.imp (pe_cmpR ho ha hb hm) fun _ _ _ h => lft_op hc h
/-- a bool -/
def D.onB : D → (Bool → Prop) → Prop
  | .bl b, k => k b
  | _, _ => False
def dB (t : TD) : TDb := fun ρ M Q => t ρ M fun d M' => d.onB fun b => Q b M'
theorem lft_B {t : TD} {σ : L2.St} {H : Hp} {Q : Bool → Hp → Prop} (h : lftT X B (dB t) σ H Q) : lft X B t σ H fun x H' => ∃ k, x = .bl k ∧ Q k H' := by
  obtain ⟨ρ, M, R, hh, h, q⟩ := h
  refine ⟨ρ, M, _, hh, h, fun d M1 v H1 h1 k1 m1 r1 => ?_⟩
  cases d with
  | bl b => unfold RepV at r1; exact ⟨b, r1, q _ _ _ h1 k1 m1⟩
  | _ => exact h1.elim
theorem dt_cmp {a b : Expr} {op : CmpOp} {g : DR2} {ta tb : TD} {pos : Pos} (c : CmpD X op g) (ha : DE X B a ta) (hb : DE X B b tb) (hm : behindInMarks op b = false := by first | exact nomark _ | rfl) : DT X B (.Compare a [op] [b] pos) (dB (dOp g ta tb)) := by
  obtain ⟨r, ho, hc⟩ := c.ex
  exact PT.imp (pt_cmpR ho ha hb hm) fun _ _ _ h => lft_op hc (lft_B h)
theorem dt_val {e : Expr} {t : TD} (h : DE X B e t) (he : ∀ whole, isTrue e X.env whole = (do let v ← whole; standAt e.pos; holding [v] (truthy v)) := by intro _; rfl) : DT X B e (dB t) :=
  PT.imp (pt_val h he) fun _ _ _ h => lft_B h
/-! ### and, or, not -/
def dAnd (t u : TDb) : TDb := fun ρ M Q => t ρ M fun b M1 => (b = true → u ρ M1 Q) ∧ (b = false → Q false M1)
def dOr (t u : TDb) : TDb := fun ρ M Q => t ρ M fun b M1 => (b = true → Q true M1) ∧ (b = false → u ρ M1 Q)
def dNot (t : TDb) : TDb := fun ρ M Q => t ρ M fun b M1 => Q (!b) M1
theorem dw_and1 {a : Expr} {t : TDb} {pos : Pos} (h : DT X B a t) : DW X B (.BoolOp .And [a] pos) t := pw_and1 h
theorem dw_or1 {a : Expr} {t : TDb} {pos : Pos} (h : DT X B a t) : DW X B (.BoolOp .Or [a] pos) t := pw_or1 h
theorem dw_and {a b : Expr} {rest : List Expr} {t u : TDb} {pos : Pos} (ha : DT X B a t) (hb : DW X B (.BoolOp .And (b :: rest) pos) u) : DW X B (.BoolOp .And (a :: b :: rest) pos) (dAnd t u) := by
  refine PW.imp (pw_and ha hb) fun σ H Q h => ?_
  obtain ⟨ρ, M, R, hh, h, q⟩ := h
  refine ⟨ρ, M, _, hh, h, fun b M1 H1 h1 k1 m1 => ?_⟩
  cases b with
  | true =>
    rw [if_pos rfl]
    exact ⟨ρ, M1, R, hh.step k1 m1, h1.1 rfl, fun b M2 H2 h2 k2 m2 => q b M2 H2 h2 (k1.trans k2) m2⟩
  | false =>
    rw [if_neg Bool.false_ne_true]
    exact q _ _ _ (h1.2 rfl) k1 m1
theorem dw_or {a b : Expr} {rest : List Expr} {t u : TDb} {pos : Pos} (ha : DT X B a t) (hb : DW X B (.BoolOp .Or (b :: rest) pos) u) : DW X B (.BoolOp .Or (a :: b :: rest) pos) (dOr t u) := by
  refine PW.imp (pw_or ha hb) fun σ H Q h => ?_
  obtain ⟨ρ, M, R, hh, h, q⟩ := h
  refine ⟨ρ, M, _, hh, h, fun b M1 H1 h1 k1 m1 => ?_⟩
  cases b with
  | true =>
    rw [if_pos rfl]
    exact q _ _ _ (h1.1 rfl) k1 m1
  | false =>
    rw [if_neg Bool.false_ne_true]
    exact ⟨ρ, M1, R, hh.step k1 m1, h1.2 rfl, fun b M2 H2 h2 k2 m2 => q b M2 H2 h2 (k1.trans k2) m2⟩
theorem dw {e : Expr} {t : TDb} (h : DW X B e t) : DT X B e t := PW.pt h
theorem dt_not {a : Expr} {t : TDb} {pos : Pos} (h : DT X B a t) : DT X B (.UnaryOp .Not a pos) (dNot t) := by
  refine PT.imp (pt_not h) fun σ H Q h => ?_
  obtain ⟨ρ, M, R, hh, h, q⟩ := h
  exact ⟨ρ, M, _, hh, h, fun b M1 H1 h1 k1 m1 => q _ _ _ h1 k1 m1⟩
def dAndV (t u : TD) : TD := fun ρ M Q => t ρ M fun d M1 => d.onB fun b => (b = true → u ρ M1 Q) ∧ (b = false → Q (.bl false) M1)
def dNotV (t : TD) : TD := fun ρ M Q => t ρ M fun d M1 => d.onB fun b => Q (.bl (!b)) M1
theorem de_one {op} {a : Expr} {t : TD} {pos : Pos} (h : DE X B a t) : DE X B (.BoolOp op [a] pos) t := pe_one h
theorem de_and {a b : Expr} {rest : List Expr} {t u : TD} {pos : Pos} (ha : DE X B a t) (hb : DE X B (.BoolOp .And (b :: rest) pos) u) : DE X B (.BoolOp .And (a :: b :: rest) pos) (dAndV t u) := by
  refine PE.imp (pe_and ha hb) fun σ H Q h => ?_
  obtain ⟨ρ, M, R, hh, h, q⟩ := h
  refine ⟨ρ, M, _, hh, h, fun d M1 v H1 h1 k1 m1 r1 => ?_⟩
  cases d with
  | bl b =>
    unfold RepV at r1
    refine ⟨b, r1, ?_⟩
    cases b with
    | true =>
      rw [if_pos rfl]
      exact ⟨ρ, M1, R, hh.step k1 m1, h1.1 rfl, fun b M2 v2 H2 h2 k2 m2 r2 => q b M2 v2 H2 h2 (k1.trans k2) m2 r2⟩
    | false =>
      rw [if_neg Bool.false_ne_true]
      exact q _ _ _ _ (h1.2 rfl) k1 m1 rBl
  | _ => exact h1.elim
theorem de_not {a : Expr} {t : TD} {pos : Pos} (ha : DE X B a t) : DE X B (.UnaryOp .Not a pos) (dNotV t) := by
  refine PE.imp (pe_not ha) fun σ H Q h => ?_
  obtain ⟨ρ, M, R, hh, h, q⟩ := h
  refine ⟨ρ, M, _, hh, h, fun d M1 v H1 h1 k1 m1 r1 => ?_⟩
  cases d with
  | bl b => unfold RepV at r1; exact ⟨b, r1, q _ _ _ _ h1 k1 m1 rBl⟩
  | _ => exact h1.elim
def dIf (t : TDb) (ta tb : TD) : TD := fun ρ M Q => t ρ M fun b M1 => (b = true → ta ρ M1 Q) ∧ (b = false → tb ρ M1 Q)
theorem de_if {c a b : Expr} {t : TDb} {ta tb : TD} {pos : Pos} (hc : DT X B c t) (ha : DE X B a ta) (hb : DE X B b tb) : DE X B (.IfExp c a b pos) (dIf t ta tb) := by
  refine PE.imp (pe_ifExp hc ha hb) fun σ H Q h => ?_
  obtain ⟨ρ, M, R, hh, h, q⟩ := h
  refine ⟨ρ, M, _, hh, h, fun b M1 H1 h1 k1 m1 => ?_⟩
  cases b with
  | true =>
    rw [if_pos rfl]
    exact ⟨ρ, M1, R, hh.step k1 m1, h1.1 rfl, fun b M2 v2 H2 h2 k2 m2 r2 => q b M2 v2 H2 h2 (k1.trans k2) m2 r2⟩
  | false =>
    rw [if_neg Bool.false_ne_true]
    exact ⟨ρ, M1, R, hh.step k1 m1, h1.2 rfl, fun b M2 v2 H2 h2 k2 m2 r2 => q b M2 v2 H2 h2 (k1.trans k2) m2 r2⟩

/-! ### argument lists, displays -/
def dNil : TDs := fun _ M Q => Q [] M
def dCons (ta : TD) (tr : TDs) : TDs := fun ρ M Q => ta ρ M fun x M1 => tr ρ M1 fun xs M2 => Q (x :: xs) M2
theorem da_nil : DA X B [] dNil := PA.imp pa_nil fun σ H Q ⟨ρ, M, R, hh, h, q⟩ => q [] M [] H h .rfl' hh.m .nil
theorem da_cons {e : Expr} {es : List Expr} {te : TD} {t : TDs} (ha : DE X B e te) (hr : DA X B es t) (hs : starEach (e :: es) X.env = (false, eval e X.env) :: starEach es X.env := by rfl) : DA X B (e :: es) (dCons te t) := by
  refine PA.imp (pa_cons ha hr hs) fun σ H Q h => ?_
  obtain ⟨ρ, M, R, hh, h, q⟩ := h
  refine ⟨ρ, M, _, hh, h, fun d M1 v H1 h1 k1 m1 r1 => ?_⟩
  refine ⟨ρ, M1, _, hh.step k1 m1, h1, fun ds M2 vs H2 h2 k2 m2 r2 => ?_⟩
  exact q (d :: ds) M2 (v :: vs) H2 h2 (k1.trans k2) m2 (.cons (RepV.keep k2 d v r1) r2)
def dTup (t : TDs) : TD := fun ρ M Q => t ρ M fun xs M1 => xs.length ≤ sizeLine ∧ Q (.tup xs) M1
def dLst (t : TDs) : TD := fun ρ M Q => t ρ M fun xs M1 => xs.length ≤ sizeLine ∧ Q (.lst xs) M1
/-- a list that will change -/
def dLstM (t : TDs) : TD := fun ρ M Q => t ρ M fun xs M1 => xs.length ≤ sizeLine ∧ ∀ p, M1 p = none → Q (.ref p) (um M1 p (.lst xs))
theorem de_tup {es : List Expr} {t : TDs} {x1 pos} (h : DA X B es t) : DE X B (.Tuple es x1 pos) (dTup t) := by
  refine PE.imp (pe_tup h) fun σ H Q h => ?_
  obtain ⟨ρ, M, R, hh, h, q⟩ := h
  refine ⟨ρ, M, _, hh, h, fun ds M1 vs H1 h1 k1 m1 r1 => ⟨by rw [← r1.length]; exact h1.1, fun p n => ?_⟩⟩
  refine q _ _ _ _ h1.2 (k1.trans (Keep.new m1 n)) (m1.new n) ?_
  unfold RepV
  exact ⟨p, vs, rfl, m1.free n, (.inl upd_same), RepVs.new m1 n r1⟩
theorem de_lst {es : List Expr} {t : TDs} {x1 : Pos} (h : DA X B es t) : DE X B (.List es x1) (dLst t) := by
  refine PE.imp (pe_lst h) fun σ H Q h => ?_
  obtain ⟨ρ, M, R, hh, h, q⟩ := h
  refine ⟨ρ, M, _, hh, h, fun ds M1 vs H1 h1 k1 m1 r1 => ⟨by rw [← r1.length]; exact h1.1, fun p n => ?_⟩⟩
  refine q _ _ _ _ h1.2 (k1.trans (Keep.new m1 n)) (m1.new n) ?_
  unfold RepV
  exact ⟨p, vs, rfl, m1.free n, upd_same, RepVs.new m1 n r1⟩
theorem de_lstM {es : List Expr} {t : TDs} {x1 : Pos} (h : DA X B es t) : DE X B (.List es x1) (dLstM t) := by
  refine PE.imp (pe_lst h) fun σ H Q h => ?_
  obtain ⟨ρ, M, R, hh, h, q⟩ := h
  refine ⟨ρ, M, _, hh, h, fun ds M1 vs H1 h1 k1 m1 r1 => ⟨by rw [← r1.length]; exact h1.1, fun p n => ?_⟩⟩
  have k2 : Keep M1 H1 (um M1 p (.lst ds)) (upd H1 p (.lst vs)) := Keep.newM m1 n
  exact q _ _ _ _ (h1.2 p (m1.free n)) (k1.trans k2) (m1.newM n ⟨vs, upd_same, RepVs.keep k2 _ _ r1⟩) (by unfold RepV; rfl)
/-! ### subscripts -/
def gIx : DR2 := fun x y M Q => match x, y with
  | .tup xs, .int i => match atI xs i with
    | some d => Q d M
    | none => False
  | .scr ns, .int i => match atI ns i with
    | some d => Q (.int d) M
    | none => False
  | .str z, .int i => z.length ≤ sizeLine ∧ (match atI z.cps.toList i with
    | some c => Q (.str ⟨#[c]⟩) M
    | none => False)
  | x, .int i => match asL M x with
    | some xs => (match atI xs i with
      | some d => Q d M
      | none => False)
    | none => False
  | _, _ => False
theorem atI_rep {K : PySem.W.Frag} {mg : Str → Option Value} {M : Mp} {H : Hp} {ds : List D} {vs : List V} {i : Int} {d : D} (r : RepVs K mg M H ds vs) (h : atI ds i = some d) : ∃ v, atI vs i = some v ∧ RepV K mg M H d v := by
  unfold atI at h ⊢
  rw [← r.length]
  cases e : ixN ds.length i with
  | none => rw [e] at h; simp at h
  | some j =>
    rw [e] at h
    exact r.get (i := j) (by simpa using h)
theorem atI_map {α β : Type} (f : α → β) (xs : List α) (i : Int) : atI (xs.map f) i = (atI xs i).map f := by
  unfold atI
  rw [List.length_map]
  cases ixN xs.length i <;> simp
theorem opc_ix : OpC X (rIx X.K) gIx := by
  intro M H d1 d2 v1 v2 R Q m r1 r2 g q
  unfold gIx at g
  split at g
  · rename_i xs i
    unfold RepV at r1 r2
    obtain ⟨a, vs, rfl, na, ha, ra⟩ := r1
    split at g
    · rename_i d e
      obtain ⟨v, e1, rv⟩ := atI_rep ra e
      exact .inr (.inl ⟨a, vs, i, v, rfl, r2, TupH.sq ha, e1, q _ _ _ _ g .rfl' m rv⟩)
    · exact g.elim
  · rename_i ns i
    obtain ⟨a, rfl, ha⟩ := scr_at r1
    unfold RepV at r2
    split at g
    · rename_i d e
      exact .inl ⟨a, _, i, .int d, rfl, r2, ha, by rw [atI_map, e]; rfl, q _ _ _ _ g .rfl' m rInt⟩
    · exact g.elim
  · rename_i z i
    unfold RepV at r1 r2
    obtain ⟨g0, g⟩ := g
    split at g
    · rename_i c e
      exact .inr (.inr ⟨z, i, c, r1, r2, g0, e, q _ _ _ _ g .rfl' m rStr⟩)
    · exact g.elim
  · rename_i i _ _ _
    unfold RepV at r2
    split at g
    · rename_i xs e0
      obtain ⟨a, vs, rfl, ha, ra⟩ := asL_at e0 m r1
      split at g
      · rename_i d e
        obtain ⟨v, e1, rv⟩ := atI_rep ra e
        exact .inl ⟨a, vs, i, v, rfl, r2, SqL.of ha, e1, q _ _ _ _ g .rfl' m rv⟩
      · exact g.elim
    · exact g.elim
  · exact g.elim
theorem de_ix {a b : Expr} {ta tb : TD} {pos : Pos} (ha : DE X B a ta) (hb : DE X B b tb) (hs : PlainIx b := by exact fun _ _ => rfl) : DE X B (.Subscript a b pos) (dOp gIx ta tb) :=
  PE.imp (pe_ix ix_seq ha hb hs) fun _ _ _ h => lft_op opc_ix h
abbrev TDo := Rho → Mp → (Option Int → Mp → Prop) → Prop
def dNoPart : TDo := fun _ M Q => Q none M
def dPart (t : TD) : TDo := fun ρ M Q => t ρ M fun d M1 => match d with | .int i => Q (some i) M1 | _ => False
def lftO (X : Cx) (B : At) (t : TDo) : TO := fun σ H Q => ∃ ρ M R, Here X B ρ σ M H ∧ t ρ M R ∧ ∀ b M' H', R b M' → Keep M H M' H' → RepM X.K X.mg M' H' → Q b H'
def DO (X : Cx) (B : At) (e : Option Expr) (t : TDo) : Prop := PO X e (lftO X B t)
theorem PO.imp {e : Option Expr} {t u : TO} (h : PO X e t) (q : ∀ σ H Q, u σ H Q → t σ H Q) : PO X e u := ⟨fun pins s σ H Q I z => h.run pins s σ H Q I (q _ _ _ z)⟩
theorem do_none : DO X B none dNoPart := PO.imp po_none fun σ H Q ⟨ρ, M, R, hh, h, q⟩ => q _ _ _ h .rfl' hh.m
theorem do_some {e : Expr} {t : TD} (h : DE X B e t) : DO X B (some e) (dPart t) := by
  refine PO.imp (po_some h) fun σ H Q h => ?_
  obtain ⟨ρ, M, R, hh, h, q⟩ := h
  refine ⟨ρ, M, _, hh, h, fun d M1 v H1 h1 k1 m1 r1 => ?_⟩
  split at h1
  · rename_i i
    unfold RepV at r1
    exact ⟨i, r1, q _ _ _ h1 k1 m1⟩
  · exact h1.elim
def dSl (te : TD) (tl th : TDo) : TD := fun ρ M Q => te ρ M fun x M1 => tl ρ M1 fun l M2 => th ρ M2 fun u M3 => match x with
  | .tup xs => Q (.tup (cutL xs l u)) M3
  | .scr ns => Q (.lst ((cutL ns l u).map D.int)) M3
  | x => match asL M3 x with
    | some xs => Q (.lst (cutL xs l u)) M3
    | none => False
theorem cutL_map {α β : Type} (f : α → β) (xs : List α) (l u : Option Int) : cutL (xs.map f) l u = (cutL xs l u).map f := by
  unfold cutL
  rw [List.length_map, List.map_take, List.map_drop]
theorem cutV_eq (xs : List V) (l u : Option Int) : cutV xs l u = cutL xs l u := rfl
theorem cutL_whole {α : Type} (xs : List α) (l u : Option Int) (h : HT.sIx xs.length 0 l = 0 ∧ HT.sIx xs.length xs.length u = xs.length) : cutL xs l u = xs := by
  unfold cutL
  rw [h.1, h.2]
  simp
theorem de_slice {e : Expr} {lo hi : Option Expr} {te : TD} {tl th : TDo} {p2 pos : Pos} (he : DE X B e te) (hl : DO X B lo tl) (hu : DO X B hi th) : DE X B (.Subscript e (.Slice lo hi none p2) pos) (dSl te tl th) := by
  refine PE.imp (pe_slice (sl_tupA.or sl_list) he hl hu) fun σ H Q h => ?_
  obtain ⟨ρ, M, R, hh, h, q⟩ := h
  refine ⟨ρ, M, _, hh, h, fun d M1 v H1 h1 k1 m1 r1 => ?_⟩
  refine ⟨ρ, M1, _, hh.step k1 m1, h1, fun l M2 H2 h2 k2 m2 => ?_⟩
  refine ⟨ρ, M2, _, (hh.step k1 m1).step k2 m2, h2, fun u M3 H3 h3 k3 m3 => ?_⟩
  have r := RepV.keep (k2.trans k3) d v r1
  have kk := (k1.trans k2).trans k3
  split at h3
  · rename_i xs
    have r' := r
    unfold RepV at r
    obtain ⟨a, vs, rfl, na, ha, ra⟩ := r
    refine .inl ⟨a, vs, rfl, TupH.sq ha, fun w => ?_, fun _ p n => ?_⟩
    · have w' : HT.sIx xs.length 0 l = 0 ∧ HT.sIx xs.length xs.length u = xs.length := by rw [ra.length]; exact w
      exact q _ _ _ _ h3 kk m3 (by rw [cutL_whole xs l u w']; exact r')
    · refine q _ _ _ _ h3 (kk.trans (Keep.new m3 n)) (m3.new n) ?_
      unfold RepV
      exact ⟨p, _, rfl, m3.free n, (.inl upd_same), RepVs.new m3 n (ra.cut l u)⟩
  · rename_i ns
    obtain ⟨a, rfl, ha⟩ := scr_at r
    refine .inr ⟨a, _, rfl, ha, fun p n => ?_⟩
    refine q _ _ _ _ h3 (kk.trans (Keep.new m3 n)) (m3.new n) ?_
    unfold RepV
    exact ⟨p, _, rfl, m3.free n, upd_same, by rw [cutV_eq, cutL_map]; exact RepVs.ints _⟩
  · split at h3
    · rename_i xs e0
      obtain ⟨a, vs, rfl, ha, ra⟩ := asL_at e0 m3 r
      refine .inr ⟨a, _, rfl, SqL.of ha, fun p n => ?_⟩
      refine q _ _ _ _ h3 (kk.trans (Keep.new m3 n)) (m3.new n) ?_
      unfold RepV
      exact ⟨p, _, rfl, m3.free n, upd_same, RepVs.new m3 n (ra.cut l u)⟩
    · exact h3.elim
end
end DL
/-! The D layer, part d: statements, loops. -/
namespace DL
open PySem PySem.Spec L2

/-- for less that is told -/
def Wk (P : Mp → Prop) (M : Mp) : Prop := ∃ M0, MLe M0 M ∧ P M0
theorem Wk.of {P : Mp → Prop} {M : Mp} (h : P M) : Wk P M := ⟨M, .rfl', h⟩

section
variable {X : Cx} {B : At}
/-! ### blocks -/
def dNext : TDS := fun E ρ M => E.nx ρ M
def dSeq (t u : TDS) : TDS := fun E ρ M => t { E with nx := u E } ρ M
theorem dss_nil : DSs X B [] dNext := PSs.imp pss_nil fun D σ H ⟨C, ρ, M, E, kb, hh, le, h⟩ => le.nx _ _ _ _ hh h
theorem dss_cons {s : Stmt} {ss : List Stmt} {t u : TDS} (h1 : DS X B s t) (h2 : DSs X B ss u) : DSs X B (s :: ss) (dSeq t u) :=
  PSs.imp (pss_cons h1 h2) fun D σ H ⟨C, ρ, M, E, kb, hh, le, h⟩ =>
    ⟨C, ρ, M, { E with nx := u E }, kb, hh, ⟨fun ρ' σ' M' H' h' q => ⟨C, ρ', M', E, kb, h', le, q⟩, le.bk, le.ct, le.rt⟩, h⟩
theorem dss_one {s : Stmt} {t : TDS} (h1 : DS X B s t) : DSs X B [s] t := pss_one h1
def dNever : TDS := fun _ _ _ => False
theorem ds_never {s : Stmt} : DS X B s dNever := PS.imp ps_never fun D σ H ⟨_, _, _, _, _, _, _, h⟩ => h
def dDrop (t : TD) : TDS := fun E ρ M => t ρ M fun _ M1 => E.nx ρ M1
theorem ds_expr {e : Expr} {t : TD} {pos : Pos} (h : DE X B e t) (hs : swapsWith e none pos.line X.env = pure false := by rfl) : DS X B (.Expr e pos) (dDrop t) :=
  PS.imp (ps_expr h hs) fun D σ H ⟨C, ρ, M, E, kb, hh, le, h⟩ => ⟨ρ, M, _, hh.base kb, h, fun d M1 v H1 h1 k1 m1 _ => le.nx _ _ _ _ (hh.step k1 m1) h1⟩
def dRet (t : TD) : TDS := fun E ρ M => t ρ M E.rt
theorem ds_ret {e : Expr} {t : TD} {pos : Pos} (h : DE X B e t) : DS X B (.Return (some e) pos) (dRet t) :=
  PS.imp (ps_ret h) fun D σ H ⟨C, ρ, M, E, kb, hh, le, h⟩ => ⟨ρ, M, _, hh.base kb, h, fun d M1 v H1 h1 k1 m1 r1 => le.rt _ _ _ _ (hh.k.trans k1) m1 r1 h1⟩
def dIfS (c : TDb) (t u : TDS) : TDS := fun E ρ M => c ρ M fun b M1 => (b = true → t E ρ M1) ∧ (b = false → u E ρ M1)
theorem ds_if {c : Expr} {a b : List Stmt} {tc : TDb} {t u : TDS} {pos : Pos} (hc : DT X B c tc) (ha : DSs X B a t) (hb : DSs X B b u) : DS X B (.If c a b pos) (dIfS tc t u) := by
  refine PS.imp (ps_if hc ha hb) fun D σ H h => ?_
  obtain ⟨C, ρ, M, E, kb, hh, le, h⟩ := h
  refine ⟨ρ, M, _, hh.base kb, h, fun b M1 H1 h1 k1 m1 => ?_⟩
  cases b with
  | true => exact iteT ⟨C, ρ, M1, E, kb, hh.step k1 m1, le, h1.1 rfl⟩
  | false => exact iteF ⟨C, ρ, M1, E, kb, hh.step k1 m1, le, h1.2 rfl⟩
theorem dm_le {M : Mp} {a : Addr} : MLe (dm M a) M := fun b o e => by
  by_cases q : b = a
  · subst q; rw [dm_same] at e; cases e
  · rw [dm_ne q] at e; exact e
/-! ### targets, stores -/
def dgName (i : Nat) : TDG := fun d ρ M Q => Q (ρ.set i (some d)) M
theorem dg_name {i : Nat} {x : Str} {pos : Pos} (hN : X.N.Nodup) (hi : X.N[i]? = some x) (hx : Loc X.env.scope x) (hf : X.fn x = true ∨ X.env.scope.names.lookup x = some .local := by first | exact .inl rfl | exact .inr rfl | assumption) : DG X B (.Name x pos) (dgName i) := by
  refine PG.imp (pg_name hN hi hx hf) fun v σ H Q h => ?_
  obtain ⟨ρ, M, d, R, hh, r, h, q⟩ := h
  exact q _ _ _ _ h .rfl' (hh.set r)
def dgNil : TDGs := fun ds ρ M Q => match ds with | [] => Q ρ M | _ => False
def dgCons (t : TDG) (u : TDGs) : TDGs := fun ds ρ M Q => match ds with | d :: r => t d ρ M fun ρ' M' => u r ρ' M' Q | [] => False
theorem dgs_nil : DGs X B [] dgNil := by
  refine PGs.imp pgs_nil fun vs σ H Q h => ?_
  obtain ⟨ρ, M, ds, R, hh, r, h, q⟩ := h
  cases ds with
  | nil => unfold RepVs at r; exact ⟨r, q _ _ _ _ h .rfl' hh⟩
  | cons => exact h.elim
theorem dgs_cons {e : Expr} {es : List Expr} {t : TDG} {u : TDGs} (h1 : DG X B e t) (h2 : DGs X B es u)
    (hs : (assignEach (e :: es) X.env).map (·.2) = assign e X.env :: (assignEach es X.env).map (·.2) := by rfl) : DGs X B (e :: es) (dgCons t u) := by
  refine PGs.imp (pgs_cons h1 h2 hs) fun vs σ H Q h => ?_
  obtain ⟨ρ, M, ds, R, hh, r, h, q⟩ := h
  cases ds with
  | nil => exact h.elim
  | cons d ds =>
    unfold RepVs at r
    obtain ⟨v, vr, rfl, rv, rs⟩ := r
    refine ⟨v, vr, rfl, ρ, M, d, _, hh, rv, h, fun ρ1 M1 σ1 H1 h1 k1 hh1 => ?_⟩
    exact ⟨ρ1, M1, ds, R, hh1, RepVs.keep k1 _ _ rs, h1, fun ρ2 M2 σ2 H2 h2 k2 hh2 => q ρ2 M2 σ2 H2 h2 (k1.trans k2) hh2⟩
def dgTup (u : TDGs) : TDG := fun d ρ M Q => match d with | .tup xs => u xs ρ M Q | _ => False
theorem dg_tup {es : List Expr} {k : Nat} {u : TDGs} {pos : Pos} (hc : X.calm = true) (h : DGs X B es u)
    (ul : ∀ ds ρ M Q, u ds ρ M Q → ds.length = (assignEach es X.env).length)
    (hst : (assignEach es X.env).findIdx? (·.1) = none := by rfl) : DG X B (.Tuple es k pos) (dgTup u) := by
  refine PG.imp (pg_tup hc h rfl hst) fun v σ H Q h => ?_
  obtain ⟨ρ, M, d, R, hh, r, h, q⟩ := h
  unfold dgTup at h
  split at h
  · rename_i xs
    unfold RepV at r
    obtain ⟨a, vs, rfl, na, ha, ra⟩ := r
    exact ⟨a, vs, rfl, TupH.sq ha, by rw [← ra.length]; exact ul _ _ _ _ h, ρ, M, xs, R, hh, ra, h, q⟩
  · exact h.elim
theorem ul_nil {n : Nat} (hn : 0 = n := by rfl) : ∀ ds ρ M Q, dgNil ds ρ M Q → ds.length = n := fun ds ρ M Q h => by
  cases ds with
  | nil => exact hn
  | cons => exact h.elim
theorem ul_cons {t : TDG} {u : TDGs} {n : Nat} (mt : ∀ d ρ M (Q : Rho → Mp → Prop), t d ρ M Q → ∃ ρ' M', Q ρ' M') (h : ∀ ds ρ M Q, u ds ρ M Q → ds.length = n) : ∀ ds ρ M Q, dgCons t u ds ρ M Q → ds.length = n + 1 := fun ds ρ M Q h' => by
  cases ds with
  | nil => exact h'.elim
  | cons d ds =>
    obtain ⟨ρ', M', q⟩ := mt _ _ _ _ h'
    show ds.length + 1 = n + 1
    rw [h _ _ _ _ q]
theorem mt_name {i : Nat} : ∀ d ρ M (Q : Rho → Mp → Prop), dgName i d ρ M Q → ∃ ρ' M', Q ρ' M' := fun _ _ _ _ h => ⟨_, _, h⟩
/-- xs[i] = v, xs a list that may change -/
def dgSub (to ti : TD) : TDG := fun d ρ M Q => to ρ M fun o M1 => ti ρ M1 fun i M2 => match o, i with
  | .ref a, .int k => (match M2 a with
    | some (.lst ds) => (match ixN ds.length k with
      | some j => Q ρ (um M2 a (.lst (ds.set j d)))
      | none => False)
    | _ => False)
  | _, _ => False
theorem dg_sub {o i : Expr} {to ti : TD} {pos : Pos} (ho : DE X B o to) (hi : DE X B i ti)
    (ha : ∀ v, assign (.Subscript o i pos) X.env v = (do
      let ov ← holding [v] (eval o X.env)
      let iv ← holding [v, ov] (eval i X.env)
      standAt pos
      holding [v, ov, iv] (setItem ov iv v)
      release [v, ov, iv] []) := by intro _; rfl) : DG X B (.Subscript o i pos) (dgSub to ti) := by
  refine PG.imp (pg_sub ho hi set_list ha) fun v σ H Q h => ?_
  obtain ⟨ρ, M, d, R, hh, r, h, q⟩ := h
  refine ⟨ρ, M, _, hh, h, fun o M1 vo H1 h1 k1 m1 r1 => ?_⟩
  refine ⟨ρ, M1, _, hh.step k1 m1, h1, fun i M2 vi H2 h2 k2 m2 r2 => ?_⟩
  split at h2
  · rename_i a k
    have r1' := RepV.keep k2 _ _ r1
    unfold RepV at r1' r2
    cases e : M2 a with
    | none => rw [e] at h2; exact h2.elim
    | some w =>
      rw [e] at h2
      cases w with
      | ins c fs => exact h2.elim
      | dK kvs => exact h2.elim
      | dT kvs => exact h2.elim
      | cel _ => exact h2.elim
      | clo _ _ => exact h2.elim
      | lst ds =>
        dsimp only at h2
        cases e3 : ixN ds.length k with
        | none => rw [e3] at h2; exact h2.elim
        | some j =>
          rw [e3] at h2
          obtain ⟨vs, ha, ra⟩ := m2 a _ e
          refine ⟨a, vs, k, j, r1', r2, ha, by rw [← ra.length]; exact e3, ?_⟩
          have kw : Keep M2 H2 (um M2 a (.lst (ds.set j d))) (upd H2 a (.lst (vs.set j v))) := Keep.write e
          have hh2 := (hh.step k1 m1).step k2 m2
          refine q _ _ _ _ h2 ((k1.trans k2).trans kw) (hh2.step kw (m2.write e ⟨_, upd_same, ?_⟩))
          exact RepVs.keep kw _ _ (RepVs.set j (RepV.keep (k1.trans k2) d v r) ra)
  · exact h2.elim
def dAsg (t : TD) (g : TDG) : TDS := fun E ρ M => t ρ M fun d M1 => g d ρ M1 E.nx
theorem lft_asg {t : TD} {g : TDG} {D : Ends} {σ : L2.St} {H : Hp} (h : lftS X B (dAsg t g) D σ H) : tAsg (lft X B t) (lftG X B g) D σ H := by
  obtain ⟨C, ρ, M, E, kb, hh, le, h⟩ := h
  exact ⟨ρ, M, _, hh.base kb, h, fun d M1 v H1 h1 k1 m1 r1 => ⟨ρ, M1, d, _, (hh.step k1 m1).base kb, r1, h1, fun ρ2 M2 σ2 H2 h2 k2 hh2 => le.nx _ _ _ _ (hh2.up ((hh.k.trans k1).trans k2)) h2⟩⟩
theorem ds_asg {tg e : Expr} {t : TD} {g : TDG} {pos : Pos} (he : DE X B e t) (hg : DG X B tg g) (hs : swapsWithSole [tg] e pos.line X.env = pure false := by rfl) (hw : swappedStores [tg] e X.env = pure none := by rfl)
    (h1 : (assignEach [tg] X.env).map (·.2) = [assign tg X.env] := by rfl) : DS X B (.Assign [tg] e pos) (dAsg t g) :=
  PS.imp (ps_asg he hg hs hw h1) fun D σ H h => lft_asg h
theorem ds_set {i : Nat} {x : Str} {e : Expr} {t : TD} {pos pos' : Pos} (hN : X.N.Nodup) (hi : X.N[i]? = some x) (hx : Loc X.env.scope x) (he : DE X B e t) (hs : swapsWith e (some (.Name x pos')) pos.line X.env = pure false := by rfl) (hf : X.fn x = true ∨ X.env.scope.names.lookup x = some .local := by first | exact .inl rfl | exact .inr rfl | assumption) :
    DS X B (.Assign [.Name x pos'] e pos) (dAsg t (dgName i)) := by
  refine PS.imp (ps_set hN hi hx he hs hf) fun D σ H h => ?_
  obtain ⟨C, ρ, M, E, kb, hh, le, h⟩ := h
  exact ⟨ρ, M, _, hh.base kb, h, fun d M1 v H1 h1 k1 m1 r1 => le.nx _ _ _ _ ((hh.step k1 m1).set r1) h1⟩
/-- a, b = x, y; a, b, c = x, y, z: plain local names -/
def dPar (is : List Nat) (t : TDs) : TDS := fun E ρ M => t ρ M fun ds M1 => ds.length = is.length ∧ E.nx ((is.zip ds).foldl (fun r p => r.set p.1 (some p.2)) ρ) M1
theorem ds_par {i j : Nat} {x y : Str} {a b : Expr} {ta : TDs} {px py pt pos : Pos} {kt k2 pt2} (hc : X.calm = true) (hN : X.N.Nodup) (hi : X.N[i]? = some x) (hj : X.N[j]? = some y) (hij : i ≠ j)
    (hx : X.env.scope.names.lookup x = some .local) (hy : X.env.scope.names.lookup y = some .local) (ha : DA X B [a, b] ta)
    (hw : swappedStores [.Tuple [.Name x px, .Name y py] kt pt] (.Tuple [a, b] k2 pt2) X.env = pure (some [x, y]))
    (hs : swapsWithSole [.Tuple [.Name x px, .Name y py] kt pt] (.Tuple [a, b] k2 pt2) pos.line X.env = pure false := by rfl) :
    DS X B (.Assign [.Tuple [.Name x px, .Name y py] kt pt] (.Tuple [a, b] k2 pt2) pos) (dPar [i, j] ta) := by
  refine PS.imp (ps_par hc hN hi hj hij hx hy ha hw hs) fun D σ H h => ?_
  obtain ⟨C, ρ, M, E, kb, hh, le, h⟩ := h
  refine ⟨ρ, M, _, hh.base kb, h, fun ds M1 vs H1 h1 k1 m1 r1 => ?_⟩
  obtain ⟨hl, h1⟩ := h1
  match ds, hl, r1 with
  | [d, e], _, r1 =>
    unfold RepVs at r1
    obtain ⟨v, vr, rfl, rv, r2⟩ := r1
    unfold RepVs at r2
    obtain ⟨w, wr, rfl, rw', r3⟩ := r2
    unfold RepVs at r3
    subst r3
    exact ⟨v, w, rfl, le.nx _ _ _ _ (((hh.step k1 m1).set rv).set rw') h1⟩
theorem ds_par3 {i j l : Nat} {x y z : Str} {a b c : Expr} {ta : TDs} {px py pz pt pos : Pos} {kt k2 pt2} (hc : X.calm = true) (hN : X.N.Nodup) (hi : X.N[i]? = some x) (hj : X.N[j]? = some y) (hl : X.N[l]? = some z) (hij : i ≠ j) (hil : i ≠ l) (hjl : j ≠ l)
    (hx : X.env.scope.names.lookup x = some .local) (hy : X.env.scope.names.lookup y = some .local) (hz : X.env.scope.names.lookup z = some .local) (ha : DA X B [a, b, c] ta)
    (hw : swappedStores [.Tuple [.Name x px, .Name y py, .Name z pz] kt pt] (.Tuple [a, b, c] k2 pt2) X.env = pure (some [x, y, z]))
    (hs : swapsWithSole [.Tuple [.Name x px, .Name y py, .Name z pz] kt pt] (.Tuple [a, b, c] k2 pt2) pos.line X.env = pure false := by rfl) :
    DS X B (.Assign [.Tuple [.Name x px, .Name y py, .Name z pz] kt pt] (.Tuple [a, b, c] k2 pt2) pos) (dPar [i, j, l] ta) := by
  refine PS.imp (ps_par3 hc hN hi hj hl hij hil hjl hx hy hz ha hw hs) fun D σ H h => ?_
  obtain ⟨C, ρ, M, E, kb, hh, le, h⟩ := h
  refine ⟨ρ, M, _, hh.base kb, h, fun ds M1 vs H1 h1 k1 m1 r1 => ?_⟩
  obtain ⟨hl, h1⟩ := h1
  match ds, hl, r1 with
  | [d, e, f], _, r1 =>
    unfold RepVs at r1
    obtain ⟨v, vr, rfl, rv, r2⟩ := r1
    unfold RepVs at r2
    obtain ⟨w, wr, rfl, rw', r3⟩ := r2
    unfold RepVs at r3
    obtain ⟨u, ur, rfl, ru, r4⟩ := r3
    unfold RepVs at r4
    subst r4
    exact ⟨v, w, u, rfl, le.nx _ _ _ _ ((((hh.step k1 m1).set rv).set rw').set ru) h1⟩
def dAug (i : Nat) (t : TD) (g : DR2) : TDS := fun E ρ M => match ρ[i]? with
  | some (some x) => t ρ M fun y M1 => g x y M1 fun z M2 => E.nx (ρ.set i (some z)) M2
  | _ => False
theorem ds_aug {i : Nat} {x : Str} {e : Expr} {t : TD} {op : Operator} {ti : TIp} {g : DR2} {pos pos' : Pos} (ho : PIp X op ti) (hc : OpC X ti g) (hN : X.N.Nodup) (hi : X.N[i]? = some x) (hx : Loc X.env.scope x) (he : DE X B e t)
    (hf : X.fn x = true ∨ X.env.scope.names.lookup x = some .local := by first | exact .inl rfl | exact .inr rfl | assumption) : DS X B (.AugAssign (.Name x pos') op e pos) (dAug i t g) := by
  refine PS.imp (ps_aug hN hi hx he ho hf) fun D σ H h => ?_
  obtain ⟨C, ρ, M, E, kb, hh, le, h⟩ := h
  unfold dAug at h
  split at h
  · rename_i d e1
    obtain ⟨v, e2, r⟩ := hh.s.2 i d e1
    refine ⟨v, e2, ρ, M, _, hh.base kb, h, fun y M1 vy H1 h1 k1 m1 r1 => ?_⟩
    exact hc M1 H1 d y v vy _ _ m1 (RepV.keep k1 d v r) r1 h1 fun z M2 vz H2 h2 k2 m2 r2 => le.nx _ _ _ _ (((hh.step k1 m1).step k2 m2).set r2) h2
  · exact h.elim

/-! ### while -/
def dWhileN (c : TDb) (t : TDS) (E : DEnds) : Nat → Rho → Mp → Prop
  | 0 => fun _ _ => False
  | n + 1 => fun ρ M => c ρ M fun b M1 => (b = true → t { E with nx := fun ρ' M' => Wk (dWhileN c t E n ρ') M', ct := fun ρ' M' => Wk (dWhileN c t E n ρ') M', bk := E.nx } ρ M1) ∧ (b = false → E.nx ρ M1)
def dWhile (c : TDb) (t : TDS) : TDS := fun E ρ M => ∃ n, dWhileN c t E n ρ M
theorem ds_while {c : Expr} {body : List Stmt} {tc : TDb} {t : TDS} {pos : Pos} (hp : PassesOwn (model X.prog X.w) X.A X.env X.xe) (hc : DT X B c tc) (hb : DSs X B body t) : DS X B (.While c body [] pos) (dWhile tc t) := by
  refine PS.imp (ps_while hp hc hb) fun D σ H h => ?_
  obtain ⟨C, ρ, M, E, kb, hh, le, n, h⟩ := h
  refine ⟨fun m σ H => ∃ ρ M, Here X C ρ σ M H ∧ dWhileN tc t E m ρ M, ⟨n, ρ, M, hh, h⟩, ?_⟩
  rintro m σ1 H1 ⟨ρ1, M1, hh1, h1⟩
  cases m with
  | zero => exact h1.elim
  | succ m =>
    refine ⟨ρ1, M1, _, hh1.base kb, h1, fun b M2 H2 h2 k2 m2 => ?_⟩
    have hh2 := hh1.step k2 m2
    cases b with
    | false => exact iteF (le.nx _ _ _ _ hh2 (h2.2 rfl))
    | true =>
      refine iteT ⟨fun σ' H' => ∃ ρ M, Here X C ρ σ' M H' ∧ dWhileN tc t E m ρ M, fun σ' H' q => ⟨m, Nat.lt_succ_self m, q⟩, C, ρ1, M2, _, kb, hh2, ⟨?_, ?_, ?_, ?_⟩, h2.1 rfl⟩
      · exact fun ρ' σ' M' H' h' q => let ⟨M0, l, w⟩ := q; ⟨ρ', M0, h'.less l, w⟩
      · exact le.nx
      · exact fun ρ' σ' M' H' h' q => let ⟨M0, l, w⟩ := q; ⟨ρ', M0, h'.less l, w⟩
      · exact le.rt
/-! ### for -/
def forL (g : TDG) (t : TDS) (E : DEnds) : List D → Rho → Mp → Prop
  | [] => fun ρ M => E.nx ρ M
  | d :: ds => fun ρ M => g d ρ M fun ρ1 M1 => t { E with nx := fun ρ' M' => Wk (forL g t E ds ρ') M', ct := fun ρ' M' => Wk (forL g t E ds ρ') M', bk := E.nx } ρ1 M1
def dFor (ti : TDI) (g : TDG) (t : TDS) : TDS := fun E ρ M => ti ρ M fun items M1 => forL g t E items ρ M1
theorem ds_for {tg iter : Expr} {body : List Stmt} {ti : TDI} {g : TDG} {t : TDS} {pos : Pos} (hp : PassesOwn (model X.prog X.w) X.A X.env X.xe) (hc : X.calm = true) (hi : DI X B tg iter ti) (hg : DG X B tg g) (hb : DSs X B body t)
    (hs : ∀ x, foldedSetIterable iter X.env x = pure x := by intro _; rfl) : DS X B (.For tg iter body [] pos) (dFor ti g t) := by
  refine PS.imp (ps_for hp hc hi hg hb hs) fun D σ H h => ?_
  obtain ⟨C, ρ, M, E, kb, hh, le, h⟩ := h
  refine ⟨ρ, M, _, hh.base kb, h, fun items M1 J H1 h1 k1 m1 sv => ?_⟩
  have hh1 := hh.step k1 m1
  have kC : Keep B.M B.H M1 H1 := kb.trans hh1.k
  have leC : EndsLe X ⟨M1, H1⟩ E D := le.later (C' := ⟨M1, H1⟩) hh1.k
  refine ⟨fun i m σ H => ∃ ρ M, Here X ⟨M1, H1⟩ ρ σ M H ∧ i ≤ items.length ∧ m = items.length - i ∧ forL g t E (items.drop i) ρ M, ⟨_, ρ, M1, ⟨hh1.s, hh1.m, .rfl'⟩, Nat.zero_le _, rfl, by simpa using h1⟩, ?_⟩
  rintro i m σ2 H2 ⟨ρ2, M2, hh2, hi2, em, h2⟩
  obtain ⟨stop, go⟩ := sv M2 H2 hh2.k hh2.m i
  by_cases hlt : i < items.length
  · have ed : items.drop i = items[i] :: items.drop (i + 1) := List.drop_eq_getElem_cons hlt
    rw [ed] at h2
    obtain ⟨g1, g2⟩ := go items[i] (List.getElem?_eq_getElem hlt)
    refine .inr ⟨g1, fun σ' H' => ∃ ρ M, Here X ⟨M1, H1⟩ ρ σ' M H' ∧ forL g t E (items.drop (i + 1)) ρ M, fun σ' H' q => ?_, fun x H3 y => ?_⟩
    · obtain ⟨ρ', M', a1, a3⟩ := q
      exact ⟨items.length - (i + 1), by omega, ρ', M', a1, by omega, rfl, a3⟩
    · obtain ⟨k3, m3, r3⟩ := g2 x H3 y
      have hh3 := hh2.step k3 m3
      refine ⟨ρ2, M2, items[i], _, hh3.base kC, r3, h2, fun ρ4 M4 σ4 H4 h4 k4 hh4 => ?_⟩
      refine ⟨⟨M1, H1⟩, ρ4, M4, _, kC, hh4.up (hh3.k.trans k4), ⟨?_, ?_, ?_, ?_⟩, h4⟩
      · exact fun ρ' σ' M' H' h' q => let ⟨M0, l, w⟩ := q; ⟨ρ', M0, h'.less l, w⟩
      · exact leC.nx
      · exact fun ρ' σ' M' H' h' q => let ⟨M0, l, w⟩ := q; ⟨ρ', M0, h'.less l, w⟩
      · exact leC.rt
  · have e : items.drop i = [] := List.drop_of_length_le (by omega)
    rw [e] at h2
    exact .inl ⟨stop (by omega), leC.nx _ _ _ _ hh2 h2⟩
end
end DL
/-! The D layer, part e: calls of what is built in, what is walked. -/
namespace DL
open PySem PySem.Spec L2

section
variable {X : Cx} {B : At}
abbrev DCall := List D → Mp → DK → Prop
structure CallD (X : Cx) (f : Value) (g : DCall) : Prop where
  ex : ∃ r, CallR X f r ∧ ∀ M H ds vs (R : DK) (Q : VK), RepM X.K X.mg M H → RepVs X.K X.mg M H ds vs → g ds M R → Back X M H R Q → r vs H Q
def dCB (g : DCall) (t : TDs) : TD := fun ρ M Q => t ρ M fun ds M1 => g ds M1 Q
theorem lft_CB {g : DCall} {t : TDs} {r : List V → Hp → VK → Prop} (hc : ∀ M H ds vs (R : DK) (Q : VK), RepM X.K X.mg M H → RepVs X.K X.mg M H ds vs → g ds M R → Back X M H R Q → r vs H Q) {σ : L2.St} {H : Hp} {Q : VK}
    (h : lft X B (dCB g t) σ H Q) : tCB r (lftA X B t) σ H Q := by
  obtain ⟨ρ, M, R, hh, h, q⟩ := h
  refine ⟨ρ, M, _, hh, h, fun ds M1 vs H1 h1 k1 m1 r1 => ?_⟩
  exact hc M1 H1 ds vs R Q m1 r1 h1 fun d M2 v H2 h2 k2 m2 r2 => q d M2 v H2 h2 (k1.trans k2) m2 r2
theorem de_callB {x : Str} {id : String} {e : Expr} {es : List Expr} {g : DCall} {t : TDs} {p pos : Pos} (c : CallD X (.builtin id) g) (hg : Gl X x) (hm : X.mg x = none) (hv : bootBuiltins x = some (.builtin id)) (ha : DA X B (e :: es) t)
    (hn : x ≠ "__name__" := by decide) (hdb : (x == ("__debug__" : Str)) = false := by decide) (he : starEach (e :: es) X.env = (false, eval e X.env) :: starEach es X.env := by rfl) (hpl : (backTo pos (starEach es X.env)).any (·.1) = false := by rfl) :
    DE X B (.Call (.Name x p) (e :: es) [] pos) (dCB g t) := by
  obtain ⟨r, hr, hc⟩ := c.ex
  exact PE.imp (pe_callB hr hg hm hv ha hn hdb he hpl) fun _ _ _ h => lft_CB hc h
theorem de_callTy {x : Str} {T : String} {e : Expr} {es : List Expr} {g : DCall} {t : TDs} {p pos : Pos} (c : CallD X (.type T) g) (hg : Gl X x) (hm : X.mg x = none) (hv : bootBuiltins x = some (.type T)) (ha : DA X B (e :: es) t)
    (hn : x ≠ "__name__" := by decide) (hdb : (x == ("__debug__" : Str)) = false := by decide) (he : starEach (e :: es) X.env = (false, eval e X.env) :: starEach es X.env := by rfl) (hpl : (backTo pos (starEach es X.env)).any (·.1) = false := by rfl) :
    DE X B (.Call (.Name x p) (e :: es) [] pos) (dCB g t) := by
  obtain ⟨r, hr, hc⟩ := c.ex
  exact PE.imp (pe_callTy hr hg hm hv ha hn hdb he hpl) fun _ _ _ h => lft_CB hc h
/-- the name of a built-in type as a value -/
theorem de_ty {x : Str} {T : String} {pos : Pos} (hg : Gl X x) (hm : X.mg x = none) (hv : bootBuiltins x = some (.type T)) (hn : x ≠ "__name__" := by decide) (hd : (x == ("__debug__" : Str)) = false := by decide) : DE X B (.Name x pos) (dC (.ty T)) :=
  de_const (pe_bltn (v := .ty T) hg hm hv rfl hn hd) fun _ _ => by simp [RepV]
/-- an own class as a value -/
theorem de_cls {x : Str} {C : Addr} {pos : Pos} (hg : Gl X x) (hm : X.mg x = some (.ref C)) (hd : (x == ("__debug__" : Str)) = false := by decide) : DE X B (.Name x pos) (dC (.cls x)) :=
  de_const (pe_glob (v := .ref C) hg hm rfl hd) fun _ _ => by simp [RepV, hm]

section
variable {K : PySem.W.Frag} {mg : Str → Option Value} {M : Mp} {H : Hp}
theorem RepVs.one {d : D} {vs : List V} (r : RepVs K mg M H [d] vs) : ∃ v, vs = [v] ∧ RepV K mg M H d v := by
  unfold RepVs at r
  obtain ⟨v, vr, rfl, r1, r2⟩ := r
  unfold RepVs at r2
  subst r2
  exact ⟨v, rfl, r1⟩
theorem RepVs.two {d e : D} {vs : List V} (r : RepVs K mg M H [d, e] vs) : ∃ v w, vs = [v, w] ∧ RepV K mg M H d v ∧ RepV K mg M H e w := by
  unfold RepVs at r
  obtain ⟨v, vr, rfl, r1, r2⟩ := r
  obtain ⟨w, rfl, r3⟩ := RepVs.one r2
  exact ⟨v, w, rfl, r1, r3⟩
end
theorem SqT.frz {K : PySem.W.Frag} {H : Hp} {a : Addr} {vs : List V} {o : Obj} (h : H a = some (.frz o (.tup vs))) : SqT K H a vs := .inl (.inr ⟨o, h⟩)
/-- the length -/
def gLen : DCall := fun ds M Q => match ds with
  | [.tup xs] => Q (.int xs.length) M
  | [.ptp xs] => Q (.int xs.length) M
  | [.scr ns] => Q (.int ns.length) M
  | [.str z] => z.length ≤ sizeLine ∧ Q (.int z.length) M
  | [d] => match asL M d with
    | some xs => Q (.int xs.length) M
    | none => False
  | _ => False
theorem c_len : CallD X (.builtin "len") gLen := by
  refine ⟨_, call_len, ?_⟩
  intro M H ds vs R Q m r g q
  unfold gLen at g
  split at g
  · obtain ⟨v, rfl, r0⟩ := r.one
    have r := r0
    unfold RepV at r
    obtain ⟨a, ws, rfl, na, ha, ra⟩ := r
    exact ⟨_, ws.length, rfl, .inr ⟨ws, TupH.sq ha, rfl⟩, q _ _ _ _ g .rfl' m (by rw [ra.length]; exact rInt)⟩
  · obtain ⟨v, rfl, r0⟩ := r.one
    have r := r0
    unfold RepV at r
    obtain ⟨a, ws, o, rfl, na, ha, hd, ra⟩ := r
    exact ⟨_, ws.length, rfl, .inr ⟨ws, SqT.frz ha, rfl⟩, q _ _ _ _ g .rfl' m (by rw [ra.length]; exact rInt)⟩
  · rename_i ns
    obtain ⟨v, rfl, r0⟩ := r.one
    have r := r0
    obtain ⟨a, rfl, ha⟩ := scr_at r
    exact ⟨_, ns.length, rfl, .inl ⟨_, ha, by simp⟩, q _ _ _ _ g .rfl' m rInt⟩
  · rename_i z
    obtain ⟨v, rfl, r0⟩ := r.one
    have r := r0
    unfold RepV at r
    subst r
    exact ⟨_, z.length, rfl, ⟨g.1, rfl⟩, q _ _ _ _ g.2 .rfl' m rInt⟩
  · rename_i d _ _ _ _
    obtain ⟨v, rfl, r0⟩ := r.one
    have r := r0
    split at g
    · rename_i xs e
      obtain ⟨a, ws, rfl, ha, ra⟩ := asL_at e m r
      exact ⟨_, ws.length, rfl, .inl ⟨ws, SqL.of ha, rfl⟩, q _ _ _ _ g .rfl' m (by rw [ra.length]; exact rInt)⟩
    · exact g.elim
  · exact g.elim
def gAbs : DCall := fun ds M Q => match ds with | [.int i] => Q (.int i.natAbs) M | _ => False
theorem c_abs : CallD X (.builtin "abs") gAbs := by
  refine ⟨_, call_abs, ?_⟩
  intro M H ds vs R Q m r g q
  unfold gAbs at g
  split at g
  · rename_i i
    obtain ⟨v, rfl, r0⟩ := r.one
    have r := r0
    unfold RepV at r
    subst r
    refine ⟨i, rfl, q _ _ _ _ g .rfl' m ?_⟩
    have e : ((i.natAbs : Nat) : Int) = if i < 0 then -i else i := by split <;> omega
    rw [e]; exact rInt
  · exact g.elim
def g2 (f : Int → Int → Int) : DCall := fun ds M Q => match ds with | [.int i, .int j] => Q (.int (f i j)) M | _ => False
theorem c_max (hc : X.calm = true) : CallD X (.builtin "max") (g2 max) := by
  refine ⟨_, call_max2 hc, ?_⟩
  intro M H ds vs R Q m r g q
  unfold g2 at g
  split at g
  · rename_i i j
    obtain ⟨v, w, rfl, r1, r2⟩ := r.two
    unfold RepV at r1 r2
    subst r1 r2
    refine ⟨i, j, rfl, q _ _ _ _ g .rfl' m ?_⟩
    have e : max i j = if j > i then j else i := by split <;> omega
    rw [e]; exact rInt
  · exact g.elim
theorem c_min (hc : X.calm = true) : CallD X (.builtin "min") (g2 min) := by
  refine ⟨_, call_min2 hc, ?_⟩
  intro M H ds vs R Q m r g q
  unfold g2 at g
  split at g
  · rename_i i j
    obtain ⟨v, w, rfl, r1, r2⟩ := r.two
    unfold RepV at r1 r2
    subst r1 r2
    refine ⟨i, j, rfl, q _ _ _ _ g .rfl' m ?_⟩
    have e : min i j = if j < i then j else i := by split <;> omega
    rw [e]; exact rInt
  · exact g.elim
def gInt : DCall := fun ds M Q => match ds with
  | [.int i] => Q (.int i) M
  | [.bl b] => Q (.int (if b then 1 else 0)) M
  | _ => False
theorem c_int : CallD X (.type "int") gInt := by
  refine ⟨_, call_int1, ?_⟩
  intro M H ds vs R Q m r g q
  unfold gInt at g
  split at g
  · rename_i i
    obtain ⟨v, rfl, r0⟩ := r.one
    have r := r0
    unfold RepV at r
    subst r
    exact .inl ⟨i, rfl, q _ _ _ _ g .rfl' m rInt⟩
  · rename_i b
    obtain ⟨v, rfl, r0⟩ := r.one
    have r := r0
    unfold RepV at r
    subst r
    exact .inr ⟨b, rfl, q _ _ _ _ g .rfl' m rInt⟩
  · exact g.elim
def gStr : DCall := fun ds M Q => match ds with
  | [.int i] => i.natAbs.log2 < 1920 ∧ Q (.str (toString i : String)) M
  | _ => False
theorem c_str : CallD X (.type "str") gStr := by
  refine ⟨_, call_str_int, ?_⟩
  intro M H ds vs R Q m r g q
  unfold gStr at g
  split at g
  · rename_i i
    obtain ⟨v, rfl, r0⟩ := r.one
    have r := r0
    unfold RepV at r
    subst r
    exact ⟨i, rfl, g.1, q _ _ _ _ g.2 .rfl' m rStr⟩
  · exact g.elim
/-- the name of the built-in type that a value is of -/
def D.tyn (M : Mp) : D → Option String
  | .non => some "NoneType"
  | .bl _ => some "bool"
  | .int _ => some "int"
  | .str _ => some "str"
  | .tup _ => some "tuple"
  | .lst _ => some "list"
  | .scr _ => some "list"
  | .ref a => match M a with
    | some (.lst _) => some "list"
    | _ => none
  | .dct => some "dict"
  | _ => none
theorem TupH.ty {K : PySem.W.Frag} {H : Hp} {a : Addr} {vs : List V} (h : TupH H a vs) : TyX K H (.ref a) (.type "tuple") := by
  rcases h with h | ⟨o, h, _⟩
  · exact .base (.tup h)
  · exact .fTuple h
theorem tyn_of {d : D} {v : V} {T : String} {M : Mp} {H : Hp} {K : PySem.W.Frag} {mg : Str → Option Value} (m : RepM K mg M H) (r : RepV K mg M H d v) (e : d.tyn M = some T) : TyX K H v (.type T) := by
  cases d with
  | non => unfold RepV at r; subst r; cases e; exact .base .non
  | bl b => unfold RepV at r; subst r; cases e; exact .base (.bl b)
  | int i => unfold RepV at r; subst r; cases e; exact .base (.int i)
  | str s => unfold RepV at r; subst r; cases e; exact .base (.str s)
  | tup xs =>
    unfold RepV at r
    obtain ⟨a, vs, rfl, _, h, _⟩ := r
    cases e
    exact h.ty
  | lst xs =>
    unfold RepV at r
    obtain ⟨a, vs, rfl, _, h, _⟩ := r
    cases e
    exact .base (.lst h)
  | scr ns =>
    unfold RepV at r
    obtain ⟨a, rfl, h⟩ := r
    cases e
    rcases h with ⟨_, h | ⟨o, h⟩⟩ | (h | ⟨_, h⟩) | ⟨o, its, n, h1, h2, _⟩
    · exact .base (.lst h)
    · exact .base (.frz h)
    · cases h
    · cases h
    · exact .kList h1 h2
  | ref a =>
    unfold RepV at r
    subst r
    simp only [D.tyn] at e
    split at e
    · rename_i ds q
      cases e
      obtain ⟨vs, h, _⟩ := m a _ q
      exact .base (.lst h)
    · cases e
  | dct =>
    unfold RepV at r
    obtain ⟨a, rfl, _, h⟩ := r
    cases e
    exact .base (.dK h)
  | _ => cases e
/-- isinstance(x, T), T a built-in type -/
def gIsTy : DCall := fun ds M Q => match ds with
  | [d, .ty T] => match (d.tyn M).bind fun a => kitB a T with
    | some b => Q (.bl b) M
    | none => False
  | _ => False
theorem c_isTy : CallD X (.builtin "isinstance") gIsTy := by
  refine ⟨_, call_isi, ?_⟩
  intro M H ds vs R Q m r g q
  unfold gIsTy at g
  split at g
  · rename_i d T
    obtain ⟨v, w, rfl, r1, r2⟩ := r.two
    unfold RepV at r2
    subst r2
    split at g
    · rename_i b e
      cases e1 : d.tyn M with
      | none => rw [e1] at e; cases e
      | some a =>
        rw [e1] at e
        exact ⟨v, _, _, _, b, rfl, .ty T, tyn_of m r1 e1, kit_ty e, q _ _ _ _ g .rfl' m rBl⟩
    · exact g.elim
  · exact g.elim
/-- tuple(list), tuple(tuple) -/
def gTuple : DCall := fun ds M Q => match ds with
  | [.tup xs] => Q (.tup xs) M
  | [d] => match asL M d with
    | some xs => Q (.tup xs) M
    | none => False
  | _ => False
theorem c_tuple : CallD X (.type "tuple") gTuple := by
  refine ⟨_, call_tuple_of, ?_⟩
  intro M H ds vs R Q m r g q
  unfold gTuple at g
  split at g
  · obtain ⟨v, rfl, r0⟩ := r.one
    have r := r0
    have r' := r
    unfold RepV at r
    obtain ⟨a, ws, rfl, na, ha, ra⟩ := r
    exact ⟨a, ws, rfl, .inr ⟨TupH.sq ha, q _ _ _ _ g .rfl' m r'⟩⟩
  · obtain ⟨v, rfl, r0⟩ := r.one
    have r := r0
    split at g
    · rename_i xs e
      obtain ⟨a, ws, rfl, ha, ra⟩ := asL_at e m r
      refine ⟨a, ws, rfl, .inl ⟨SqL.of ha, fun l n => ?_⟩⟩
      refine Back.new q m g n ?_
      unfold RepV
      exact ⟨l, ws, rfl, m.free n, (.inl upd_same), RepVs.new m n ra⟩
    · exact g.elim
  · exact g.elim
/-- list(..) -/
def gList : DCall := fun ds M Q => match ds with
  | [.tup xs] => Q (.lst xs) M
  | [d] => match asL M d with
    | some xs => Q (.lst xs) M
    | none => False
  | _ => False
theorem c_list : CallD X (.type "list") gList := by
  refine ⟨_, call_list_of, ?_⟩
  intro M H ds vs R Q m r g q
  unfold gList at g
  split at g
  · obtain ⟨v, rfl, r0⟩ := r.one
    have r := r0
    unfold RepV at r
    obtain ⟨a, ws, rfl, na, ha, ra⟩ := r
    refine ⟨a, ws, rfl, .inr (TupH.sq ha), fun l n => ?_⟩
    refine Back.new q m g n ?_
    unfold RepV
    exact ⟨l, ws, rfl, m.free n, upd_same, RepVs.new m n ra⟩
  · obtain ⟨v, rfl, r0⟩ := r.one
    have r := r0
    split at g
    · rename_i xs e
      obtain ⟨a, ws, rfl, ha, ra⟩ := asL_at e m r
      refine ⟨a, ws, rfl, .inl (SqL.of ha), fun l n => ?_⟩
      refine Back.new q m g n ?_
      unfold RepV
      exact ⟨l, ws, rfl, m.free n, upd_same, RepVs.new m n ra⟩
    · exact g.elim
  · exact g.elim
/-- bools, ints in a row -/
def bls? : List D → Option (List Bool)
  | [] => some []
  | .bl b :: r => (bls? r).map (b :: ·)
  | _ => none
def ints? : List D → Option (List Int)
  | [] => some []
  | .int b :: r => (ints? r).map (b :: ·)
  | _ => none
@[simp] theorem ints_map (ns : List Int) : ints? (ns.map D.int) = some ns := by
  induction ns with
  | nil => rfl
  | cons x xs ih => simp [ints?, ih]
@[simp] theorem bls_map (ns : List Bool) : bls? (ns.map D.bl) = some ns := by
  induction ns with
  | nil => rfl
  | cons x xs ih => simp [bls?, ih]
theorem ints_of : ∀ {ds : List D} {ns : List Int}, ints? ds = some ns → ds = ns.map D.int
  | [], ns, h => by cases h; rfl
  | d :: ds, ns, h => by
    cases d with
    | int i =>
      simp only [ints?, Option.map_eq_some_iff] at h
      obtain ⟨ms, e, rfl⟩ := h
      simp [ints_of e]
    | _ => simp [ints?] at h
theorem bls_of : ∀ {ds : List D} {ns : List Bool}, bls? ds = some ns → ds = ns.map D.bl
  | [], ns, h => by cases h; rfl
  | d :: ds, ns, h => by
    cases d with
    | bl i =>
      simp only [bls?, Option.map_eq_some_iff] at h
      obtain ⟨ms, e, rfl⟩ := h
      simp [bls_of e]
    | _ => simp [bls?] at h
theorem RepVs.of_ints {K : PySem.W.Frag} {mg : Str → Option Value} {M : Mp} {H : Hp} : ∀ {ns : List Int} {vs : List V}, RepVs K mg M H (ns.map D.int) vs → vs = ns.map V.int
  | [], vs, h => by simpa [RepVs] using h
  | n :: ns, vs, h => by
    have h : RepVs K mg M H (D.int n :: ns.map D.int) vs := h
    unfold RepVs at h
    obtain ⟨v, vr, rfl, r, rs⟩ := h
    unfold RepV at r
    subst r
    rw [RepVs.of_ints rs]
    rfl
theorem RepVs.of_bls {K : PySem.W.Frag} {mg : Str → Option Value} {M : Mp} {H : Hp} : ∀ {ns : List Bool} {vs : List V}, RepVs K mg M H (ns.map D.bl) vs → vs = ns.map V.bl
  | [], vs, h => by simpa [RepVs] using h
  | n :: ns, vs, h => by
    have h : RepVs K mg M H (D.bl n :: ns.map D.bl) vs := h
    unfold RepVs at h
    obtain ⟨v, vr, rfl, r, rs⟩ := h
    unfold RepV at r
    subst r
    rw [RepVs.of_bls rs]
    rfl
/-- a list of ints, however it stands -/
def asI (M : Mp) : D → Option (List Int)
  | .scr ns => some ns
  | d => (asL M d).bind ints?
theorem asI_at {K : PySem.W.Frag} {mg : Str → Option Value} {M : Mp} {H : Hp} {d : D} {ns : List Int} {v : V} (e : asI M d = some ns) (m : RepM K mg M H) (r : RepV K mg M H d v) : ∃ a, v = .ref a ∧ SqL K H a (ns.map V.int) := by
  have key : ∀ d, (asL M d).bind ints? = some ns → RepV K mg M H d v → ∃ a, v = .ref a ∧ SqL K H a (ns.map V.int) := fun d e r => by
    cases q : asL M d with
    | none => rw [q] at e; cases e
    | some xs =>
      rw [q] at e
      obtain ⟨a, vs, rfl, h, rs⟩ := asL_at q m r
      have e' := ints_of (show ints? xs = some ns from e)
      subst e'
      rw [RepVs.of_ints rs] at h
      exact ⟨a, rfl, SqL.of h⟩
  unfold asI at e
  split at e
  · cases e; exact scr_at r
  · exact key _ e r
def gAll : DCall := fun ds M Q => match ds with
  | [d] => match (asL M d).bind bls? with
    | some bs => Q (.bl (bs.all id)) M
    | none => False
  | _ => False
theorem asB_at {K : PySem.W.Frag} {mg : Str → Option Value} {M : Mp} {H : Hp} {d : D} {bs : List Bool} {v : V} (e : (asL M d).bind bls? = some bs) (m : RepM K mg M H) (r : RepV K mg M H d v) : ∃ a, v = .ref a ∧ SqL K H a (bs.map V.bl) := by
  cases q : asL M d with
  | none => rw [q] at e; cases e
  | some xs =>
    rw [q] at e
    obtain ⟨a, vs, rfl, h, rs⟩ := asL_at q m r
    have e' := bls_of (show bls? xs = some bs from e)
    subst e'
    rw [RepVs.of_bls rs] at h
    exact ⟨a, rfl, SqL.of h⟩
theorem c_all (hc : X.calm = true) : CallD X (.builtin "all") gAll := by
  refine ⟨_, cr_all hc, ?_⟩
  intro M H ds vs R Q m r g q
  unfold gAll at g
  split at g
  · obtain ⟨v, rfl, r0⟩ := r.one
    have r := r0
    split at g
    · rename_i bs e
      obtain ⟨a, rfl, h⟩ := asB_at e m r
      exact ⟨a, bs, rfl, h, q _ _ _ _ g .rfl' m rBl⟩
    · exact g.elim
  · exact g.elim
/-- xs.append(e), xs a list that may change -/
def dAppend (to : TD) (t : TDs) : TD := fun ρ M Q => to ρ M fun o M1 => match o with
  | .ref a => (∃ ds, M1 a = some (.lst ds)) ∧ t ρ M1 fun es M2 => match es with
    | [d] => match M2 a with
      | some (.lst xs) => xs.length < sizeLine ∧ Q .non (um M2 a (.lst (xs ++ [d])))
      | _ => False
    | _ => False
  | _ => False
theorem de_append {o e : Expr} {es : List Expr} {to : TD} {t : TDs} {apos cpos : Pos} (ho : DE X B o to) (ha : DA X B (e :: es) t)
    (hbase : attributeBase o "append" X.env (eval o X.env) = eval o X.env := by rfl)
    (hfew : ((backTo cpos (starEach (e :: es) X.env)).all (fun x => !x.1) && (backToKw cpos (keywordEach [] X.env)).all (fun x => x.1.isSome)
      && decide ((e :: es).length + ([] : List Keyword).length + (if ([] : List Keyword).isEmpty then 0 else 1) < 30)) = true := by rfl)
    (hline : (apos.endLine == cpos.line) = true := by rfl) (hs : starEach (e :: es) X.env = (false, eval e X.env) :: starEach es X.env := by rfl) (hplain : (backTo cpos (starEach es X.env)).any (·.1) = false := by rfl) :
    DE X B (.Call (.Attribute o "append" apos) (e :: es) [] cpos) (dAppend to t) := by
  refine PE.imp (pe_bm PySem.F.plainAttrs_list PySem.F.slot_list_append PySem.F.type_list_append mt_append ho ha hbase hfew hline hs hplain) fun σ H Q h => ?_
  obtain ⟨ρ, M, R, hh, h, q⟩ := h
  refine ⟨ρ, M, _, hh, h, fun o M1 v H1 h1 k1 m1 r1 => ?_⟩
  split at h1
  · rename_i a
    unfold RepV at r1
    subst r1
    obtain ⟨⟨ds, e1⟩, h1⟩ := h1
    obtain ⟨vs, ha, _⟩ := m1 a _ e1
    refine ⟨.inl ⟨rfl, _, SqL.of ha⟩, ρ, M1, _, hh.step k1 m1, h1, fun es M2 ws H2 h2 k2 m2 r2 => ?_⟩
    split at h2
    · rename_i d
      obtain ⟨w, rfl, r0⟩ := r2.one
      have r2 := r0
      cases e2 : M2 a with
      | none => rw [e2] at h2; exact h2.elim
      | some mo =>
        rw [e2] at h2
        cases mo with
        | ins c fs => exact h2.elim
        | dK kvs => exact h2.elim
        | dT kvs => exact h2.elim
        | cel _ => exact h2.elim
        | clo _ _ => exact h2.elim
        | lst xs =>
          obtain ⟨vs2, ha2, ra2⟩ := m2 a _ e2
          have kw : Keep M2 H2 (um M2 a (.lst (xs ++ [d]))) (upd H2 a (.lst (vs2 ++ [w]))) := Keep.write e2
          refine ⟨a, vs2, w, rfl, rfl, ha2, by rw [← ra2.length]; exact h2.1, ?_⟩
          exact q _ _ _ _ h2.2 ((k1.trans k2).trans kw) (m2.write e2 ⟨_, upd_same, RepVs.keep kw _ _ (ra2.append (.cons r2 .nil))⟩) rNon
    · exact h2.elim
  · exact h1.elim

/-! ### what is walked -/
/-- a tuple, a list -/
def itemsOf (M : Mp) : D → Option (List D)
  | .tup xs => some xs
  | .lst xs => some xs
  | .scr ns => some (ns.map D.int)
  | .ptp xs => some xs
  | .ltp xs => some xs
  | _ => none
def dItems (t : TD) : TDI := fun ρ M Q => t ρ M fun d M1 => match itemsOf M1 d with
  | some xs => Q xs M1
  | none => False
theorem serves_L {xs : List D} {vs : List V} {a : Addr} {M : Mp} {H : Hp} (h : ∀ M' H', Keep M H M' H' → SqL X.K H' a vs ∧ RepVs X.K X.mg M' H' xs vs) : Serves X xs (Itl X.K a) M H := fun M' H' k m i => by
  obtain ⟨h1, h2⟩ := h M' H' k
  refine ⟨fun hl => ⟨vs, h1, by rw [← h2.length]; exact hl⟩, fun d e => ?_⟩
  obtain ⟨v, e1, r⟩ := h2.get e
  refine ⟨⟨vs, v, h1, e1⟩, fun x H2 y => ?_⟩
  obtain ⟨rfl, y⟩ := y
  have := y vs h1
  rw [e1] at this
  cases this
  exact ⟨.rfl', m, r⟩
theorem serves_T {xs : List D} {vs : List V} {a : Addr} {M : Mp} {H : Hp} (h : ∀ M' H', Keep M H M' H' → SqT X.K H' a vs ∧ RepVs X.K X.mg M' H' xs vs) : Serves X xs (Itt X.K a) M H := fun M' H' k m i => by
  obtain ⟨h1, h2⟩ := h M' H' k
  refine ⟨fun hl => ⟨vs, h1, by rw [← h2.length]; exact hl⟩, fun d e => ?_⟩
  obtain ⟨v, e1, r⟩ := h2.get e
  refine ⟨⟨vs, v, h1, e1⟩, fun x H2 y => ?_⟩
  obtain ⟨rfl, y⟩ := y
  have := y vs h1
  rw [e1] at this
  cases this
  exact ⟨.rfl', m, r⟩
/-- walking a list or a tuple, by what it is -/
theorem pi_seq {tg l : Expr} {tl : TE} (hl : PE X l tl) : PI X tg l fun σ H R => tl σ H fun x H1 => ∃ a, x = .ref a ∧ (((∃ xs, SqL X.K H1 a xs) ∧ R (Itl X.K a) H1) ∨ ((∃ xs, SqT X.K H1 a xs) ∧ R (Itt X.K a) H1)) := by
  constructor
  intro pins s σ H R I h
  refine thn (hl.run pins s σ H _ I h) ?_
  rintro v s1 ⟨x, H1, I1, r1, a, e, q⟩
  subst e
  cases r1
  have fp : ∀ b ∈ [s1.heap.objs.size], FpOk X pins H1 b := fun b hb => by
    obtain rfl : b = s1.heap.objs.size := by simpa using hb
    exact I1.fpOk (Nat.le_refl _) (I1.hok.fresh (Nat.le_refl _))
  rcases q with ⟨⟨xs, hq⟩, q⟩ | ⟨⟨xs, hq⟩, q⟩
  · obtain ⟨its, rv, p, _⟩ := I1.list hq
    exact wpAny_pyIter_list p.isList ⟨_, [s1.heap.objs.size], _, _, H1, rfl, I1.kept (t' := s1.toks) fun _ _ e => Heap.get?_push_of_some _ e, turn_list a _, ⟨_, Heap.get?_push_size _ rfl, rfl, rfl⟩, fp, q⟩
  · obtain ⟨its, rv, p, _⟩ := I1.tuple hq
    exact wpAny_pyIter_tuple (show s1.heap.IsTuple a its.toArray from p) ⟨_, [s1.heap.objs.size], _, _, H1, rfl, I1.kept (t' := s1.toks) fun _ _ e => Heap.get?_push_of_some _ e, turn_tuple a _, ⟨_, Heap.get?_push_size _ rfl, rfl, rfl⟩, fp, q⟩
theorem di_items {tg l : Expr} {t : TD} (hl : DE X B l t) : DI X B tg l (dItems t) := by
  refine PI.imp (pi_seq hl) fun σ H T h => ?_
  obtain ⟨ρ, M, R, hh, h, q⟩ := h
  refine ⟨ρ, M, _, hh, h, fun d M1 v H1 h1 k1 m1 r1 => ?_⟩
  cases d with
  | tup xs =>
    have h1 : R xs M1 := h1
    have r1' := r1
    unfold RepV at r1
    obtain ⟨a, vs, rfl, na, ha, ra⟩ := r1
    refine ⟨a, rfl, .inr ⟨⟨vs, TupH.sq ha⟩, q _ _ _ _ h1 k1 m1 (serves_T (vs := vs) fun M' H' k => ⟨TupH.sq (ha.keep k na).1, RepVs.keep k _ _ ra⟩)⟩⟩
  | lst xs =>
    have h1 : R xs M1 := h1
    unfold RepV at r1
    obtain ⟨a, vs, rfl, na, ha, ra⟩ := r1
    refine ⟨a, rfl, .inl ⟨⟨vs, SqL.of ha⟩, q _ _ _ _ h1 k1 m1 (serves_L (vs := vs) fun M' H' k => ⟨SqL.of (k.k _ _ ha na).1, RepVs.keep k _ _ ra⟩)⟩⟩
  | scr ns =>
    have h1 : R (ns.map D.int) M1 := h1
    have r1' := r1
    obtain ⟨a, rfl, ha⟩ := scr_at r1
    refine ⟨a, rfl, .inl ⟨⟨_, ha⟩, q _ _ _ _ h1 k1 m1 (serves_L (vs := ns.map V.int) fun M' H' k => ⟨?_, RepVs.ints ns⟩)⟩⟩
    obtain ⟨b, e, hb⟩ := scr_at (RepV.keep k _ _ r1')
    cases e
    exact hb
  | ltp xs =>
    have h1 : R xs M1 := h1
    unfold RepV at r1
    obtain ⟨a, vs, rfl, na, ha, ra⟩ := r1
    refine ⟨a, rfl, .inr ⟨⟨vs, SqT.of ha⟩, q _ _ _ _ h1 k1 m1 (serves_T (vs := vs) fun M' H' k => ⟨SqT.of (k.k _ _ ha na).1, RepVs.keep k _ _ ra⟩)⟩⟩
  | ptp xs =>
    have h1 : R xs M1 := h1
    unfold RepV at r1
    obtain ⟨a, vs, o, rfl, na, ha, hd, ra⟩ := r1
    refine ⟨a, rfl, .inr ⟨⟨vs, SqT.frz ha⟩, q _ _ _ _ h1 k1 m1 (serves_T (vs := vs) fun M' H' k => ⟨SqT.frz (k.k _ _ ha na).1, RepVs.keep k _ _ ra⟩)⟩⟩
  | _ => exact h1.elim
theorem serves_R {lo : Int} {n : Nat} {M : Mp} {H : Hp} : Serves X ((List.range n).map fun i : Nat => D.int (lo + i)) (Itr lo n) M H := fun M' H' k m i => by
  refine ⟨fun hl => (by simpa using hl : n ≤ i), fun d e => ?_⟩
  have hi : i < n := by
    have := (List.getElem?_eq_some_iff.mp e).1
    simpa using this
  rw [List.getElem?_map, List.getElem?_range hi] at e
  cases e
  refine ⟨hi, fun x H2 y => ?_⟩
  obtain ⟨rfl, rfl⟩ := y
  exact ⟨.rfl', m, rInt⟩
/-- range -/
def rangeD (lo hi : Int) : List D := (List.range (hi - lo).toNat).map fun i : Nat => D.int (lo + i)
def dRange1 (t : TDs) : TDI := fun ρ M Q => t ρ M fun ds M1 => match ds with
  | [.int j] => (-(2 ^ 62) ≤ j ∧ j < 2 ^ 62) ∧ Q (rangeD 0 j) M1
  | _ => False
theorem di_range1 {tg a : Expr} {t : TDs} {p pos : Pos} (hg : Gl X "range") (hm : X.mg "range" = none) (ha : DA X B [a] t) (hs : starEach [a] X.env = [(false, eval a X.env)] := by rfl) :
    DI X B tg (.Call (.Name "range" p) [a] [] pos) (dRange1 t) := by
  refine PI.imp (pi_range1 hg hm ha hs) fun σ H T h => ?_
  obtain ⟨ρ, M, R, hh, h, q⟩ := h
  refine ⟨ρ, M, _, hh, h, fun ds M1 vs H1 h1 k1 m1 r1 => ?_⟩
  split at h1
  · rename_i j
    obtain ⟨v, rfl, r0⟩ := r1.one
    have r1 := r0
    unfold RepV at r1
    subst r1
    refine ⟨j, rfl, h1.1.1, h1.1.2, q _ _ _ _ h1.2 k1 m1 ?_⟩
    have := @serves_R X 0 j.toNat M1 H1
    simpa [rangeD] using this
  · exact h1.elim
end
end DL
/-! The D layer, part f: defs and their calls. -/
namespace DL
open PySem PySem.Spec L2

/-- an exception of an own class, its attributes -/
structure XD where
  c : Str
  fs : List (Str × D)
abbrev XE' := XD → Mp → Prop
/-- what a def promises: the arguments, what may change, the wanted end, the wanted exception -/
abbrev DSp := List D → Mp → DK → XE' → Prop
section
variable (K : PySem.W.Frag) (mg : Str → Option Value) (M : Mp) (H : Hp)
/-- the class of this name: an own one, or KeyError -/
def ClsV (c : Str) (v : Value) : Prop := (∃ C, mg c = some (.ref C) ∧ v = .ref C) ∨ (c = "KeyError" ∧ mg c = none ∧ v = .type "KeyError")
def RepX (x : XD) (cls : Value) (dd : Option Addr) : Prop := ClsV mg x.c cls ∧ ((x.fs = [] ∧ (dd = none ∨ mg x.c = none)) ∨ ∃ d gs, dd = some d ∧ M d = none ∧ H d = some (.xd gs) ∧ RepF K mg M H x.fs gs)
end
theorem ClsV.own {mg : Str → Option Value} {c : Str} {v : Value} {C : Addr} (h : ClsV mg c v) (e : mg c = some (.ref C)) : v = .ref C := by
  rcases h with ⟨C', h1, h2⟩ | ⟨_, h1, _⟩
  · rw [e] at h1; cases h1; exact h2
  · rw [e] at h1; cases h1
theorem ClsV.uniq {mg : Str → Option Value} {c : Str} {v v' : Value} (h : ClsV mg c v) (h' : ClsV mg c v') : v' = v := by
  rcases h with ⟨C, h1, rfl⟩ | ⟨_, h1, rfl⟩
  · exact h'.own h1
  · rcases h' with ⟨C', h3, _⟩ | ⟨_, _, h4⟩
    · rw [h1] at h3; cases h3
    · exact h4
theorem RepX.keep {K : PySem.W.Frag} {mg : Str → Option Value} {M M' : Mp} {H H' : Hp} (k : Keep M H M' H') {x : XD} {cls : Value} {dd : Option Addr} (h : RepX K mg M H x cls dd) : RepX K mg M' H' x cls dd := by
  obtain ⟨a, b⟩ := h
  refine ⟨a, ?_⟩
  rcases b with b | ⟨d, gs, e, n, hd, r⟩
  · exact .inl b
  · exact .inr ⟨d, gs, e, (k.k _ _ hd n).2, (k.k _ _ hd n).1, r.keep k⟩

/-- room for calls; nothing is being shown -/
structure Cy (A : Around) (k : Nat) : Prop where
  room : Room k A
  gd : A.guards = some []
theorem Cy.mono {A : Around} {j k : Nat} (c : Cy A k) (h : j ≤ k) : Cy A j := ⟨c.room.mono h, c.gd⟩
theorem guards_deeper {A : Around} (env : Env) (h : A.guards = some []) : (A.deeper env).guards = some [] := h
theorem Cy.deeper {A : Around} {k : Nat} (c : Cy A (k + 1)) (env : Env) : Cy (A.deeper env) k := ⟨c.room.deeper env, guards_deeper env c.gd⟩
theorem Cy.hu {A : Around} {k : Nat} (c : Cy A k) : A.units + 64 < cLine := c.room.units
section
variable (P : Program) (w : World) (K : PySem.W.Frag) (mg : Str → Option Value) (base : Heap)
/-- the ends of a call -/
def okQ (M : Mp) (H : Hp) (Q : DK) : VK := fun v H' => ∃ d M', Keep M H M' H' ∧ RepM K mg M' H' ∧ RepV K mg M' H' d v ∧ Q d M'
def okE (M : Mp) (H : Hp) (E : XE') : XK := fun cls dd H' => ∃ x M', Keep M H M' H' ∧ RepM K mg M' H' ∧ RepX K mg M' H' x cls dd ∧ H' = H' ∧ E x M'
structure DFn (k : Nat) (f : Addr) (fd : FuncData) (ps : List Str) (sp : DSp) : Prop where
  len : ∀ ds M Q E, sp ds M Q E → ds.length = ps.length
  run : ∀ (A : Around) (outer : List Env) (s : Shared) (H : Hp) (M : Mp) (args : Args) (us : List Value) (vs : List V) (ds : List D) (Q : DK) (E : XE'), Cy A k → Env0 P w K mg base A outer s H → BindsTo s fd args (ps.zip us) → Vals vs us →
    RepM K mg M H → RepVs K mg M H ds vs → sp ds M Q E → codeAny (model P w) A (.call (.ref f) args) (CR (L2N.CX P w) outer P w H s (okQ K mg M H Q) (okE K mg M H E)) s
/-- a def of the module by its name -/
def GFn (k : Nat) (x : Str) (sp : DSp) : Prop := ∃ f fd ps, DFn P w K mg base k f fd ps sp ∧ mg x = some (.ref f) ∧ PySem.W.keepIn K (.ref f) = true ∧ Binds K fd ps []
end
section
variable {P : Program} {w : World} {K : PySem.W.Frag} {mg : Str → Option Value} {base : Heap}
theorem DFn.mono {j k : Nat} {f : Addr} {fd : FuncData} {ps : List Str} {sp : DSp} (F : DFn P w K mg base j f fd ps sp) (h : j ≤ k) : DFn P w K mg base k f fd ps sp :=
  ⟨F.len, fun A outer s H M args us vs ds Q E c => F.run A outer s H M args us vs ds Q E (c.mono h)⟩
theorem GFn.mono {j k : Nat} {x : Str} {sp : DSp} (F : GFn P w K mg base j x sp) (h : j ≤ k) : GFn P w K mg base k x sp := let ⟨f, fd, ps, a, b⟩ := F; ⟨f, fd, ps, a.mono h, b⟩
theorem DFn.imp {k : Nat} {f : Addr} {fd : FuncData} {ps : List Str} {sp sp' : DSp} (F : DFn P w K mg base k f fd ps sp) (h : ∀ ds M Q E, sp' ds M Q E → sp ds M Q E) : DFn P w K mg base k f fd ps sp' :=
  ⟨fun ds M Q E q => F.len _ _ _ _ (h _ _ _ _ q), fun A outer s H M args us vs ds Q E c e b v m r q => F.run A outer s H M args us vs ds Q E c e b v m r (h _ _ _ _ q)⟩
theorem GFn.imp {k : Nat} {x : Str} {sp sp' : DSp} (F : GFn P w K mg base k x sp) (h : ∀ ds M Q E, sp' ds M Q E → sp ds M Q E) : GFn P w K mg base k x sp' := let ⟨f, fd, ps, a, b⟩ := F; ⟨f, fd, ps, a.imp h, b⟩
end

section
variable {X : Cx} {B : At} {k : Nat}
/-- what is wished of an exception, at the names -/
abbrev DW' := XD → Rho → Mp → Prop
def noW : DW' := fun _ _ _ => False
def lftX (X : Cx) (B : At) (W : DW') : WX := fun cls dd σ H => ∃ ρ M x, Here X B ρ σ M H ∧ RepX X.K X.mg M H x cls dd ∧ W x ρ M
def DTk (X : Cx) (B : At) (W : DW') : Prop := L2N.Takes X (lftX X B W)
theorem takes0N {X : Cx} : L2N.Takes X (fun _ _ _ _ => False) := fun u s' ⟨_, _, _, _, _, _, _, _, _, _, _, _, _, _, _, _, z⟩ => z.elim
theorem tk_no : DTk X B noW := (takes0N (X := X)).imp fun c d σ H ⟨_, _, _, _, _, z⟩ => z.elim
/-- the callee runs -/
theorem run_dfn {f : Addr} {fd : FuncData} {ps : List Str} {sp : DSp} {W : DW'} {pins : List (Addr × Obj)} {σ : L2.St} {H : Hp} {s : Shared} {M : Mp} {ρ : Rho} {us : List Value} {vs : List V} {ds : List D} {R : DK} {Q : VK} {args : Args}
    (F : DFn X.prog X.w X.K X.mg X.base k f fd ps sp) (c : Cy X.A k) (tk : DTk X B W) (I : Inv X pins σ H s) (hh : Here X B ρ σ M H) (hb : BindsTo s fd args (ps.zip us)) (r : Vals vs us) (rs : RepVs X.K X.mg M H ds vs)
    (h : sp ds M R fun x M' => W x ρ M') (q : Back X M H R Q) : codeAny (model X.prog X.w) X.A (.call (.ref f) args) (fun r s' => match r with | .ok (.ret u) => EP X pins σ Q u s' | .ok _ => False | .error e => X.xe e s') s := by
  refine codeAny_mono (F.run X.A X.stack s H M args us vs ds R _ c I.env0 hb r hh.m rs h) fun r s' hq => ?_
  cases r with
  | error e =>
    refine tk e s' (L2N.XE.of_call (W := lftX X B W) I (fun cls dd H' he => ?_) hq)
    obtain ⟨x, M', k', m', rx, _, e'⟩ := he
    exact ⟨ρ, M', x, hh.step k' m', rx, e'⟩
  | ok fl =>
    cases fl with
    | ret u =>
      obtain ⟨v, H', I', rv, d, M', k', m', rd, h'⟩ := I.after hq
      exact ⟨v, H', I', rv, q d M' v H' h' k' m' rd⟩
    | next => exact False.elim hq
    | brk => exact False.elim hq
    | cont => exact False.elim hq
def dCall (sp : DSp) (W : DW') (t : TDs) : TD := fun ρ M Q => t ρ M fun ds M1 => sp ds M1 Q fun x M2 => W x ρ M2
theorem run_call {f : Addr} {fd : FuncData} {ps : List Str} {sp : DSp} {W : DW'} {pins : List (Addr × Obj)} {σ : L2.St} {H : Hp} {s : Shared} {M : Mp} {ρ : Rho} {us : List Value} {vs : List V} {ds : List D} {R : DK} {Q : VK}
    (F : DFn X.prog X.w X.K X.mg X.base k f fd ps sp) (c : Cy X.A k) (tk : DTk X B W) (hb : Binds X.K fd ps []) (I : Inv X pins σ H s) (hh : Here X B ρ σ M H) (r : Vals vs us) (rs : RepVs X.K X.mg M H ds vs)
    (h : sp ds M R fun x M' => W x ρ M') (q : Back X M H R Q) : wpAny (model X.prog X.w) X.A (call (.ref f) us) (EP X pins σ Q) X.xe s := by
  have hl : (us ++ []).length = ps.length := by rw [List.append_nil, ← r.length, ← rs.length]; exact F.len _ _ _ _ h
  have hb' := hb s us I.kIn hl
  rw [List.append_nil] at hb'
  refine wpAny_call (codeAny_mono (run_dfn F c tk I hh hb' r rs h q) fun r s' hq => ?_)
  cases r with
  | error e => exact hq
  | ok fl => cases fl <;> exact hq
theorem de_call {x : Str} {sp : DSp} {W : DW'} {e : Expr} {es : List Expr} {t : TDs} {p pos : Pos} (G : GFn X.prog X.w X.K X.mg X.base k x sp) (c : Cy X.A k) (tk : DTk X B W) (hg : Gl X x) (ha : DA X B (e :: es) t)
    (hdb : (x == ("__debug__" : Str)) = false := by decide) (he : starEach (e :: es) X.env = (false, eval e X.env) :: starEach es X.env := by rfl) (hpl : (backTo pos (starEach es X.env)).any (·.1) = false := by rfl) :
    DE X B (.Call (.Name x p) (e :: es) [] pos) (dCall sp W t) := by
  obtain ⟨f, fd, ps, F, hm, hk, hb⟩ := G
  constructor
  intro pins s σ H Q I h
  obtain ⟨ρ, M, R, hh, h, q⟩ := h
  refine wpAny_Call_Name_kw (ld_glob I hg hm ?_ hdb)
  refine PySem.W.callWith_K (h₀ := X.base) I.ok.mod.kin hk (thn (ha.run pos pins s σ H (fun vs H1 => ∃ ds M1, Keep M H M1 H1 ∧ RepM X.K X.mg M1 H1 ∧ RepVs X.K X.mg M1 H1 ds vs ∧ sp ds M1 R fun x M2 => W x ρ M2) I
    ⟨ρ, M, _, hh, h, fun ds M1 vs H1 h1 k1 m1 r1 => ⟨ds, M1, k1, m1, r1, h1⟩⟩) fun us s1 hs => ?_) he hpl
  obtain ⟨vs, H1, I1, r, ds, M1, k1, m1, r1, h1⟩ := hs
  exact ⟨I1.kIn, run_call F c tk hb I1 (hh.step k1 m1) r r1 h1 fun d M2 v H2 h2 k2 m2 r2 => q d M2 v H2 h2 (k1.trans k2) m2 r2⟩
end

/-! ### a def's body keeps its promise -/
section
variable {P : Program} {w : World} {K : PySem.W.Frag} {mg : Str → Option Value} {base : Heap}
def startD (N : List Str) (ds : List D) : Rho := ds.map some ++ List.replicate (N.length - ds.length) none
/-- the wish of exceptions in a def's body -/
def fnW (E : XE') : DW' := fun x _ M => E x M
/-- the context of a def's body -/
abbrev cxD (P : Program) (w : World) (K : PySem.W.Frag) (mg : Str → Option Value) (base : Heap) (N : List Str) (qual : Str) (st : Stmt) (f : Addr) (cdv : Value) (A : Around) (outer : List Env) (s : Shared) (H : Hp) (M : Mp) (E : XE') : Cx :=
  cxOf (L2N.CX P w) P w K mg base N qual (defScope st) f cdv A outer s H (okE K mg M H E)
theorem tk_fn {N : List Str} {qual : Str} {st : Stmt} {f : Addr} {cdv : Value} {A : Around} {outer : List Env} {s : Shared} {H : Hp} {M : Mp} {E : XE'} : DTk (cxD P w K mg base N qual st f cdv A outer s H M E) ⟨M, H⟩ (fnW E) := by
  refine L2N.Takes.imp (L2N.takes_of (E := okE K mg M H E) rfl rfl rfl rfl) fun c d σ H' z => ?_
  obtain ⟨ρ, M', x, hh, rx, e⟩ := z
  exact ⟨x, M', hh.k, hh.m, rx, rfl, e⟩
theorem startD_rep {N : List Str} {M : Mp} {H : Hp} {ds : List D} {vs : List V} (r : RepVs K mg M H ds vs) : RepS K mg M H (startD N ds) (L2.start N vs) := by
  unfold startD L2.start
  refine ⟨by simp [r.length], fun i d e => ?_⟩
  by_cases hi : i < ds.length
  · rw [List.getElem?_append_left (by simpa using hi), List.getElem?_map] at e
    cases q : ds[i]? with
    | none => rw [q] at e; cases e
    | some d' =>
      rw [q] at e
      cases e
      obtain ⟨v, e1, rv⟩ := r.get q
      refine ⟨v, ?_, rv⟩
      rw [List.getElem?_append_left (by rw [List.length_map, ← r.length]; exact hi), List.getElem?_map, e1]
      rfl
  · rw [List.getElem?_append_right (by simpa using hi), List.getElem?_replicate] at e
    split at e <;> cases e
/-- the def's own code object and its table, where lambdas are told -/
def LamC (K : PySem.W.Frag) (qual : Str) (cdv : Value) : Prop := ∃ c P, cdv = .ref c ∧ PySem.W.codeHdIn K c P = true ∧ K.lookup P = none ∧ (P, (qual ++ ".<locals>.") ++ "<lambda>") ∈ tlOf K
def LamOk (K : PySem.W.Frag) (f : Addr) : Prop := ∃ o fd c, K.lookup f = some o ∧ o.data = .func fd ∧ fd.code = .ref c ∧ (PySem.W.codeHdIn K c (He.tabOf K c) && (K.lookup (He.tabOf K c)).isNone) = true
theorem LamOk.code {K : PySem.W.Frag} {f : Addr} {oc : Value} {od : Option Addr} {osl : Array (Option Value)} {fd : FuncData} (L : LamOk K f) (lk : K.lookup f = some ⟨oc, od, .func fd, osl⟩) : LamC K fd.qualname fd.code := by
  obtain ⟨o, fd', c, e1, e2, e3, e4⟩ := L
  rw [lk] at e1
  cases e1
  cases e2
  have e5 := e4
  rw [Bool.and_eq_true] at e5
  refine ⟨c, He.tabOf K c, e3, e5.1, Option.isNone_iff_eq_none.mp e5.2, ?_⟩
  refine List.mem_filterMap.mpr ⟨_, He.lookup_mem lk, ?_⟩
  unfold tlF
  dsimp only
  rw [e3]
  exact if_pos e4
theorem dfn_ofG {x qual : Str} {st : Stmt} {f : Addr} {fd : FuncData} {N ps : List Str} {k : Nat} {sp : DSp} (F : FunD K x qual (defArgs st) (defBody st) (defScope st) [] [] f fd) (S : FnScope N ps (defScope st)) (Lq : Value → Prop) (hL : ∀ (oc : Value) (od : Option Addr) (osl : Array (Option Value)), K.lookup f = some ⟨oc, od, .func fd, osl⟩ → Lq fd.code) (len : ∀ ds M Q E, sp ds M Q E → ds.length = ps.length)
    (body : ∀ (cdv : Value), Lq cdv → ∀ (A : Around) (outer : List Env) (s : Shared) (H : Hp) (M : Mp) (ds : List D) (Q : DK) (E : XE'), Cy (A.deeper (PyProof.Rows.envOfC qual (defScope st) s.heap.objs.size f cdv)) k → sp ds M Q E →
      ∃ t, DSs (cxD P w K mg base N qual st f cdv A outer s H M E) ⟨M, H⟩ (defBody st) t ∧ t { nx := fun _ M' => Wk (Q .non) M', rt := fun d M' => Wk (Q d) M' } (startD N ds) M) : DFn P w K mg base (k + 1) f fd ps sp := by
  obtain ⟨oc, od, dV, kV, doc, pm, an, cdv, ct, osl, rfl, lk, hcd, _⟩ := F.ex
  refine ⟨len, fun A outer s H M args us vs ds Q E c e0 hb r m rd hsp => ?_⟩
  have hl : vs.length = ps.length := by rw [← rd.length]; exact len _ _ _ _ hsp
  have KX : K.In s.heap := e0.mod.kin.keeps fun b o e => (e0.bs b o e).1
  have lim : s.heap.NoLimit := e0.mod.nolimit.keeps fun b o e => (e0.bs b o e).1
  have hkd : ∀ y ∈ ps.zip us, (defScope st).names.lookup y.1 = some .local ∨ ((defScope st).names.lookup y.1 = some .cell ∧ ((cellsFrom (s.heap.objs.size + 1) (defScope st).names []).lookup y.1).isSome = true) := by
    rintro ⟨n, v⟩ hy
    exact (S.par n (List.of_mem_zip hy).1).imp id fun q => ⟨q, PySem.W.cellsFrom_some _ _ _ (.inl q)⟩
  refine codeAny_call_function c.room.depth (KX _ _ lk) rfl S.co S.gen rfl (PySem.W.codeRec_of KX hcd) (hb _ _ _ _ ?_)
  refine wpAny_newFunctionEnv_cells S.kind hkd ?_
  rintro env rfl s1 x
  refine ⟨lim.keeps x.toInCall.keep, codeAny_func ?_⟩
  obtain ⟨t, ht, hq⟩ := body cdv (hL _ _ _ lk) A outer s H M ds Q E (c.deeper _) hsp
  have I : Inv (cxD P w K mg base N qual st f cdv A outer s H M E) [] (L2.start N vs) H s1 := inv_start S c.room.hd e0 hl r x
  have hh : Here (cxD P w K mg base N qual st f cdv A outer s H M E) ⟨M, H⟩ (startD N ds) (L2.start N vs) M H := ⟨startD_rep rd, m, .rfl'⟩
  refine wpAny_mono (ht.run [] s1 (start N vs) H { nx := fun _ H' => okQ K mg M H Q .non H', rt := okQ K mg M H Q } I ⟨⟨M, H⟩, startD N ds, M, _, .rfl', hh, ⟨?_, ?_, ?_, ?_⟩, hq⟩) ?_ fun e s' hs => hs
  · exact fun ρ σ M' H' h q => let ⟨M0, l, q⟩ := q; ⟨.non, M0, h.k.less l, h.m.less l, rNon, q⟩
  · exact fun _ _ _ _ _ z => z.elim
  · exact fun _ _ _ _ _ z => z.elim
  · exact fun d v M' H' k' m' rv q => let ⟨M0, l, q⟩ := q; ⟨d, M0, k'.less l, m'.less l, rv.less l, q⟩
  · intro fl s' hs
    cases fl with
    | ret u =>
      obtain ⟨v, σ', H', J, rv, q⟩ := hs
      exact ⟨v, H', J.os, J.bare, J.base, J.hok, rv, q⟩
    | next =>
      obtain ⟨σ', H', J, q⟩ := hs
      exact ⟨.non, H', J.os, J.bare, J.base, J.hok, rfl, q⟩
    | brk => obtain ⟨_, _, _, q⟩ := hs; exact q.elim
    | cont => obtain ⟨_, _, _, q⟩ := hs; exact q.elim
theorem dfn_of {x qual : Str} {st : Stmt} {f : Addr} {fd : FuncData} {N ps : List Str} {k : Nat} {sp : DSp} (F : FunD K x qual (defArgs st) (defBody st) (defScope st) [] [] f fd) (S : FnScope N ps (defScope st)) (len : ∀ ds M Q E, sp ds M Q E → ds.length = ps.length)
    (body : ∀ (cdv : Value) (A : Around) (outer : List Env) (s : Shared) (H : Hp) (M : Mp) (ds : List D) (Q : DK) (E : XE'), Cy (A.deeper (PyProof.Rows.envOfC qual (defScope st) s.heap.objs.size f cdv)) k → sp ds M Q E →
      ∃ t, DSs (cxD P w K mg base N qual st f cdv A outer s H M E) ⟨M, H⟩ (defBody st) t ∧ t { nx := fun _ M' => Wk (Q .non) M', rt := fun d M' => Wk (Q d) M' } (startD N ds) M) : DFn P w K mg base (k + 1) f fd ps sp :=
  dfn_ofG F S (fun _ => True) (fun _ _ _ _ => trivial) len fun cdv _ => body cdv
/-- .. of a def that makes lambdas -/
theorem dfn_ofL {x qual : Str} {st : Stmt} {f : Addr} {fd : FuncData} {N ps : List Str} {k : Nat} {sp : DSp} (F : FunD K x qual (defArgs st) (defBody st) (defScope st) [] [] f fd) (S : FnScope N ps (defScope st)) (L : LamOk K f) (len : ∀ ds M Q E, sp ds M Q E → ds.length = ps.length)
    (body : ∀ (cdv : Value), LamC K qual cdv → ∀ (A : Around) (outer : List Env) (s : Shared) (H : Hp) (M : Mp) (ds : List D) (Q : DK) (E : XE'), Cy (A.deeper (PyProof.Rows.envOfC qual (defScope st) s.heap.objs.size f cdv)) k → sp ds M Q E →
      ∃ t, DSs (cxD P w K mg base N qual st f cdv A outer s H M E) ⟨M, H⟩ (defBody st) t ∧ t { nx := fun _ M' => Wk (Q .non) M', rt := fun d M' => Wk (Q d) M' } (startD N ds) M) : DFn P w K mg base (k + 1) f fd ps sp :=
  dfn_ofG F S (LamC K qual) (fun oc od osl lk => by
    have q := L.code lk
    obtain ⟨_, _, _, _, _, _, _, _, _, _, rfl, _⟩ := F.ex
    exact q) len body
end
end DL
/-! The D layer, part g: the law's end. -/
namespace DL
open PySem PySem.Spec L2

/-- the law's promise: over a script of so many ints it gives True -/
def spLaw : DSp := fun ds M Q _ => match ds with
  | [.scr ns] => ns.length ≤ 63 ∧ Q (.bl true) M
  | _ => False
abbrev FunP (K : PySem.W.Frag) (x qual : Str) (st : Stmt) (f : Addr) (fd : FuncData) : Prop := FunD K x qual (defArgs st) (defBody st) (defScope st) [] [] f fd
theorem callerA_gd : callerA.guards = some [] := by first | rfl | decide

/-- what defs that make lambdas ask of the ground -/
structure TBs (K : PySem.W.Frag) (mg : Str → Option Value) (base : Heap) : Prop where
  nd : ((tlOf K).map (·.1)).Nodup
  tb : ∀ c P q, PySem.W.codeHdIn K c P = true → (P, q) ∈ tlOf K → LamX.TabB base mg c P
/-- the tables are empty, each stands once -/
structure TabsH (K : PySem.W.Frag) (h : Heap) : Prop where
  em : ∀ p ∈ tlOf K, h.get? p.1 = some { cls := .none, data := .fields #[] }
  nd : ((tlOf K).map (·.1)).Nodup
theorem tlOf_none {K : PySem.W.Frag} {p : Addr × Str} (h : p ∈ tlOf K) : K.lookup p.1 = none := by
  obtain ⟨q, _, e⟩ := List.mem_filterMap.mp h
  unfold tlF at e
  split at e
  · split at e
    · split at e
      · rename_i hc
        cases e
        exact Option.isNone_iff_eq_none.mp (Bool.and_eq_true_iff.mp hc).2
      · cases e
    · cases e
  · cases e
section
variable {P : Program} {w : World} {K : PySem.W.Frag} {mg mb : Str → Option Value} {k : Nat} {fa a : Addr} {fd : FuncData} {x : Str} {s1 : Shared} {vs : List Value} {ns : List Int}
/-- the law's call: nothing but the script and the tables may be told of -/
theorem law_core {H : Hp} (KX : K.In s1.heap) (hns : s1.heap.Ns mainGlobals mg) (hb : s1.heap.Ns builtinsNs mb) (hbb : ∀ x : Str, x ≠ "__name__" → mb x = bootBuiltins x) (hlim : s1.heap.NoLimit) (hg : s1.gens = #[])
    (hbm : ∃ (bm : Addr) (ob : Obj), mg "__builtins__" = some (.ref bm) ∧ bm ≠ builtinsNs ∧ s1.heap.get? bm = some ob ∧ ob.cls = .type "module" ∧ ob.dict = some builtinsNs ∧ ob.data = .plain) (hTH : TabsH K s1.heap)
    (hs : s1.heap.get? a = some { cls := .type "list", data := .seq vs.toArray }) (len : ns.length ≤ 63) (hr : Room k callerA)
    (F : ∀ base : Heap, K.In base → base.Ns mainGlobals mg → TBs K mg base → DFn P w K mg base k fa fd [x] spLaw) (bind : ∀ (s : Shared) (u : Value), BindsTo s fd ⟨[u], []⟩ [(x, u)])
    (hO : ∀ b, H b = none ∨ b ∈ (tlOf K).map (·.1) ∨ ∃ o xs, H b = some (.frz o (.lst xs))) (hTb : ∀ p ∈ tlOf K, H p.1 = some (.tbl #[])) (hS : SqL K H a (ns.map V.int)) (hSd : RepV K mg (fun _ => none) H (.scr ns) (.ref a)) (hok : HOk P w H s1.heap)
    (hA : ∀ b, H b ≠ none → b = a ∨ b ∈ (tlOf K).map (·.1)) (hK : H a ≠ none → K.lookup a = none) :
    codeAny (model P w) callerA (.call (.ref fa) ⟨[.ref a], []⟩) (fun r s' => r = .ok (.ret (.bool true)) ∧ OldK s1.heap s'.heap ∧ s'.os = s1.os ∧ PyProof.Rows.AllBare s'.gens) s1 := by
  have isT : ∀ b : Addr, b ∈ (tlOf K).map (·.1) → s1.heap.get? b = some { cls := .none, data := .fields #[] } := fun b hb => by
    obtain ⟨p, hp, e⟩ := List.mem_map.mp hb
    rw [← e]
    exact hTH.em p hp
  have base_of : ∀ {b : Addr} {o : Obj}, s1.heap.get? b = some o → H b = none → (hidT s1.heap H).get? b = some o := fun e n => hidT_get e n
  have noD : ∀ {b : Addr} {o : Obj}, s1.heap.get? b = some o → (∀ vs n, o.data ≠ .seq vs n) → o.data ≠ .fields #[] → H b = none := fun {b o} e h1 h2 => by
    cases q : H b with
    | none => rfl
    | some u =>
      rcases hA b (by rw [q]; simp) with e' | e'
      · rw [e', hs] at e
        cases e
        exact (h1 _ _ rfl).elim
      · rw [isT b e'] at e
        cases e
        exact (h2 rfl).elim
  have noA : ∀ {b : Addr} {o : Obj} {es : Array DictEntry} {ep : Nat}, s1.heap.get? b = some o → o.data = .dict es ep → H b = none := fun {b o es ep} e d => by
    refine noD e (fun vs n z => ?_) fun z => ?_
    · rw [d] at z
      cases z
    · rw [d] at z
      cases z
  have nsK : ∀ {b : Addr} {m : Str → Option Value}, s1.heap.Ns b m → (hidT s1.heap H).Ns b m := fun {b m} ⟨o, es, ep, e, d, r⟩ => ⟨o, es, ep, base_of e (noA e d), d, r⟩
  have kb : K.In (hidT s1.heap H) := fun b o e => base_of (KX b o e) (by
    cases q : H b with
    | none => rfl
    | some u =>
      rcases hA b (by rw [q]; simp) with e' | e'
      · rw [e'] at e q
        rw [hK (by rw [q]; simp)] at e
        cases e
      · obtain ⟨p, hp, ep⟩ := List.mem_map.mp e'
        rw [← ep, tlOf_none hp] at e
        cases e)
  have md : Mod K mg (hidT s1.heap H) := ⟨kb, nsK hns, ⟨mb, nsK hb, hbb⟩, let ⟨mc, h1, h2⟩ := hlim; ⟨mc, nsK h1, h2⟩⟩
  have TB : TBs K mg (hidT s1.heap H) := ⟨hTH.nd, fun c P q hc hp => by
    have hTp := hTH.em _ hp
    refine ⟨PySem.W.codeHd_of_K kb hc, ?_, fun z => ?_⟩
    · obtain ⟨bm, ob, b1, b2, b3, b4, b5, b6⟩ := hbm
      have nG : bm ≠ mainGlobals := fun q => by
        obtain ⟨o, es, ep, e, hd, _⟩ := hns
        rw [q, e] at b3
        cases b3
        rw [hd] at b6
        cases b6
      have nP : bm ≠ P := fun q => by
        rw [q, hTp] at b3
        cases b3
        cases b6
      refine ⟨bm, ob, b1, b2, nG, nP, base_of b3 (noD b3 (fun vs n z => ?_) fun z => ?_), b4, b5, b6⟩
      · rw [b6] at z
        cases z
      · rw [b6] at z
        cases z
    · obtain ⟨o, es, ep, e, hd, _⟩ := hns
      rw [z, hTp] at e
      cases e
      cases hd⟩
  have none_mem : ∀ b : Addr, b ∉ frs ([] : List Env) := fun b z => by cases z
  have e0 : Env0 P w K mg (hidT s1.heap H) callerA [] s1 H := ⟨rfl, md, fun _ _ e => of_hidT e, Nat.le_of_eq (hidT_size _ _), trivial, fun b z => absurd z (none_mem b), hok, .of_eq hg⟩
  have m0 : RepM K mg (fun _ => none) H := ⟨(fun b o e => by cases e), TabsN.start TB.nd hTb fun b oc e => by
    rcases hO b with z | z | ⟨ob, xs, z⟩
    · rw [z] at e; cases e
    · obtain ⟨p, hp, ep⟩ := List.mem_map.mp z
      rw [← ep, hTb p hp] at e; cases e
    · rw [z] at e; cases e⟩
  refine codeAny_mono ((F _ kb (nsK hns) TB).run callerA [] s1 H (fun _ => none) ⟨[.ref a], []⟩ [.ref a] [.ref a] [.scr ns] (fun d _ => d = .bl true) (fun _ _ => False) ⟨hr, callerA_gd⟩ e0 (bind s1 (.ref a)) (.cons rfl .nil) m0 (.cons hSd .nil) ⟨len, rfl⟩) ?_
  intro r s' h
  rcases r with e | fl
  · obtain ⟨_, _, _, _, _, _, _, _, _, _, _, _, ⟨_, _, _, _, _, _, z⟩⟩ := h
    exact z.elim
  · cases fl with
    | next => exact False.elim h
    | brk => exact False.elim h
    | cont => exact False.elim h
    | ret u =>
      obtain ⟨v, H', os, bare, un, hok', r', d, M', _, _, rd, rfl⟩ := h
      unfold RepV at rd
      subst rd
      obtain rfl : u = Value.bool true := r'
      have key : ∀ b o, b ∉ (tlOf K).map (·.1) → s1.heap.get? b = some o → s'.heap.get? b = some o := fun b o nb e => by
        cases q : H b with
        | none => exact un.keep b o e q (none_mem b) (by simp)
        | some u =>
          rcases hO b with z | z | ⟨ob, xs, z⟩
          · rw [q] at z; cases z
          · exact absurd z nb
          · have z2 := un.frzs b ob _ z
            obtain ⟨e1, _⟩ := hok b _ z
            obtain ⟨e2, _⟩ := hok' b _ z2
            rw [e] at e1; cases e1
            exact e2
      have grown : ∀ p ∈ tlOf K, ∃ more : Array Value, s'.heap.get? p.1 = some { cls := .none, data := .fields more } := fun p hp => by
        obtain ⟨more, z⟩ := un.tbls p.1 #[] (hTb p hp)
        exact ⟨_, hok' p.1 _ z⟩
      have cd : ∀ p ∈ tlOf K, ∃ c, PySem.W.codeHdIn K c p.1 = true := fun p hp => by
        obtain ⟨q, _, e⟩ := List.mem_filterMap.mp hp
        unfold tlF at e
        split at e
        · split at e
          · split at e
            · rename_i hc
              cases e
              exact ⟨_, (Bool.and_eq_true_iff.mp hc).1⟩
            · cases e
          · cases e
        · cases e
      refine ⟨rfl, ⟨fun b o e => ?_, fun b o e => ?_⟩, os, bare⟩
      · by_cases hb : b ∈ (tlOf K).map (·.1)
        · obtain ⟨p, hp, ep⟩ := List.mem_map.mp hb
          obtain ⟨more, hm⟩ := grown p hp
          obtain ⟨c, hc⟩ := cd p hp
          rw [← ep] at e ⊢
          rw [hTH.em p hp] at e
          cases e
          exact .inr (.inl ⟨((PySem.W.codeHd_of_K KX hc).tab (hTH.em p hp)).isCodeTable, rfl, #[], more, rfl, by rw [Array.empty_append]; exact hm⟩)
        · exact .inl (key b o hb e)
      · by_cases hb : b ∈ (tlOf K).map (·.1)
        · obtain ⟨p, hp, ep⟩ := List.mem_map.mp hb
          obtain ⟨more, hm⟩ := grown p hp
          rw [← ep]
          exact ⟨_, hm⟩
        · exact ⟨o, key b o hb e⟩
theorem law_run (KX : K.In s1.heap) (hns : s1.heap.Ns mainGlobals mg) (hb : s1.heap.Ns builtinsNs mb) (hbb : ∀ x : Str, x ≠ "__name__" → mb x = bootBuiltins x) (hlim : s1.heap.NoLimit) (hg : s1.gens = #[])
    (hbm : ∃ (bm : Addr) (ob : Obj), mg "__builtins__" = some (.ref bm) ∧ bm ≠ builtinsNs ∧ s1.heap.get? bm = some ob ∧ ob.cls = .type "module" ∧ ob.dict = some builtinsNs ∧ ob.data = .plain) (hTH : TabsH K s1.heap)
    (hs : s1.heap.get? a = some { cls := .type "list", data := .seq vs.toArray }) (hi : PyProof.Rows.IntsAre vs ns) (len : ns.length ≤ 63) (hr : Room k callerA)
    (F : ∀ base : Heap, K.In base → base.Ns mainGlobals mg → TBs K mg base → DFn P w K mg base k fa fd [x] spLaw) (bind : ∀ (s : Shared) (u : Value), BindsTo s fd ⟨[u], []⟩ [(x, u)]) :
    codeAny (model P w) callerA (.call (.ref fa) ⟨[.ref a], []⟩) (fun r s' => r = .ok (.ret (.bool true)) ∧ OldK s1.heap s'.heap ∧ s'.os = s1.os ∧ PyProof.Rows.AllBare s'.gens) s1 := by
  have rv := vals_ints hi
  have lenV := hi.length
  have hz : ns.length ≤ sizeLine := Nat.le_trans len (by decide)
  have isT : ∀ b : Addr, b ∈ (tlOf K).map (·.1) → s1.heap.get? b = some { cls := .none, data := .fields #[] } := fun b hb => by
    obtain ⟨p, hp, e⟩ := List.mem_map.mp hb
    rw [← e]
    exact hTH.em p hp
  have memT : ∀ p ∈ tlOf K, p.1 ∈ (tlOf K).map (·.1) := fun p hp => List.mem_map.mpr ⟨p, hp, rfl⟩
  have aT : a ∉ (tlOf K).map (·.1) := fun z => by
    have q := isT a z
    rw [hs] at q
    have z' : Data.seq vs.toArray _ = Data.fields #[] := congrArg Obj.data (Option.some.inj q)
    cases z'
  rcases hk : K.lookup a with _ | o
  · refine law_core (H := fun b => if b = a then some (.frz { cls := .type "list", data := .seq vs.toArray } (.lst (ns.map V.int))) else if b ∈ (tlOf K).map (·.1) then some (.tbl #[]) else none) KX hns hb hbb hlim hg hbm hTH hs len hr F bind (fun b => ?_)
      (fun p hp => (if_neg (show ¬ p.1 = a from fun z => aT (by rw [← z]; exact memT p hp))).trans (if_pos (memT p hp))) (.inl (.inr ⟨_, if_pos rfl⟩)) ?_ (fun b u z => ?_) (fun b z => ?_) fun _ => hk
    · by_cases hb : b = a
      · exact .inr (.inr ⟨_, _, if_pos hb⟩)
      · by_cases hb2 : b ∈ (tlOf K).map (·.1)
        · exact .inr (.inl hb2)
        · exact .inl ((if_neg hb).trans (if_neg hb2))
    · unfold RepV
      exact ⟨a, rfl, .inl ⟨rfl, .inr ⟨_, if_pos rfl⟩⟩⟩
    · by_cases hb : b = a
      · subst hb
        have z' := (if_pos rfl).symm.trans z
        cases z'
        exact ⟨hs, by rw [List.length_map]; exact hz, vs, _, rv, hs⟩
      · have z1 := (if_neg hb).symm.trans z
        by_cases hb2 : b ∈ (tlOf K).map (·.1)
        · have z' := (if_pos hb2).symm.trans z1
          cases z'
          exact isT b hb2
        · have z' := (if_neg hb2).symm.trans z1
          cases z'
    · by_cases hb : b = a
      · exact .inl hb
      · by_cases hb2 : b ∈ (tlOf K).map (·.1)
        · exact .inr hb2
        · exact absurd ((if_neg hb).trans (if_neg hb2)) z
  · have e := KX a o hk
    rw [hs] at e
    cases e
    have hS : ∀ H, SqL K H a (ns.map V.int) := fun H => .inr ⟨_, vs.toArray, _, hk, rfl, rfl, rfl, by rw [List.size_toArray, lenV]; exact hz, by simpa using rv⟩
    refine law_core (H := fun b => if b ∈ (tlOf K).map (·.1) then some (.tbl #[]) else none) KX hns hb hbb hlim hg hbm hTH hs len hr F bind (fun b => ?_) (fun p hp => if_pos (memT p hp)) (hS _) ?_ (fun b u z => ?_) (fun b z => ?_) fun z => absurd (show (if a ∈ (tlOf K).map (·.1) then some (HO.tbl #[]) else none) = none from if_neg aT) z
    · by_cases hb : b ∈ (tlOf K).map (·.1)
      · exact .inr (.inl hb)
      · exact .inl (if_neg hb)
    · unfold RepV
      exact ⟨a, rfl, .inr (hS _)⟩
    · by_cases hb : b ∈ (tlOf K).map (·.1)
      · have z' := (if_pos hb).symm.trans z
        cases z'
        exact isT b hb
      · have z' := (if_neg hb).symm.trans z
        cases z'
    · by_cases hb : b ∈ (tlOf K).map (·.1)
      · exact .inr hb
      · exact absurd (if_neg hb) z
end
/-- the goal of the head, from the law's promise -/
theorem walk_D {l : PySem.W.OpenLaw} {k : Nat} {q : Program} {loose : List Str} {XP : (Str → Option Value) → Heap → Prop} {YP : World → Heap → Prop} {d : DefRec} {x : Str}
    (hn : l.most = some 63) (hdf : d.params.defaults = []) (hr : Room k callerA)
    (F : ∀ (w : World) (mg : Str → Option Value) (fa : Addr) (h : Heap), YP w h → h.Ns mainGlobals mg → mg d.name = some (.ref fa) →
      ∃ (K : PySem.W.Frag) (fd : FuncData), K.In h ∧ TabsH K h ∧ (∀ (s : Shared) (u : Value), BindsTo s fd ⟨[u], []⟩ [(x, u)]) ∧ ∀ base : Heap, K.In base → base.Ns mainGlobals mg → TBs K mg base → DFn l.prog w K mg base k fa fd [x] spLaw) :
    PySem.W.WalkO q loose XP YP l.row.toRowW d [] (fun f vs => PySem.call f vs) := by
  refine Att.attach_call hn hdf ?_
  intro w s0 s1 mg mb fa o pm cd doc a vs ns G Y ho hd hcd hmg hobj hints hlen hg
  obtain ⟨K, fd, KX, hT, hb, hF⟩ := F w mg fa _ Y G.T.g hmg
  exact law_run KX G.T.g G.T.b G.T.builtins G.T.nolimit hg G.T.bmain hT hobj hints hlen hr hF hb
end DL
/-! The D layer, part h: small rules, names of what is built in. -/
namespace DL
open PySem PySem.Spec L2
theorem b_len : bootBuiltins "len" = some (.builtin "len") := by first | exact PyProof.Rows.boot_len | exact PySem.boot_len | decide +kernel
theorem b_abs : bootBuiltins "abs" = some (.builtin "abs") := by first | exact PyProof.Rows.boot_abs | exact PySem.boot_abs | decide +kernel
theorem b_max : bootBuiltins "max" = some (.builtin "max") := by first | exact PyProof.Rows.boot_max | exact PySem.boot_max | decide +kernel
theorem b_min : bootBuiltins "min" = some (.builtin "min") := by first | exact PyProof.Rows.boot_min | exact PySem.boot_min | decide +kernel
theorem b_int : bootBuiltins "int" = some (.type "int") := by first | exact PyProof.Rows.boot_int | exact PySem.boot_int | decide +kernel
theorem b_bool : bootBuiltins "bool" = some (.type "bool") := by first | exact PyProof.Rows.boot_bool | exact PySem.boot_bool | decide +kernel
theorem b_str : bootBuiltins "str" = some (.type "str") := by first | exact PyProof.Rows.boot_str | exact PySem.boot_str | decide +kernel
theorem b_tuple : bootBuiltins "tuple" = some (.type "tuple") := by first | exact PyProof.Rows.boot_tuple | exact PySem.boot_tuple | decide +kernel
theorem b_list : bootBuiltins "list" = some (.type "list") := by first | exact PyProof.Rows.boot_list | exact PySem.boot_list | decide +kernel
theorem b_divmod : bootBuiltins "divmod" = some (.builtin "divmod") := by first | exact PyProof.Rows.boot_divmod | exact PySem.boot_divmod | decide +kernel
theorem b_all : bootBuiltins "all" = some (.builtin "all") := by first | exact PyProof.Rows.boot_all | exact PySem.boot_all | decide +kernel
theorem b_isinstance : bootBuiltins "isinstance" = some (.builtin "isinstance") := by first | exact PyProof.Rows.boot_isinstance | exact PySem.boot_isinstance | decide +kernel
theorem b_sorted : bootBuiltins "sorted" = some (.builtin "sorted") := by first | exact PyProof.Rows.boot_sorted | exact PySem.boot_sorted | decide +kernel
theorem b_repr : bootBuiltins "repr" = some (.builtin "repr") := by first | exact PyProof.Rows.boot_repr | exact PySem.boot_repr | decide +kernel
theorem Cy.hu65 {A : Around} {k : Nat} (c : Cy A k) : A.units + 65 < cLine := by have := c.room.un; omega
section
variable {X : Cx}
abbrev gPlus : DR2 := gI (fun _ _ => True) fun i j => .int (i + j)
theorem ia_add : PIp X .Add (rI0 fun i j => .int (i + j)) ∧ OpC X (rI0 fun i j => .int (i + j)) gPlus := ⟨iop_add, opI0 fun _ _ _ _ => rInt⟩
theorem ia_mul : PIp X .Mult (fun x y H Q => rI CMul (fun i j => .int (i * j)) x y H Q ∨ rI CMulW (fun i j => .int (i * j)) x y H Q) ∧
    OpC X (fun x y H Q => rI CMul (fun i j => .int (i * j)) x y H Q ∨ rI CMulW (fun i j => .int (i * j)) x y H Q) (gI mulOk fun i j => .int (i * j)) := by
  refine ⟨?_, ?_⟩
  · exact OpR.or iop_mul (L2.opI fun _ _ _ _ _ _ _ hc q => PyProof.Rows.imul_int q hc.ok)
  · intro M H d1 d2 v1 v2 R Q m r1 r2 g q
    unfold gI at g
    split at g
    · rename_i i j
      unfold RepV at r1 r2
      rcases g.1 with c | c
      · exact .inl ⟨i, j, r1, r2, c, q _ _ _ _ g.2 .rfl' m rInt⟩
      · exact .inr ⟨i, j, r1, r2, c, q _ _ _ _ g.2 .rfl' m rInt⟩
    · exact g.elim
theorem mt_sub {i : Nat} {k : D} : ∀ d ρ M (Q : Rho → Mp → Prop), dgSub (dV i) (dC k) d ρ M Q → ∃ ρ' M', Q ρ' M' := fun d ρ M Q h => by
  unfold dgSub dV dC at h
  split at h
  · dsimp only at h
    split at h
    · split at h
      · split at h
        · exact ⟨_, _, h⟩
        · exact h.elim
      · exact h.elim
    · exact h.elim
  · exact h.elim
end
end DL
/-! The D layer, part i: words for the readings. -/
namespace DL
open PySem PySem.Spec L2
theorem Wk.rfl' {P : Mp → Prop} {M : Mp} (h : P M) : Wk P M := ⟨M, MLe.rfl', h⟩
/-- .. the number told with what holds -/
theorem while_byN {c : TDb} {t : TDS} {E : DEnds} {ρ : Rho} {M : Mp} (Inv : Nat → Rho → Mp → Prop) (n : Nat) (h0 : Inv n ρ M)
    (step : ∀ (n : Nat) (ρ : Rho) (M : Mp) (P : Rho → Mp → Prop), Inv n ρ M → (∀ n' ρ' M', Inv n' ρ' M' → n' < n → P ρ' M') →
      c ρ M fun b M1 => (b = true → t { E with nx := fun ρ' M' => Wk (P ρ') M', ct := fun ρ' M' => Wk (P ρ') M', bk := E.nx } ρ M1) ∧ (b = false → E.nx ρ M1)) : dWhile c t E ρ M := by
  have key : ∀ (b : Nat) (n : Nat) (ρ : Rho) (M : Mp), Inv n ρ M → n < b → dWhileN c t E b ρ M := by
    intro b
    induction b with
    | zero => intro n ρ M _ h; omega
    | succ b ih =>
      intro n ρ M hi hm
      exact step n ρ M (fun ρ' M' => dWhileN c t E b ρ' M') hi fun n' ρ' M' hi' hm' => ih n' ρ' M' hi' (by omega)
  exact ⟨_, key _ n ρ M h0 (Nat.lt_succ_self _)⟩
/-- a for, by what holds behind so many turns -/
theorem for_by {g : TDG} {t : TDS} {E : DEnds} {items : List D} {ρ : Rho} {M : Mp} (Inv : Nat → Rho → Mp → Prop) (h0 : Inv 0 ρ M)
    (step : ∀ (i : Nat) (d : D) (ρ : Rho) (M : Mp) (P : Rho → Mp → Prop), items[i]? = some d → Inv i ρ M → (∀ ρ' M', Inv (i + 1) ρ' M' → P ρ' M') →
      g d ρ M fun ρ1 M1 => t { E with nx := fun ρ' M' => Wk (P ρ') M', ct := fun ρ' M' => Wk (P ρ') M', bk := E.nx } ρ1 M1)
    (hd : ∀ ρ M, Inv items.length ρ M → E.nx ρ M) : forL g t E items ρ M := by
  have key : ∀ (xs : List D) (i : Nat) (ρ : Rho) (M : Mp), items.drop i = xs → i ≤ items.length → Inv i ρ M → forL g t E xs ρ M := by
    intro xs
    induction xs with
    | nil =>
      intro i ρ M e hi h
      have : items.length ≤ i := List.drop_eq_nil_iff.mp e
      have : i = items.length := by omega
      subst this
      exact hd ρ M h
    | cons d xs ih =>
      intro i ρ M e hi h
      have hlt : i < items.length := by
        rcases Nat.lt_or_ge i items.length with q | q
        · exact q
        · rw [List.drop_of_length_le q] at e; cases e
      rw [List.drop_eq_getElem_cons hlt] at e
      injection e with e1 e2
      exact step i d ρ M (fun ρ' M' => forL g t E xs ρ' M') (by rw [List.getElem?_eq_getElem hlt, e1]) h fun ρ' M' h' => ih (i + 1) ρ' M' e2 hlt h'
  exact key items 0 ρ M rfl (Nat.zero_le _) h0
/-! ### plain data -/
@[simp] theorem pls_ints (n : Nat) (ns : List Int) : pls n (ns.map D.int) = true := by
  induction ns with
  | nil => simp [pls]
  | cons x xs ih => simp [pls, D.pl, ih]
theorem eqv_self {n : Nat} {d : D} (p : d.pl n = true) : D.eqv d d = true := SeqAt.eqv_refl _ (pl_shape n d p).1
theorem eqv_ints (ns ms : List Int) : PyData.eqvAll (pys (ns.map D.int)) (pys (ms.map D.int)) = decide (ns = ms) := by
  induction ns generalizing ms with
  | nil => cases ms <;> simp [pys, PyData.eqvAll]
  | cons x xs ih =>
    cases ms with
    | nil => simp [pys, PyData.eqvAll]
    | cons y ys =>
      simp only [List.map_cons, pys, D.py, PyData.eqvAll, PyData.eqv, ih]
      by_cases h : x = y <;> simp [h]
/-! ### places -/
theorem at0 {α : Type} (x : α) (xs : List α) : atI (x :: xs) 0 = some x := by
  have : atI (x :: xs) ((0 : Nat) : Int) = some x := atI_nat rfl
  simpa using this
theorem at1 {α : Type} (x y : α) (xs : List α) : atI (x :: y :: xs) 1 = some y := by
  have : atI (x :: y :: xs) ((1 : Nat) : Int) = some y := atI_nat rfl
  simpa using this
theorem at2 {α : Type} (x y z : α) (xs : List α) : atI (x :: y :: z :: xs) 2 = some z := by
  have : atI (x :: y :: z :: xs) ((2 : Nat) : Int) = some z := atI_nat rfl
  simpa using this
theorem at3 {α : Type} (x y z w : α) (xs : List α) : atI (x :: y :: z :: w :: xs) 3 = some w := by
  have : atI (x :: y :: z :: w :: xs) ((3 : Nat) : Int) = some w := atI_nat rfl
  simpa using this
theorem ix0 (n : Nat) : ixN (n + 1) 0 = some 0 := by unfold ixN; simp
theorem ix1 (n : Nat) : ixN (n + 1 + 1) 1 = some 1 := by unfold ixN; simp; omega
theorem ix2 (n : Nat) : ixN (n + 1 + 1 + 1) 2 = some 2 := by unfold ixN; simp; omega
/-! ### slices -/
/-! ### answers of isinstance -/
theorem kb_ii : kitB "int" "int" = some true := by decide +kernel
theorem kb_bi : kitB "bool" "int" = some true := by decide +kernel
theorem kb_ni : kitB "NoneType" "int" = some false := by decide +kernel
theorem kb_si : kitB "str" "int" = some false := by decide +kernel
theorem kb_ti : kitB "tuple" "int" = some false := by decide +kernel
theorem kb_li : kitB "list" "int" = some false := by decide +kernel
theorem kb_ib : kitB "int" "bool" = some false := by decide +kernel
theorem kb_bb : kitB "bool" "bool" = some true := by decide +kernel
theorem kb_nb : kitB "NoneType" "bool" = some false := by decide +kernel
theorem kb_sb : kitB "str" "bool" = some false := by decide +kernel
theorem kb_tb : kitB "tuple" "bool" = some false := by decide +kernel
theorem kb_lb : kitB "list" "bool" = some false := by decide +kernel
theorem kb_is : kitB "int" "str" = some false := by decide +kernel
theorem kb_bs : kitB "bool" "str" = some false := by decide +kernel
theorem kb_ns : kitB "NoneType" "str" = some false := by decide +kernel
theorem kb_ss : kitB "str" "str" = some true := by decide +kernel
theorem kb_ts : kitB "tuple" "str" = some false := by decide +kernel
theorem kb_ls : kitB "list" "str" = some false := by decide +kernel
theorem kb_it : kitB "int" "tuple" = some false := by decide +kernel
theorem kb_bt : kitB "bool" "tuple" = some false := by decide +kernel
theorem kb_nt : kitB "NoneType" "tuple" = some false := by decide +kernel
theorem kb_st : kitB "str" "tuple" = some false := by decide +kernel
theorem kb_tt : kitB "tuple" "tuple" = some true := by decide +kernel
theorem kb_lt : kitB "list" "tuple" = some false := by decide +kernel
end DL
/-! The D layer, part j: the head's facts, with classes. -/
namespace DL
open PySem PySem.Spec L2
/-- where a def stands: a global, a class's function, a property's getter, a classmethod's function -/
inductive Wh where
  | glo (x : Str) | fn (c m : Str) | get (c m : Str) | cm (c m : Str)
def gAd (K : PySem.W.Frag) (c f : Str) : Addr := match PySem.W.recIn K (He.ma K (He.ga K c) f) "property" with
  | some (.ref g :: _) => g
  | _ => 0
def cAd (K : PySem.W.Frag) (c f : Str) : Addr := He5.wf K (He.ga K c) "classmethod" f
def Wh.at_ (K : PySem.W.Frag) : Wh → Addr
  | .glo x => He.ga K x
  | .fn c m => He.ma K (He.ga K c) m
  | .get c m => gAd K c m
  | .cm c m => cAd K c m
structure DefA where
  wh : Wh
  name : Str
  qual : Str
  params : Arguments
  body : List Stmt
  scope : Scope
def fnA (K : PySem.W.Frag) (a : Addr) : He.FnW := match K.lookup a with
  | some ⟨_, _, .func fd, _⟩ => some (fd.name, fd.qualname, fd.params, fd.body, fd.scope, fd.globals, fd.closure, fd.builtins)
  | _ => none
def DefA.val (d : DefA) : He.FnW := some (d.name, d.qual, d.params, .stmts d.body, d.scope, mainGlobals, [], builtinsNs)
def DefA.ok (K : PySem.W.Frag) (d : DefA) : Bool := PySem.W.keepIn K (.ref (d.wh.at_ K)) && (match K.lookup (d.wh.at_ K) with
  | some ⟨_, _, .func fd, _⟩ => PySem.W.codeIn K fd.code d.qual && (He.dflB K fd.defaults [] && He.kwdB K fd.kwdefaults [])
  | _ => false)
theorem DefA.funD {K : PySem.W.Frag} {d : DefA} (e : fnA K (d.wh.at_ K) = d.val) (c : d.ok K = true) : ∃ fd, FunD K d.name d.qual d.params d.body d.scope [] [] (d.wh.at_ K) fd := by
  obtain ⟨kp, c2⟩ := He.ba c
  unfold fnA at e
  cases q : K.lookup (d.wh.at_ K) with
  | none =>
    rw [q] at c2
    cases c2
  | some o =>
    obtain ⟨oc, od, dt, osl⟩ := o
    rw [q] at c2 e
    cases dt with
    | func fd =>
      obtain ⟨n1, n2, n3, n4, n5, n6, n7, n8, n9, n10, n11, n12, n13, n14, n15⟩ := fd
      have e2 : (some (n1, n2, n3, n4, n5, n6, n7, n15) : He.FnW) = some (d.name, d.qual, d.params, .stmts d.body, d.scope, mainGlobals, [], builtinsNs) := e
      simp only [Option.some.injEq, Prod.mk.injEq] at e2
      obtain ⟨h1, h2, h3, h4, h5, h6, h7, h8⟩ := e2
      subst h1 h2 h3 h4 h5 h6 h7 h8
      have c3 : (PySem.W.codeIn K n13 d.qual && (He.dflB K n8 [] && He.kwdB K n9 [])) = true := c2
      obtain ⟨k1, k2⟩ := He.ba c3
      obtain ⟨k3, k4⟩ := He.ba k2
      exact ⟨_, ⟨oc, od, n8, n9, n10, n11, n12, n13, n14, osl, rfl, q, k1, He.dflB_ok k3, He.kwdB_ok k4⟩, kp⟩
    | _ => cases c2
/-- a class: a global's, a built-in one -/
inductive Ck where
  | own (c : Str) | ty (n : String)
def Ck.v (K : PySem.W.Frag) : Ck → Value
  | .own c => .ref (He.ga K c)
  | .ty n => .type n
inductive Fx where
  | fa (f : He.Fa)
  | prop (c f : Str)
  | kit (a b : Ck) (r : Bool)
  | ins (c : Str)
  | lam (w : Wh)
  | owne (c f : Str) (b : Nat)
  | xf (c f : Str)
  | exm (c' c : Str) (r : Bool)
  | exc (c : Str)
  | cm (c m : Str)
  | nex (c : Str)
  | nf (c : Str) (t : String)
  | nb (c : Str) (t : String)
  | own0 (c : Str) (b : Nat)
  /-- a class finds a builtin by this name -/
  | fb (c x : Str) (i : String)
  /-- the dict of modules is a dict -/
  | sysd
  /-- KeyError and clauses -/
  | exk (c : Str) (r : Bool)
  | exl (c : Str) (r : Bool)
  | exkk
def ebTail : Nat → List Value
  | 0 => [.type "ValueError", .type "Exception", .type "BaseException", .type "object"]
  | 1 => [.type "LookupError", .type "Exception", .type "BaseException", .type "object"]
  | _ => [.type "ArithmeticError", .type "Exception", .type "BaseException", .type "object"]
def ebNew : Nat → String
  | 0 => "ValueError.__new__"
  | 1 => "LookupError.__new__"
  | _ => "ArithmeticError.__new__"
def Fx.ok (K : PySem.W.Frag) : Fx → Bool
  | .fa f => f.ok K
  | .prop c f => He.eqO (PySem.W.findIn K (.ref (He.ga K c)) f) (some (some (.ref (He.ma K (He.ga K c) f)))) &&
      (He.eqO (PySem.W.specialIn K (.ref (He.ma K (He.ga K c) f)) "__get__") (some (some (.builtin "property.__get__"))) &&
      (decide (PySem.W.takesIn K (.ref (He.ma K (He.ga K c) f)) = some true) &&
      (match PySem.W.recIn K (He.ma K (He.ga K c) f) "property" with
        | some (.ref _ :: _) => true
        | _ => false)))
  | .ins c => (He.Fa.cls c).ok K && (He.eqO (PySem.W.findIn K (.ref (He.ga K c)) "__class__") (some (some (.builtin "object.__class__"))) &&
      (He.eqO (PySem.W.specialIn K (.builtin "object.__class__") "__get__") (some (some (.builtin "getset_descriptor.__get__"))) &&
      (decide (PySem.W.takesIn K (.builtin "object.__class__") = some true) && decide (PySem.W.mroIn K (He.ga K c) (.type "object") = some true))))
  | .owne c f b => PySem.W.excInitIn K (He.ga K c) (ebTail b) (ebNew b) && (PySem.W.hasDictIn K (He.ga K c) && (He.eqO (PySem.W.findIn K (.ref (He.ga K c)) "__setattr__") (some (some (.builtin "object.__setattr__"))) &&
      (decide (PySem.W.findIn K (.ref (He.ga K c)) f = some none) && (He.eqO (PySem.W.findIn K (.ref (He.ga K c)) "__init__") (some (some (.ref (He.ma K (He.ga K c) "__init__")))) &&
      (decide (PySem.W.typeIn K (.ref (He.ma K (He.ga K c) "__init__")) = some (.type "function")) && (PySem.W.keepIn K (.ref (He.ga K c)) &&
      (decide (PySem.W.subIn K (.ref (He.ga K c)) (.type "BaseException") = some true) && (decide (PySem.W.typeIn K (.ref (He.ga K c)) = some (.type "type")) && (decide (f = "given") || decide (f = "index"))))))))))
  | .own0 c b => PySem.W.excIn K (He.ga K c) (ebTail b) (ebNew b) && (PySem.W.keepIn K (.ref (He.ga K c)) && (decide (PySem.W.subIn K (.ref (He.ga K c)) (.type "BaseException") = some true) && decide (PySem.W.typeIn K (.ref (He.ga K c)) = some (.type "type"))))
  | .xf c f => xfB K (He.ga K c) && decide (PySem.W.findIn K (.ref (He.ga K c)) f = some none)
  | .exm c' c r => decide (PySem.W.exmOne K (.ref (He.ga K c')) (.ref (He.ga K c)) = some r)
  | .exc c => He.eqO (PySem.W.findIn K (.ref (He.ga K c)) "__getattribute__") (some (some (.builtin "BaseException.__getattribute__"))) && (decide (PySem.W.findIn K (.ref (He.ga K c)) "__getattr__" = some none) &&
      (decide (PySem.W.subIn K (.ref (He.ga K c)) (.type "BaseException") = some true) && (PySem.W.hasDictIn K (He.ga K c) && (He.eqO (PySem.W.findIn K (.ref (He.ga K c)) "__class__") (some (some (.builtin "object.__class__"))) &&
      (He.eqO (PySem.W.specialIn K (.builtin "object.__class__") "__get__") (some (some (.builtin "getset_descriptor.__get__"))) &&
      (decide (PySem.W.takesIn K (.builtin "object.__class__") = some true) && decide (PySem.W.mroIn K (He.ga K c) (.type "object") = some true)))))))
  | .lam w => (match K.lookup (w.at_ K) with
    | some ⟨_, _, .func fd, _⟩ => (match fd.code with
      | .ref c => PySem.W.codeHdIn K c (He.tabOf K c) && (K.lookup (He.tabOf K c)).isNone
      | _ => false)
    | _ => false)
  | .kit a b r => decide (PySem.W.kitOne K (a.v K) (b.v K) = some r)
  | .cm c m => PySem.W.readsIn K (He.ga K c) (.type "type") && (He5.wrapB K (He.ga K c) "classmethod" "classmethod.__get__" m && PySem.W.fnIn K (cAd K c m))
  | .nex c => He.eqO (PySem.W.findIn K (.ref (He.ga K c)) "__ne__") (some (some (.builtin "object.__ne__")))
  | .nf c t => PySem.W.notFirst K (He.ga K c) (.type t)
  | .nb c t => PySem.W.subIn K (.ref (He.ga K c)) (.type t) == some false
  | .fb c x i => He.eqO (PySem.W.findIn K (.ref (He.ga K c)) x) (some (some (.builtin i)))
  | .sysd => decide (PySem.W.typeIn K (.ref sysModules) = some (.type "dict"))
  | .exk c r => decide (PySem.W.exmOne K (.type "KeyError") (.ref (He.ga K c)) = some r)
  | .exl c r => decide (PySem.W.exmOne K (.ref (He.ga K c)) (.type "KeyError") = some r)
  | .exkk => decide (PySem.W.exmOne K (.type "KeyError") (.type "KeyError") = some true)
/-- of instances' class as isinstance asks it -/
structure InsK (K : PySem.W.Frag) (C : Addr) : Prop where
  cl : Cls K C
  ha : PySem.W.findIn K (.ref C) "__class__" = some (some (.builtin "object.__class__"))
  hn : PySem.W.specialIn K (.builtin "object.__class__") "__get__" = some (some (.builtin "getset_descriptor.__get__"))
  htk : PySem.W.takesIn K (.builtin "object.__class__") = some true
  hm : PySem.W.mroIn K C (.type "object") = some true
theorem ins_ok {K : PySem.W.Frag} {c : Str} (q : (Fx.ins c).ok K = true) : InsK K (He.ga K c) := by
  obtain ⟨c1, q⟩ := He.ba q
  obtain ⟨c2, q⟩ := He.ba q
  obtain ⟨c3, q⟩ := He.ba q
  obtain ⟨c4, c5⟩ := He.ba q
  exact ⟨He.cls_ok c1, He.eqO_ok c2, He.eqO_ok c3, of_decide_eq_true c4, of_decide_eq_true c5⟩
theorem cm_ok {K : PySem.W.Frag} {c m : Str} (q : (Fx.cm c m).ok K = true) : ClX.CRead K (He.ga K c) (.type "type") ∧ ClX.CMet K (He.ga K c) (.type "type") m (He.ma K (He.ga K c) m) (cAd K c m) := by
  obtain ⟨c1, q⟩ := He.ba q
  obtain ⟨c2, c3⟩ := He.ba q
  obtain ⟨h1, h2⟩ := He5.wrapB_ok c2
  refine ⟨⟨c1, ?_⟩, ⟨h1, h2, c3⟩⟩
  unfold PySem.W.readsIn at c1
  obtain ⟨h, _⟩ := He.ba c1
  obtain ⟨h, _⟩ := He.ba h
  obtain ⟨h, h3⟩ := He.ba h
  obtain ⟨_, h2⟩ := He.ba h
  unfold PySem.W.specialIn
  rw [beq_iff_eq.mp h2, Option.bind_some]
  exact beq_iff_eq.mp h3
theorem fa_ok {K : PySem.W.Frag} {f : He.Fa} (c : (Fx.fa f).ok K = true) : f.ok K = true := c
theorem kit_ok {K : PySem.W.Frag} {a b : Ck} {r : Bool} (c : (Fx.kit a b r).ok K = true) : PySem.W.kitOne K (a.v K) (b.v K) = some r := of_decide_eq_true c
def obsA (fa : List Fx) (fn : List DefA) (K : PySem.W.Frag) : He.AlD := ((fa.all fun f => f.ok K) && fn.all fun d => d.ok K, fn.map fun d => fnA K (d.wh.at_ K))
def valA (fn : List DefA) : He.AlD := (true, fn.map DefA.val)
def SaysA (fa : List Fx) (fn : List DefA) (K : PySem.W.Frag) : Prop := obsA fa fn K = valA fn
theorem lam_ok {K : PySem.W.Frag} {w : Wh} (c : (Fx.lam w).ok K = true) : LamOk K (w.at_ K) := by
  have c : (match K.lookup (w.at_ K) with
    | some ⟨_, _, .func fd, _⟩ => (match fd.code with
      | .ref c => PySem.W.codeHdIn K c (He.tabOf K c) && (K.lookup (He.tabOf K c)).isNone
      | _ => false)
    | _ => false) = true := c
  split at c
  · rename_i oc od fd sl e
    split at c
    · rename_i c1 e1
      exact ⟨_, fd, c1, e, rfl, e1, c⟩
    · cases c
  · cases c
/-- all tables of the written defs stand empty, each once -/
def tabsAll (g : Addr → Option Obj) (K : PySem.W.Frag) : Bool := (tlOf K).all (fun p => match g p.1 with
    | some o => He.emptyTab o
    | none => false) && decide ((tlOf K).map (·.1)).Nodup
theorem tabsAll_ok {K : PySem.W.Frag} {h : Heap} (c : tabsAll h.get? K = true) : TabsH K h := by
  unfold tabsAll at c
  rw [Bool.and_eq_true] at c
  refine ⟨fun p hp => ?_, of_decide_eq_true c.2⟩
  have := List.all_eq_true.mp c.1 p hp
  cases q : h.get? p.1 with
  | none => rw [q] at this; cases this
  | some o => rw [q] at this; rw [He.emptyTab_eq this]
abbrev AlB : Type := He.AlD × Bool
section
variable {fa : List Fx} {fn : List DefA} {K : PySem.W.Frag}
theorem SaysA.fact (c : SaysA fa fn K) (i : Nat) {f : Fx} (h : fa[i]? = some f := by rfl) : f.ok K = true := by
  have c1 := (He.ba (show ((fa.all fun f => f.ok K) && fn.all fun d => d.ok K) = true from congrArg (fun z : He.AlD => z.1) c)).1
  exact List.all_eq_true.mp c1 f (List.mem_of_getElem? h)
theorem SaysA.def_ (c : SaysA fa fn K) (i : Nat) {d : DefA} (h : fn[i]? = some d := by rfl) : ∃ fd, FunD K d.name d.qual d.params d.body d.scope [] [] (d.wh.at_ K) fd := by
  have c2 := (He.ba (show ((fa.all fun f => f.ok K) && fn.all fun d => d.ok K) = true from congrArg (fun z : He.AlD => z.1) c)).2
  have e : fn.map (fun d => fnA K (d.wh.at_ K)) = fn.map DefA.val := congrArg (fun z : He.AlD => z.2) c
  have e2 : (fn.map fun d => fnA K (d.wh.at_ K))[i]? = (fn.map DefA.val)[i]? := by rw [e]
  rw [List.getElem?_map, List.getElem?_map, h] at e2
  exact DefA.funD (Option.some.inj e2) (List.all_eq_true.mp c2 d (List.mem_of_getElem? h))
end
end DL
namespace Law
open PySem PySem.Spec L2 DL
def topS (i : Nat) : Stmt := PySem.Challenge.pw_smoothpairs_k06_texts_of_other_kinds_ref.main.body.getD i (.Pass ⟨0, 0, 0, 0⟩)
def clsBody : Stmt → List Stmt
  | .ClassDef _ _ _ b _ _ _ _ _ _ _ => b
  | _ => []
def clsS (i j : Nat) : Stmt := (clsBody (topS i)).getD j (.Pass ⟨0, 0, 0, 0⟩)
abbrev s_law_gulp : Stmt := topS 18
abbrev s_law_choose : Stmt := topS 19
abbrev s_law_row : Stmt := topS 20
abbrev s_is_integer : Stmt := topS 8
abbrev s_is_prime : Stmt := topS 11
abbrev s_wrong_prime : Stmt := topS 13
abbrev s_product_of : Stmt := topS 12
abbrev s_Lot___init : Stmt := clsS 15 0
abbrev s_law_nested : Stmt := topS 22
abbrev s_law_refused : Stmt := topS 21
abbrev s_read_number : Stmt := topS 9
abbrev s_read_lot : Stmt := topS 14
abbrev s_Lot_read : Stmt := clsS 15 1
abbrev s_Lot___str : Stmt := clsS 15 11
abbrev s_law_right : Stmt := topS 23
abbrev s_law_gourd_of : Stmt := topS 17
abbrev s_law : Stmt := topS 24
/-! ### the head -/
def df_law_gulp : DefA := ⟨.glo "_law_gulp", "_law_gulp", "_law_gulp", defArgs s_law_gulp, defBody s_law_gulp, defScope s_law_gulp⟩
def df_law_choose : DefA := ⟨.glo "_law_choose", "_law_choose", "_law_choose", defArgs s_law_choose, defBody s_law_choose, defScope s_law_choose⟩
def df_law_row : DefA := ⟨.glo "_law_row", "_law_row", "_law_row", defArgs s_law_row, defBody s_law_row, defScope s_law_row⟩
def df_is_integer : DefA := ⟨.glo "is_integer", "is_integer", "is_integer", defArgs s_is_integer, defBody s_is_integer, defScope s_is_integer⟩
def df_is_prime : DefA := ⟨.glo "is_prime", "is_prime", "is_prime", defArgs s_is_prime, defBody s_is_prime, defScope s_is_prime⟩
def df_wrong_prime : DefA := ⟨.glo "wrong_prime", "wrong_prime", "wrong_prime", defArgs s_wrong_prime, defBody s_wrong_prime, defScope s_wrong_prime⟩
def df_product_of : DefA := ⟨.glo "product_of", "product_of", "product_of", defArgs s_product_of, defBody s_product_of, defScope s_product_of⟩
def df_Lot___init : DefA := ⟨.fn "Lot" "__init__", "__init__", "Lot.__init__", defArgs s_Lot___init, defBody s_Lot___init, defScope s_Lot___init⟩
def df_law_nested : DefA := ⟨.glo "_law_nested", "_law_nested", "_law_nested", defArgs s_law_nested, defBody s_law_nested, defScope s_law_nested⟩
def df_law_refused : DefA := ⟨.glo "_law_refused", "_law_refused", "_law_refused", defArgs s_law_refused, defBody s_law_refused, defScope s_law_refused⟩
def df_read_number : DefA := ⟨.glo "read_number", "read_number", "read_number", defArgs s_read_number, defBody s_read_number, defScope s_read_number⟩
def df_read_lot : DefA := ⟨.glo "read_lot", "read_lot", "read_lot", defArgs s_read_lot, defBody s_read_lot, defScope s_read_lot⟩
def df_Lot_read : DefA := ⟨.cm "Lot" "read", "read", "Lot.read", defArgs s_Lot_read, defBody s_Lot_read, defScope s_Lot_read⟩
def df_Lot___str : DefA := ⟨.fn "Lot" "__str__", "__str__", "Lot.__str__", defArgs s_Lot___str, defBody s_Lot___str, defScope s_Lot___str⟩
def df_law_right : DefA := ⟨.glo "_law_right", "_law_right", "_law_right", defArgs s_law_right, defBody s_law_right, defScope s_law_right⟩
def df_law_gourd_of : DefA := ⟨.glo "_law_gourd_of", "_law_gourd_of", "_law_gourd_of", defArgs s_law_gourd_of, defBody s_law_gourd_of, defScope s_law_gourd_of⟩
def df_law : DefA := ⟨.glo "law", "law", "law", defArgs s_law, defBody s_law, defScope s_law⟩
abbrev s_EInvalidText : Stmt := clsS 3 0
def df_EInvalidText : DefA := ⟨.fn "InvalidText" "__init__", "__init__", "InvalidText.__init__", defArgs s_EInvalidText, defBody s_EInvalidText, defScope s_EInvalidText⟩
def fnL : List DefA := [df_law_gulp, df_law_choose, df_law_row, df_is_integer, df_is_prime, df_wrong_prime, df_product_of, df_Lot___init, df_law_nested, df_law_refused, df_read_number, df_read_lot, df_Lot_read, df_Lot___str, df_law_right, df_law_gourd_of, df_law, df_EInvalidText]
def faL : List Fx := [.fa (.free "all"), .fa (.free "range"), .fa (.free "max"), .fa (.free "min"), .fa (.free "len"), .fa (.free "str"), .fa (.free "list"), .fa (.free "tuple"), .fa (.free "repr"), .sysd, .fa (.free "sorted"), .fa (.free "divmod"), .fa (.free "int"), .fa (.glo "Lot"), .ins "Lot", .fa (.noat "Lot" "row"), .fa (.noat "Lot" "whole"), .fa (.free "isinstance"), .fa (.free "enumerate"), .fa (.int "MOST_PRODUCT" 30030), .fa (.free "bool"), .fa (.glo "InvalidText"), .exm "InvalidText" "InvalidText" true, .exc "InvalidText", .fa (.glo "WrongValue"), .kit (.own "InvalidText") (.own "WrongValue") true, .xf "InvalidText" "given", .owne "InvalidText" "given" 0, .fa (.str "DIGITS" "0123456789"), .fa (.free "abs"), .fa (.glo "law"), .fa (.glo "_law_gulp"), .fa (.glo "_law_choose"), .fa (.glo "_law_row"), .fa (.glo "is_integer"), .fa (.glo "is_prime"), .fa (.glo "wrong_prime"), .fa (.glo "product_of"), .fa (.mkr "Lot"), .fa (.glo "_law_nested"), .fa (.glo "_law_refused"), .fa (.glo "read_number"), .fa (.glo "read_lot"), .cm "Lot" "read", .fa (.meth "Lot" "__str__"), .fa (.glo "_law_right"), .lam (.glo "_law_right"), .fa (.glo "_law_gourd_of")]
abbrev LRow : PySem.W.OpenRow := PySem.W.OpenLaw.row PySem.Challenge.rw_smoothpairs_k06_texts_of_other_kinds_ref
/-- what is seen of written addresses -/
def obsAL (as : List Addr) (fa : List Fx) (fn : List DefA) (g : Addr → Option Obj) : AlB := (obsA fa fn (He.frT g as), tabsAll g (He.frT g as))
def hookL (as : List Addr) (fa : List Fx) (fn : List DefA) : PySem.W.Hook where
  α := AlB
  obs := fun s => obsAL as fa fn s.heap.get?
  val := fun _ => (valA fn, true)
  says := fun _ h => ∃ K : PySem.W.Frag, K.In h ∧ SaysA fa fn K ∧ TabsH K h
  of := fun _ _ e => ⟨_, He.frT_in, congrArg Prod.fst e, tabsAll_ok (congrArg Prod.snd e)⟩
  keeps := fun _ _ _ ⟨K, hK, c, t⟩ k => ⟨K, PySem.W.Frag.In.keeps hK k, c, ⟨fun p hp => k _ _ (t.em p hp), t.nd⟩⟩
theorem obsAL_eq {as : List Addr} {fa : List Fx} {fn : List DefA} {g : Addr → Option Obj} {s : Shared} (h : ∀ a, g a = s.heap.get? a) : obsAL as fa fn g = (hookL as fa fn).obs s := by
  have e : g = s.heap.get? := funext h
  rw [e] <;> rfl
def heap0 : List Addr := [1, 2, 3, 29, 30, 31, 32, 42, 43, 44, 45, 46, 47, 48, 49, 50, 51, 73, 74, 75, 76, 77, 78, 79, 80, 81, 82, 83, 84, 85, 86, 87, 88, 89, 90, 91, 92, 93, 94, 95]
def heap1 : List Addr := [96, 97, 98, 99, 100, 101, 102, 103, 104, 105, 106, 107, 108, 109, 110, 118, 119, 120, 121, 122, 123, 124, 125, 126, 127, 128, 129, 130, 131, 132, 133, 134, 135, 136, 137, 138, 139, 140, 141, 142]
def heap2 : List Addr := [143, 144, 145, 146, 147, 148, 149, 150, 151, 152, 153, 154, 155, 156, 157, 158, 159, 160, 161, 162, 163, 164, 165, 166, 167, 168, 169, 170, 171, 172, 173, 174, 175, 176, 177, 178, 179, 180, 181, 182]
def heap3 : List Addr := [183, 184, 185, 186, 187, 188, 189, 190, 191, 192, 193, 194, 195, 196, 197, 198, 199, 200, 201, 202, 203, 204, 205, 206, 207, 208, 209, 210, 213, 214, 215, 216, 217, 218, 219, 220, 221, 222, 223, 224]
def heap4 : List Addr := [225, 226, 227, 228, 229, 230, 231, 232, 233, 234, 235, 236, 237, 238, 239, 240, 241, 242, 243, 244, 245, 246, 247, 248, 249, 250, 251, 252, 253, 254, 255, 256, 257, 258, 259, 260]
def heapL : List Addr := heap0 ++ heap1 ++ heap2 ++ heap3 ++ heap4
abbrev hkk : PySem.W.Hook := hookL heapL faL fnL
def obb (s : PySem.W.SharedT) : AlB := obsAL heapL faL fnL (HandSHeadRun.getT s)
theorem obb_eq (s : PySem.W.SharedT) : obb s = hkk.obs s.abs := obsAL_eq (HandSHeadRun.getT_eq s)
def looseL : List Str := ["_wall", "WrongValue", "InvalidText", "InvalidPrimes", "MOST_PRODUCT", "DIGITS", "is_integer", "read_number", "is_prime", "product_of", "wrong_prime", "read_lot", "Lot", "_law_gourd_of", "_law_gulp", "_law_choose", "_law_row", "_law_refused", "_law_nested", "_law_right"]
theorem run_join {α β γ δ ε ζ : Type} {X : Option α} {f1 : α → β} {f2 : α → γ} {f3 : α → (δ × ε) × ζ} {v1 : β} {v2 : γ} {a : δ} {b : ε} {c : ζ} (h : X.map (fun s => (f1 s, f2 s)) = some (v1, v2)) (h1 : X.map (fun s => (f3 s).1.1) = some a) (h2 : X.map (fun s => (f3 s).1.2) = some b) (h3 : X.map (fun s => (f3 s).2) = some c) : X.map (fun s => (f1 s, f2 s, f3 s)) = some (v1, v2, ((a, b), c)) := by
  cases X with
  | none => cases h
  | some x =>
    cases h
    cases h1
    cases h2
    cases h3
    rfl
abbrev qvv : Program := PySem.W.view LRow.prog [24]
open HandSHeadRun PySem.W PySem.Calls PyProof.Rows in
set_option maxHeartbeats 0 in
theorem runA (w : World) (os : OsState) : (endF (stepQ (denQ tabQ) LRow.prog w) 20000 LRow.prog w os).map (fun s => (looksF LRow.prog (boot_heap w.params) s.abs, seenQ qvv looseL (importedModules LRow.prog.main.body) (fun s => xlAt qvv [] s && recOk LRow.toRowW.records s) s.abs)) = some (true, openGood qvv looseL) := by
  kernel_rfl
open HandSHeadRun PySem.W PySem.Calls PyProof.Rows in
set_option maxHeartbeats 0 in
theorem runB (w : World) (os : OsState) : (endF (stepQ (denQ tabQ) LRow.prog w) 20000 LRow.prog w os).map (fun s => (obb s).1.1) = some true := by
  kernel_rfl
open HandSHeadRun PySem.W PySem.Calls PyProof.Rows in
set_option maxHeartbeats 0 in
theorem runC (w : World) (os : OsState) : (endF (stepQ (denQ tabQ) LRow.prog w) 20000 LRow.prog w os).map (fun s => (obb s).1.2) = some (fnL.map DefA.val) := by
  kernel_rfl
open HandSHeadRun PySem.W PySem.Calls PyProof.Rows in
set_option maxHeartbeats 0 in
theorem runD (w : World) (os : OsState) : (endF (stepQ (denQ tabQ) LRow.prog w) 20000 LRow.prog w os).map (fun s => (obb s).2) = some true := by
  kernel_rfl
theorem runW (w : World) : HandSHeadRun.RunEq LRow (PySem.W.view LRow.prog [24]) hkk obb 20000 looseL w := fun os => run_join (runA w os) (runB w os) (runC w os) (runD w os)

end Law
/-! The D layer, part k: own classes. -/
namespace DL
open PySem PySem.Spec L2
/-! ### attributes as data -/
def fldOf (M : Mp) (c f : Str) : D → Option D
  | .inst c' fn xs => if c' = c then (fn.zip xs).lookup f else none
  | .ref a => match M a with
    | some (.ins c' fs) => if c' = c then fs.lookup f else none
    | _ => none
  | _ => none
def putD (f : Str) (v : D) : List (Str × D) → List (Str × D)
  | [] => [(f, v)]
  | (g, x) :: r => if g = f then (g, v) :: r else (g, x) :: putD f v r
section
variable {K : PySem.W.Frag} {mg : Str → Option Value} {M : Mp} {H : Hp}
theorem look_zip {f : Str} {x : D} : ∀ {gs : List (Str × V)} {ns : List Str} {xs : List D}, gs.map (·.1) = ns → RepVs K mg M H xs (gs.map (·.2)) → (ns.zip xs).lookup f = some x → ∃ w, gs.lookup f = some w ∧ RepV K mg M H x w
  | [], ns, xs, e, r, l => by subst e; simp at l
  | (g, v) :: gs, ns, xs, e, r, l => by
    subst e
    cases xs with
    | nil => simp at l
    | cons y ys =>
      simp only [List.map_cons] at r l
      unfold RepVs at r
      obtain ⟨v', vr, ev, rv, rs⟩ := r
      injection ev with e1 e2
      subst e1
      subst e2
      rw [List.zip_cons_cons, List.lookup_cons] at l
      rw [List.lookup_cons]
      cases q : f == g with
      | true => rw [q] at l; injection l with l; subst l; exact ⟨v, rfl, rv⟩
      | false => rw [q] at l; exact look_zip rfl rs l
theorem zip_maps : ∀ (fs : List (Str × D)), (fs.map (·.1)).zip (fs.map (·.2)) = fs
  | [] => rfl
  | (a, b) :: fs => by simp only [List.map_cons, List.zip_cons_cons, zip_maps fs]
theorem fld_rep (m : RepM K mg M H) {c f : Str} {d x : D} {v : V} (r : RepV K mg M H d v) (l : fldOf M c f d = some x) :
    ∃ a C dx fs w, v = .ref a ∧ H a = some (.ins C dx fs) ∧ mg c = some (.ref C) ∧ fs.lookup f = some w ∧ RepV K mg M H x w := by
  unfold fldOf at l
  split at l
  · rename_i c' fn xs
    split at l
    · rename_i e
      subst e
      unfold RepV at r
      obtain ⟨a, C, dx, fs, rfl, n, hc, ha, hf, rs⟩ := r
      obtain ⟨w, lw, rw'⟩ := look_zip hf rs l
      exact ⟨a, C, dx, fs, w, rfl, ha, hc, lw, rw'⟩
    · cases l
  · rename_i a
    unfold RepV at r
    subst r
    split at l
    · rename_i c' fs e
      split at l
      · rename_i e2
        subst e2
        obtain ⟨C, dx, gs, hc, ha, h1, h2⟩ := m a _ e
        obtain ⟨w, lw, rw'⟩ := look_zip h1 h2 (by rw [zip_maps]; exact l)
        exact ⟨a, C, dx, gs, w, rfl, ha, hc, lw, rw'⟩
      · cases l
    · cases l
  · cases l
theorem RepF.put {f : Str} {y : D} {v : V} (r : RepV K mg M H y v) : ∀ {fs : List (Str × D)} {gs : List (Str × V)}, RepF K mg M H fs gs → RepF K mg M H (putD f y fs) (putF f v gs)
  | [], [], h => ⟨rfl, .cons r .nil⟩
  | [], (g, x) :: gs, h => by have := h.1; simp at this
  | (g, x) :: fs, [], h => by have := h.1; simp at this
  | (g, x) :: fs, (g', x') :: gs, h => by
    obtain ⟨h1, h2⟩ := h
    simp only [List.map_cons, List.cons.injEq] at h1
    obtain ⟨rfl, h1⟩ := h1
    simp only [List.map_cons] at h2
    unfold RepVs at h2
    obtain ⟨w, vr, e, rw', rs⟩ := h2
    injection e with e1 e2
    subst e1
    subst e2
    unfold putD putF
    by_cases q : g' = f
    · rw [if_pos q, if_pos q]
      exact ⟨by simp only [List.map_cons, h1], .cons r rs⟩
    · rw [if_neg q, if_neg q]
      have ih := RepF.put (f := f) r (fs := fs) (gs := gs) ⟨h1, rs⟩
      exact ⟨by simp only [List.map_cons, ih.1], .cons rw' ih.2⟩
theorem repF_len {fs : List (Str × D)} {gs : List (Str × V)} (h : RepF K mg M H fs gs) : gs.length = fs.length := by
  have := congrArg List.length h.1
  simpa using this
end
def FldN (K : PySem.W.Frag) (mg : Str → Option Value) (c f : Str) : Prop := ∃ C, mg c = some (.ref C) ∧ Cls K C ∧ NoAttr K C f
section
variable {X : Cx} {B : At}
/-! ### e.f -/
def dFld (c f : Str) (t : TD) : TD := fun ρ M Q => t ρ M fun d M1 => match fldOf M1 c f d with
  | some x => Q x M1
  | none => False
theorem de_fld {c f : Str} {e : Expr} {t : TD} {pos : Pos} (hc : FldN X.K X.mg c f) (he : DE X B e t) (hb : attributeBase e f X.env (eval e X.env) = eval e X.env := by rfl) : DE X B (.Attribute e f pos) (dFld c f t) := by
  refine PE.imp (pe_fld he hb) fun σ H Q h => ?_
  obtain ⟨ρ, M, R, hh, h, q⟩ := h
  refine ⟨ρ, M, _, hh, h, fun d M1 v H1 h1 k1 m1 r1 => ?_⟩
  split at h1
  · rename_i x l
    obtain ⟨a, C, dx, fs, w, rfl, ha, hcc, lw, rw'⟩ := fld_rep m1 r1 l
    obtain ⟨C', hc', cl, na⟩ := hc
    rw [hcc] at hc'
    cases hc'
    exact ⟨a, C, dx, fs, w, rfl, ha, cl, na, lw, q x M1 w H1 h1 k1 m1 rw'⟩
  · exact h1.elim
/-! ### o.f = e -/
def dSetF (c f : Str) (t o : TD) : TDS := fun E ρ M => t ρ M fun y M1 => o ρ M1 fun x M2 => match x with
  | .ref a => (match M2 a with
    | some (.ins c' fs) => c' = c ∧ fs.length < 1000 ∧ E.nx ρ (um M2 a (.ins c (putD f y fs)))
    | _ => False)
  | _ => False
theorem ds_setF {c f : Str} {o e : Expr} {t to : TD} {pos pos' : Pos} (hc : FldN X.K X.mg c f) (he : DE X B e t) (ho : DE X B o to) (hs : swapsWith e (some (.Attribute o f pos')) pos.line X.env = pure false := by rfl) :
    DS X B (.Assign [.Attribute o f pos'] e pos) (dSetF c f t to) := by
  refine PS.imp (ps_fld ho he hs) fun D σ H h => ?_
  obtain ⟨C0, ρ, M, E, kb, hh, le, h⟩ := h
  have hh0 := hh.base kb
  refine ⟨ρ, M, _, hh0, h, fun y M1 v H1 h1 k1 m1 r1 => ?_⟩
  refine ⟨ρ, M1, _, hh0.step k1 m1, h1, fun x M2 v2 H2 h2 k2 m2 r2 => ?_⟩
  split at h2
  · rename_i a
    unfold RepV at r2
    subst r2
    split at h2
    · rename_i c' fs e2
      obtain ⟨rfl, hl, h2⟩ := h2
      obtain ⟨C, dx, gs, hcc, ha, hF⟩ := m2 a _ e2
      obtain ⟨C', hc', cl, na⟩ := hc
      rw [hcc] at hc'
      cases hc'
      refine ⟨a, C, dx, gs, rfl, ha, cl, na, by rw [repF_len hF]; exact hl, le.nx _ _ _ _ ?_ h2⟩
      have kw : Keep M2 H2 (um M2 a (.ins c' (putD f y fs))) (upd H2 a (.ins C dx (putF f v gs))) := Keep.write e2
      have r1' := RepV.keep (k2.trans kw) y v r1
      exact ((hh.step k1 m1).step k2 m2).step kw (m2.write e2 ⟨C, dx, _, hcc, by rw [upd_same], (hF.keep kw).put r1'⟩)
    · exact h2.elim
  · exact h2.elim
theorem Cy.in1 {A : Around} {k : Nat} (c : Cy A (k + 1)) : Cy A.in1 k := ⟨c.room.in1, c.gd⟩
theorem make_guards {A : Around} {C : Addr} {us : List Value} {kw : List (Str × Value)} (h : A.guards = some []) : (A.under (.builtin "type.__call__" ⟨.ref C :: us, kw⟩)).guards = some [] := by
  simp [Around.under, Code.guards, Code.isGuard, guardIds, pushGuards, h]
theorem Cy.make {A : Around} {k : Nat} (c : Cy A (k + 1)) (C : Addr) (us : List Value) (kw : List (Str × Value)) : Cy (A.under (.builtin "type.__call__" ⟨.ref C :: us, kw⟩)) k := ⟨c.room.make C us kw, make_guards c.gd⟩
/-! ### properties -/
/-- the class c has the property f, whose getter keeps sp -/
def GProp (P : Program) (w : World) (K : PySem.W.Frag) (mg : Str → Option Value) (base : Heap) (k : Nat) (c f : Str) (sp : DSp) : Prop :=
  ∃ C p g fd, mg c = some (.ref C) ∧ Cls K C ∧ PropOf K C f p g ∧ DFn P w K mg base k g fd ["self"] sp ∧ Binds K fd ["self"] []
/-- whether it is an instance of just the class -/
def isOf (M : Mp) (c : Str) : D → Prop
  | .inst c' _ _ => c' = c
  | .ref a => match M a with
    | some (.ins c' _) => c' = c
    | _ => False
  | _ => False
/-! ### C(..) -/
/-- the class c is made by the def __init__ that keeps sp -/
def GMk (P : Program) (w : World) (K : PySem.W.Frag) (mg : Str → Option Value) (base : Heap) (k : Nat) (c : Str) (ps : List Str) (sp : DSp) : Prop :=
  ∃ C f fd, mg c = some (.ref C) ∧ Mk K C f ∧ DFn P w K mg base k f fd ps sp ∧ Binds K fd ps []
def mkQ (c : Str) (x : Addr) (Q : DK) : DK := fun r M2 => match r with
  | .non => (match M2 x with
    | some (.ins c' fs) => c' = c ∧ Q (.inst c (fs.map (·.1)) (fs.map (·.2))) (dm M2 x)
    | _ => False)
  | _ => False
def mkQM (x : Addr) (Q : DK) : DK := fun r M2 => match r with
  | .non => Q (.ref x) M2
  | _ => False
/-- the instance as it is behind __init__, settled -/
def dMake (c : Str) (sp : DSp) (W : DW') (t : TDs) : TD := fun ρ M Q => t ρ M fun ds M1 => ∀ x, M1 x = none → sp (.ref x :: ds) (um M1 x (.ins c [])) (mkQ c x Q) fun e M2 => W e ρ M2
theorem run_make {k : Nat} {c : Str} {ps : List Str} {sp : DSp} {W : DW'} {C f : Addr} {fd : FuncData} {pins : List (Addr × Obj)} {σ : L2.St} {H : Hp} {s : Shared} {M : Mp} {ρ : Rho} {us : List Value} {vs : List V} {ds : List D} {R : Addr → DK} {Q : VK}
    (hm : X.mg c = some (.ref C)) (Y : Mk X.K C f) (F : DFn X.prog X.w X.K X.mg X.base k f fd ps sp) (cy : Cy X.A (k + 1)) (tk : DTk X B W) (hb : Binds X.K fd ps []) (I : Inv X pins σ H s) (hh : Here X B ρ σ M H) (r : Vals vs us) (rs : RepVs X.K X.mg M H ds vs)
    (h : ∀ x, M x = none → sp (.ref x :: ds) (um M x (.ins c [])) (R x) fun e M2 => W e ρ M2)
    (q : ∀ x d M' H', M x = none → R x d M' → Keep M H M' H' → RepM X.K X.mg M' H' → d = .non ∧ Q (.ref x) H') :
    wpAny (model X.prog X.w) X.A (call (.ref C) us) (EP X pins σ Q) X.xe s := by
  have n1 : H (s.heap.objs.size + 1) = none := I.hok.fresh (Nat.le_succ _)
  have n0 : H s.heap.objs.size = none := I.hok.fresh (Nat.le_refl _)
  have ne : s.heap.objs.size ≠ s.heap.objs.size + 1 := Nat.ne_of_lt (Nat.lt_succ_self _)
  have n1' : upd H s.heap.objs.size (.own (s.heap.objs.size + 1)) (s.heap.objs.size + 1) = none := by rw [upd_ne (Ne.symm ne)]; exact n1
  have nM := hh.m.free n1
  have hq := h (s.heap.objs.size + 1) nM
  have k0 : Keep M H M (upd H s.heap.objs.size (.own (s.heap.objs.size + 1))) := Keep.new hh.m n0
  have m0 := hh.m.new (o := .own (s.heap.objs.size + 1)) n0
  have k1 : Keep M (upd H s.heap.objs.size (.own (s.heap.objs.size + 1))) (um M (s.heap.objs.size + 1) (.ins c [])) (upd (upd H s.heap.objs.size (.own (s.heap.objs.size + 1))) (s.heap.objs.size + 1) (.ins C s.heap.objs.size [])) := Keep.newM m0 n1'
  have m1 := m0.newM (o := .ins C s.heap.objs.size []) (u := .ins c []) n1' ⟨C, _, [], hm, (by rw [upd_same]), rfl, .nil⟩
  have kk := k0.trans k1
  have I2 := Inv.made (C := C) I
  have hl : (Value.ref (s.heap.objs.size + 1) :: us ++ []).length = ps.length := by
    rw [List.append_nil, ← F.len _ _ _ _ hq]
    show us.length + 1 = ds.length + 1
    rw [← r.length, ← rs.length]
  have hb' := hb _ (Value.ref (s.heap.objs.size + 1) :: us) I2.kIn hl
  rw [List.append_nil] at hb'
  refine wpAny_call (make_map (f := f) I.kIn Y.makes Y.init (beq_iff_eq.mp Y.fn) (codeAny_mono (F.run _ X.stack _ _ _ ⟨Value.ref (s.heap.objs.size + 1) :: us, []⟩ (Value.ref (s.heap.objs.size + 1) :: us) (.ref (s.heap.objs.size + 1) :: vs) (.ref (s.heap.objs.size + 1) :: ds) _ _ (cy.make C us [])
    (I2.env0.make C us []) hb' (.cons rfl r) m1 (.cons (by unfold RepV; rfl) (RepVs.keep kk _ _ rs)) hq) fun r s' hq' => ?_))
  cases r with
  | error e =>
    refine tk e s' (L2N.XE.of_call (W := lftX X B W) I2 (fun cls dd H' he => ?_) hq')
    obtain ⟨x, M', k', m', rx, _, e'⟩ := he
    exact ⟨ρ, M', x, (hh.step kk m1).step k' m', rx, e'⟩
  | ok fl =>
    cases fl with
    | ret u =>
      obtain ⟨v, H', I3, rv, d, M', k', m', rd, hR⟩ := I2.after hq'
      obtain ⟨ed, hQ⟩ := q _ d M' H' nM hR (kk.trans k') m'
      subst ed
      unfold RepV at rd
      subst rd
      exact ⟨rv, ⟨V.ref (s.heap.objs.size + 1), H', I3, rfl, hQ⟩⟩
    | next => exact False.elim hq'
    | brk => exact False.elim hq'
    | cont => exact False.elim hq'
theorem make_core {k : Nat} {c : Str} {ps : List Str} {sp : DSp} {W : DW'} {e : Expr} {es : List Expr} {t : TDs} {p pos : Pos} {F : Addr → DK → DK} {u : TD} (G : GMk X.prog X.w X.K X.mg X.base k c ps sp) (cy : Cy X.A (k + 1)) (tk : DTk X B W) (hg : Gl X c) (ha : DA X B (e :: es) t)
    (hF : ∀ (x : Addr) (R : DK) (Q : VK) (M : Mp) (H : Hp) (d : D) (M' : Mp) (H' : Hp), M x = none → F x R d M' → Keep M H M' H' → RepM X.K X.mg M' H' → Back X M H R Q → d = .non ∧ Q (.ref x) H')
    (hu : u = fun ρ M Q => t ρ M fun ds M1 => ∀ x, M1 x = none → sp (.ref x :: ds) (um M1 x (.ins c [])) (F x Q) fun e M2 => W e ρ M2)
    (hdb : (c == ("__debug__" : Str)) = false := by decide) (he : starEach (e :: es) X.env = (false, eval e X.env) :: starEach es X.env := by rfl) (hpl : (backTo pos (starEach es X.env)).any (·.1) = false := by rfl) :
    DE X B (.Call (.Name c p) (e :: es) [] pos) u := by
  subst hu
  obtain ⟨C, f, fd, hm, Y, F', hb⟩ := G
  constructor
  intro pins s σ H Q I h
  obtain ⟨ρ, M, R, hh, h, q⟩ := h
  refine wpAny_Call_Name_kw (ld_glob I hg hm ?_ hdb)
  refine PySem.W.callWith_K (h₀ := X.base) I.ok.mod.kin Y.kp (thn (ha.run pos pins s σ H (fun vs H1 => ∃ ds M1, Keep M H M1 H1 ∧ RepM X.K X.mg M1 H1 ∧ RepVs X.K X.mg M1 H1 ds vs ∧ ∀ x, M1 x = none → sp (.ref x :: ds) (um M1 x (.ins c [])) (F x R) fun e M2 => W e ρ M2) I
    ⟨ρ, M, _, hh, h, fun ds M1 vs H1 h1 k1 m1 r1 => ⟨ds, M1, k1, m1, r1, h1⟩⟩) fun us s1 hs => ?_) he hpl
  obtain ⟨vs, H1, I1, r, ds, M1, k1, m1, r1, h1⟩ := hs
  exact ⟨I1.kIn, run_make hm Y F' cy tk hb I1 (hh.step k1 m1) r r1 h1 fun x d M2 H2 n z k2 m2 => hF x R Q M1 H1 d M2 H2 n z k2 m2 fun d M3 v H3 a b c e => q d M3 v H3 a (k1.trans b) c e⟩
theorem de_make {k : Nat} {c : Str} {ps : List Str} {sp : DSp} {W : DW'} {e : Expr} {es : List Expr} {t : TDs} {p pos : Pos} (G : GMk X.prog X.w X.K X.mg X.base k c ps sp) (cy : Cy X.A (k + 1)) (tk : DTk X B W) (hg : Gl X c) (ha : DA X B (e :: es) t)
    (hdb : (c == ("__debug__" : Str)) = false := by decide) (he : starEach (e :: es) X.env = (false, eval e X.env) :: starEach es X.env := by rfl) (hpl : (backTo pos (starEach es X.env)).any (·.1) = false := by rfl) :
    DE X B (.Call (.Name c p) (e :: es) [] pos) (dMake c sp W t) := by
  refine make_core (F := mkQ c) G cy tk hg ha (fun x R Q M H d M' H' n z k m q => ?_) rfl hdb he hpl
  unfold mkQ at z
  split at z
  · split at z
    · rename_i c' fs e1
      obtain ⟨rfl, z⟩ := z
      refine ⟨rfl, ?_⟩
      obtain ⟨C, dx, gs, hc, ha, hF⟩ := m x _ e1
      have k' : Keep M H (dm M' x) H' := ⟨fun b o e t' n' => let ⟨y1, y2⟩ := k.k0 b o e t' n'; ⟨y1, by
        by_cases hb : b = x
        · subst hb; exact dm_same _ _
        · rw [dm_ne hb]; exact y2⟩⟩
      have l : MLe (dm M' x) M' := dm_le
      refine q _ _ _ _ z k' (m.less l) ?_
      unfold RepV
      exact ⟨x, C, dx, gs, rfl, dm_same _ _, hc, ha, hF.1, RepVs.keep (Keep.rfl'.less l) _ _ hF.2⟩
    · exact z.elim
  · exact z.elim
/-! ### isinstance(x, C) -/
end
end DL
/-! The D layer, part l: list comprehensions. -/
namespace DL
open PySem PySem.Spec L2
def wipeD (ρ : Rho) : List Nat → Rho
  | [] => ρ
  | v :: vs => (wipeD ρ vs).set v none
theorem RepS.clear {K : PySem.W.Frag} {mg : Str → Option Value} {M : Mp} {H : Hp} {ρ : Rho} {σ : L2.St} {i : Nat} (h : RepS K mg M H ρ σ) : RepS K mg M H (ρ.set i none) (σ.set i none) :=
  ⟨by simp [h.1], fun j e hj => by
    by_cases z : i = j
    · subst z
      by_cases hl : i < ρ.length
      · rw [List.getElem?_set_self hl] at hj; cases hj
      · rw [List.getElem?_eq_none (by simpa using hl)] at hj; cases hj
    · rw [List.getElem?_set_ne z] at hj
      obtain ⟨w, e1, r1⟩ := h.2 j e hj
      exact ⟨w, by rw [List.getElem?_set_ne z]; exact e1, r1⟩⟩
theorem wipe_rep {K : PySem.W.Frag} {mg : Str → Option Value} {M : Mp} {H : Hp} {ρ : Rho} {σ : L2.St} (h : RepS K mg M H ρ σ) : ∀ vs, RepS K mg M H (wipeD ρ vs) (wipe σ vs)
  | [] => h
  | v :: vs => by unfold wipeD wipe; exact (wipe_rep h vs).clear
theorem wipe_get (σ : L2.St) (vs : List Nat) (j : Nat) : (wipe σ vs)[j]? = if j ∈ vs then (σ[j]?).map (fun _ => none) else σ[j]? := by
  induction vs with
  | nil => simp [wipe]
  | cons v vs ih =>
    unfold wipe
    by_cases z : v = j
    · subst z
      rw [List.getElem?_set_self', ih]
      simp
      cases σ[v]? with
      | none => simp
      | some a => by_cases hv : v ∈ vs <;> simp [hv]
    · rw [List.getElem?_set_ne z, ih]
      have : ¬ j = v := fun e => z e.symm
      simp [this]
theorem wipe_set {σ : L2.St} {vs : List Nat} {i : Nat} {y : Option V} (hi : i ∈ vs) : wipe ((wipe σ vs).set i y) vs = wipe σ vs := by
  apply List.ext_getElem?
  intro j
  rw [wipe_get, wipe_get]
  by_cases hj : j ∈ vs
  · rw [if_pos hj, if_pos hj]
    by_cases z : i = j
    · subst z
      rw [List.getElem?_set_self', wipe_get, if_pos hj]
      cases σ[i]? <;> simp
    · rw [List.getElem?_set_ne z, wipe_get, if_pos hj]
      cases σ[j]? <;> simp
  · rw [if_neg hj, if_neg hj]
    have z : i ≠ j := fun e => hj (e ▸ hi)
    rw [List.getElem?_set_ne z, wipe_get, if_neg hj]
/-- the bare place -/
def At0 : At := ⟨fun _ => none, fun _ => none⟩
section
variable {X : Cx} {B : At}
def DTl (X : Cx) (B : At) (ifs : List Expr) (t : TDb) : Prop := PTs X ifs (lftT X B t)
def dYes : TDb := fun _ M Q => Q true M
theorem dtl_nil : DTl X B [] dYes := ⟨fun pins s σ H Q I h => by
  obtain ⟨ρ, M, R, hh, h, q⟩ := h
  exact (pts_nil (X := X)).run pins s σ H Q I (q true M H h .rfl' hh.m)⟩
theorem dtl_one {c : Expr} {t : TDb} (h : DT X B c t) : DTl X B [c] t := pts_one h
theorem PTs.imp {X : Cx} {e : List Expr} {t u : TT} (h : PTs X e t) (q : ∀ σ H Q, u σ H Q → t σ H Q) : PTs X e u := ⟨fun pins s σ H Q I z => h.run pins s σ H Q I (q _ _ _ z)⟩
def lcN (i : Nat) (tt : TDb) (te : TD) (p : Addr) (ρ0 : Rho) (Q : Mp → Prop) : List D → Mp → Prop
  | [], M => Q M
  | d :: ds, M => tt (ρ0.set i (some d)) M fun b M3 => (b = true → te (ρ0.set i (some d)) M3 fun y M4 => ∃ acc, M4 p = some (.lst acc) ∧ acc.length < sizeLine ∧ lcN i tt te p ρ0 Q ds (um M4 p (.lst (acc ++ [y])))) ∧ (b = false → lcN i tt te p ρ0 Q ds M3)
/-- [e for x in items if ..], settled; own: the slots of the block's own names, i: the target's -/
def dLC (own : List Nat) (i : Nat) (ti : TDI) (tt : TDb) (te : TD) : TD := fun ρ M Q => ti ρ M fun items M1 => ∀ p, M1 p = none → lcN i tt te p (wipeD ρ own) (fun M2 => ∃ acc, M2 p = some (.lst acc) ∧ Q (.lst acc) (dm M2 p)) items (um M1 p (.lst []))
theorem Keep.dm {M M' : Mp} {H H' : Hp} {x : Addr} (k : Keep M H M' H') : Keep M H (dm M' x) H' := ⟨fun b o e t' n' => let ⟨y1, y2⟩ := k.k0 b o e t' n'; ⟨y1, by
  by_cases hb : b = x
  · subst hb; exact dm_same _ _
  · rw [dm_ne hb]; exact y2⟩⟩
theorem lc_read {own : List Nat} {i : Nat} {ti : TDI} {tt : TDb} {te : TD} {ρ : Rho} {σ : L2.St} {M : Mp} {H : Hp} {Qf : Addr → Mp → Prop} {Q : VK} (hi : i ∈ own) (hh : Here X B ρ σ M H)
    (h : ti ρ M fun items M1 => ∀ p, M1 p = none → lcN i tt te p (wipeD ρ own) (Qf p) items (um M1 p (.lst [])))
    (q : ∀ p M' H', Qf p M' → Keep M H M' H' → RepM X.K X.mg M' H' → Q (.ref p) H') :
    tLc (lftI X B ti) (gName i) (lftT X At0 tt) (lft X At0 te) own σ H Q := by
  refine ⟨ρ, M, _, hh, h, fun items M1 J H1 h1 k1 m1 sv => ?_⟩
  intro D hD
  have hMD := m1.free hD
  have h2 := h1 D hMD
  have kN : Keep M1 H1 (um M1 D (.lst [])) (upd H1 D (.lst [])) := Keep.newM m1 hD
  have mN : RepM X.K X.mg (um M1 D (.lst [])) (upd H1 D (.lst [])) := m1.newM hD ⟨[], by rw [upd_same], .nil⟩
  refine ⟨fun j m H' => j ≤ items.length ∧ m = items.length - j ∧ ∃ M', Keep M1 H1 M' H' ∧ RepM X.K X.mg M' H' ∧ lcN i tt te D (wipeD ρ own) (Qf D) (items.drop j) M', ⟨_, Nat.zero_le _, rfl, _, kN, mN, by simpa using h2⟩, ?_⟩
  rintro j m H' ⟨hj, rfl, M', k', m', hl⟩
  obtain ⟨s1, s2⟩ := sv M' H' k' m' j
  rcases Nat.lt_or_ge j items.length with lt | ge
  · right
    rw [List.drop_eq_getElem_cons lt] at hl
    obtain ⟨go, s3⟩ := s2 items[j] (List.getElem?_eq_getElem lt)
    refine ⟨go, fun H'' => (j + 1 ≤ items.length ∧ ∃ M', Keep M1 H1 M' H'' ∧ RepM X.K X.mg M' H'' ∧ lcN i tt te D (wipeD ρ own) (Qf D) (items.drop (j + 1)) M'), fun H'' z => ⟨items.length - (j + 1), by omega, z.1, rfl, z.2⟩, fun x H2 hy => ?_⟩
    obtain ⟨k2, m2, r2⟩ := s3 x H2 hy
    refine ⟨wipe_set hi, ?_⟩
    have kk : Keep M H M' H2 := (k1.trans k').trans k2
    have st : RepS X.K X.mg M' H2 ((wipeD ρ own).set i (some items[j])) ((wipe σ own).set i (some x)) := (wipe_rep (hh.s.keep kk) own).set r2
    refine ⟨(wipeD ρ own).set i (some items[j]), M', _, ⟨st, m2, ⟨fun b o e _ _ => nomatch (show (none : Option HO) = some o from e)⟩⟩, hl, fun b M3 H3 hb k3 m3 => ?_⟩
    cases b with
    | true =>
      refine ⟨(wipeD ρ own).set i (some items[j]), M3, _, ⟨st.keep k3, m3, ⟨fun b o e _ _ => nomatch (show (none : Option HO) = some o from e)⟩⟩, hb.1 rfl, fun y M4 v H4 hy k4 m4 r4 => ?_⟩
      obtain ⟨acc, ea, la, hn⟩ := hy
      obtain ⟨vs, ha, rs⟩ := m4 D _ ea
      have kw : Keep M4 H4 (um M4 D (.lst (acc ++ [y]))) (upd H4 D (.lst (vs ++ [v]))) := Keep.write ea
      refine ⟨vs, ha, by rw [← rs.length]; exact la, lt, _, (((k'.trans k2).trans k3).trans k4).trans kw, m4.write ea ⟨_, by rw [upd_same], RepVs.keep kw _ _ (RepVs.append rs (.cons r4 .nil))⟩, hn⟩
    | false => exact ⟨lt, M3, (k'.trans k2).trans k3, m3, hb.2 rfl⟩
  · left
    have e : items.drop j = [] := List.drop_eq_nil_iff.mpr ge
    rw [e] at hl
    exact ⟨s1 ge, q D M' H' hl (k1.trans k') m'⟩
section
variable {s0 : Shared} {H0 : Hp} {scope : Scope} {ce : Env} {fp : List Addr} {ρ : Rho} {σ : L2.St} {M : Mp} {H : Hp}
theorem HereK.toBlk (h : Here X B ρ σ M H) : Here (X.blk s0 H0 scope ce fp) B ρ σ M H := ⟨h.s, h.m, h.k⟩
theorem lft_blk {t : TD} {Q : VK} (h : lft X B t σ H Q) : lft (X.blk s0 H0 scope ce fp) B t σ H Q := by
  obtain ⟨ρ, M, R, hh, h, q⟩ := h
  exact ⟨ρ, M, R, hh.toBlk, h, fun d M' v H' a b c e => q d M' v H' a b c e⟩
theorem lftT_blk {t : TDb} {Q : Bool → Hp → Prop} (h : lftT X B t σ H Q) : lftT (X.blk s0 H0 scope ce fp) B t σ H Q := by
  obtain ⟨ρ, M, R, hh, h, q⟩ := h
  exact ⟨ρ, M, R, hh.toBlk, h, fun d M' H' a b c => q d M' H' a b c⟩
end
section
variable {elt tg iter : Expr} {ifs : List Expr} {scope : Scope} {own : List (Str × Nat)} {pos : Pos} {ti : TDI} {tt : TDb} {te : TD} {i : Nat}
theorem lc_core' (hc : X.calm = true) (hN : X.N.Nodup) (hi : DI X B tg iter ti) (ok : BlkOk X.N X.env.scope scope own)
    (hg : ∀ (s : Shared) (H : Hp) (C : Addr) (cl : List (Str × Addr)) (fp : List Addr), PG (X.blk s H scope (compEnvC scope cl C X.env) fp) tg (gName i))
    (ht : ∀ (s : Shared) (H : Hp) (C : Addr) (cl : List (Str × Addr)) (fp : List Addr), DTl (X.blk s H scope (compEnvC scope cl C X.env) fp) At0 ifs tt)
    (he : ∀ (s : Shared) (H : Hp) (C : Addr) (cl : List (Str × Addr)) (fp : List Addr), DE (X.blk s H scope (compEnvC scope cl C X.env) fp) At0 elt te)
    (hs : ∀ x, foldedSetIterable iter X.env x = pure x) :
    PE X (.ListComp elt [⟨tg, iter, ifs, 0⟩] scope pos) (tLc (lftI X B ti) (gName i) (lftT X At0 tt) (lft X At0 te) (own.map (·.2))) :=
  pe_lc hc hN hi ok hg (fun s H C cl fp => PTs.imp (ht s H C cl fp) fun σ H Q h => lftT_blk h) (fun s H C cl fp => PE.imp (he s H C cl fp) fun σ H Q h => lft_blk h) hs
theorem de_lc (hc : X.calm = true) (hN : X.N.Nodup) (hi : DI X B tg iter ti) (ok : BlkOk X.N X.env.scope scope own) (hm : i ∈ own.map (·.2))
    (hg : ∀ (s : Shared) (H : Hp) (C : Addr) (cl : List (Str × Addr)) (fp : List Addr), PG (X.blk s H scope (compEnvC scope cl C X.env) fp) tg (gName i))
    (ht : ∀ (s : Shared) (H : Hp) (C : Addr) (cl : List (Str × Addr)) (fp : List Addr), DTl (X.blk s H scope (compEnvC scope cl C X.env) fp) At0 ifs tt)
    (he : ∀ (s : Shared) (H : Hp) (C : Addr) (cl : List (Str × Addr)) (fp : List Addr), DE (X.blk s H scope (compEnvC scope cl C X.env) fp) At0 elt te)
    (hs : ∀ x, foldedSetIterable iter X.env x = pure x := by intro _; rfl) : DE X B (.ListComp elt [⟨tg, iter, ifs, 0⟩] scope pos) (dLC (own.map (·.2)) i ti tt te) := by
  refine PE.imp (lc_core' hc hN hi ok hg ht he hs) fun σ H Q h => ?_
  obtain ⟨ρ, M, R, hh, h, q⟩ := h
  refine lc_read hm hh h fun p M' H' z k m => ?_
  obtain ⟨acc, ea, z⟩ := z
  obtain ⟨vs, ha, rs⟩ := m p _ ea
  refine q _ _ _ _ z k.dm (m.less dm_le) ?_
  unfold RepV
  exact ⟨p, vs, rfl, dm_same _ _, ha, RepVs.keep (Keep.rfl'.less dm_le) _ _ rs⟩
end
/-! ### what a comprehension makes -/
/-- the walk over the items: what is added by each, nothing else changes -/
theorem lc_by {i : Nat} {tt : TDb} {te : TD} {p : Addr} {ρ0 : Rho} {Q : Mp → Prop} {M : Mp} (f : D → Option D) : ∀ (items : List D) (acc : List D), acc.length + items.length ≤ sizeLine →
    (∀ d ∈ items, ∀ (xs : List D) (Kk : D → Mp → Prop) (N : Mp → Prop), (∀ y, f d = some y → Kk y (um M p (.lst xs))) → (f d = none → N (um M p (.lst xs))) →
      tt (ρ0.set i (some d)) (um M p (.lst xs)) fun b M3 => (b = true → te (ρ0.set i (some d)) M3 Kk) ∧ (b = false → N M3)) →
    Q (um M p (.lst (acc ++ items.filterMap f))) → lcN i tt te p ρ0 Q items (um M p (.lst acc))
  | [], acc, hz, h, q => by simpa [lcN] using q
  | d :: ds, acc, hz, h, q => by
    unfold lcN
    refine h d (List.mem_cons_self ..) acc _ _ (fun y e => ⟨acc, um_same _ _ _, by simp only [List.length_cons] at hz; omega, ?_⟩) fun e => ?_
    · rw [um_um]
      refine lc_by f ds (acc ++ [y]) (by simp only [List.length_cons, List.length_append, List.length_nil] at hz ⊢; omega) (fun d' m => h d' (List.mem_cons_of_mem _ m)) ?_
      simpa [e] using q
    · refine lc_by f ds acc (by simp only [List.length_cons] at hz; omega) (fun d' m => h d' (List.mem_cons_of_mem _ m)) ?_
      simpa [e] using q
end
end DL
/-! The D layer, part m: keywords, in, sorted, repr. -/
namespace DL
open PySem PySem.Spec L2
/-! ### keywords -/
/-- the places is of a list, in this order -/
def pick {α : Type} (is : List Nat) (xs : List α) : List α := is.filterMap fun i => xs[i]?
theorem RepVs.pick {K : PySem.W.Frag} {mg : Str → Option Value} {M : Mp} {H : Hp} {ds : List D} {vs : List V} (r : RepVs K mg M H ds vs) : ∀ is : List Nat, RepVs K mg M H (pick is ds) (pick is vs)
  | [] => .nil
  | i :: is => by
    have ih := RepVs.pick r is
    unfold DL.pick at ih ⊢
    cases e : ds[i]? with
    | none =>
      have e2 : vs[i]? = none := by
        rw [List.getElem?_eq_none_iff] at e ⊢
        rw [← r.length]; exact e
      rw [List.filterMap_cons_none e, List.filterMap_cons_none e2]
      exact ih
    | some d =>
      obtain ⟨v, e2, rv⟩ := r.get e
      rw [List.filterMap_cons_some e, List.filterMap_cons_some e2]
      exact .cons rv ih
theorem Vals.get' : ∀ {vs : List V} {us : List Value} {i : Nat} {v : V}, Vals vs us → vs[i]? = some v → ∃ u, us[i]? = some u ∧ RelV v u
  | _, _, _, _, .nil, e => by simp at e
  | _, _, 0, _, .cons r _, e => by simp at e; subst e; exact ⟨_, rfl, r⟩
  | _, _, i + 1, _, .cons _ rs, e => by simpa using Vals.get' rs (by simpa using e)
theorem Vals.pick {vs : List V} {us : List Value} (r : Vals vs us) : ∀ is : List Nat, Vals (pick is vs) (pick is us)
  | [] => .nil
  | i :: is => by
    have ih := Vals.pick r is
    unfold DL.pick at ih ⊢
    cases e : vs[i]? with
    | none =>
      have e2 : us[i]? = none := by
        rw [List.getElem?_eq_none_iff] at e ⊢
        rw [← r.length]; exact e
      rw [List.filterMap_cons_none e, List.filterMap_cons_none e2]
      exact ih
    | some d =>
      obtain ⟨v, e2, rv⟩ := Vals.get' r e
      rw [List.filterMap_cons_some e, List.filterMap_cons_some e2]
      exact .cons rv ih
/-- how keywords named ks behind n values bind: at the places is -/
def KwB (K : PySem.W.Frag) (fd : FuncData) (ps : List Str) (n : Nat) (ks : List Str) (is : List Nat) : Prop := ∀ (s : Shared) (us ws : List Value), us.length = n → ws.length = ks.length → BindsTo s fd ⟨us, ks.zip ws⟩ (ps.zip (pick is (us ++ ws)))
theorem FunD.kw {K : PySem.W.Frag} {x qual : Str} {params : Arguments} {body : List Stmt} {scope : Scope} {f : Addr} {fd : FuncData} {ps ks : List Str} {n : Nat} {is : List Nat} (F : FunD K x qual params body scope [] [] f fd)
    (h : ∀ (kV doc pm : Value) (an : Option Addr) (cdv ct : Value) (us ws : List Value), us.length = n → ws.length = ks.length → bindArgs (PySem.W.fnOf x qual params body scope .none kV doc pm an cdv ct) ⟨us, ks.zip ws⟩ = pure (ps.zip (pick is (us ++ ws)))) : KwB K fd ps n ks is := by
  obtain ⟨oc, od, dV, kV, doc, pm, an, cdv, ct, osl, rfl, lk, hcd, hD, hK⟩ := F.ex
  rcases hD with ⟨_, rfl⟩ | ⟨e, _⟩
  · intro s us ws h1 h2
    exact .of_eq (h kV doc pm an cdv ct us ws h1 h2)
  · exact absurd rfl e
def GFnK (P : Program) (w : World) (K : PySem.W.Frag) (mg : Str → Option Value) (base : Heap) (k : Nat) (x : Str) (n : Nat) (ks : List Str) (is : List Nat) (sp : DSp) : Prop :=
  ∃ f fd ps, DFn P w K mg base k f fd ps sp ∧ mg x = some (.ref f) ∧ PySem.W.keepIn K (.ref f) = true ∧ KwB K fd ps n ks is
section
variable {X : Cx} {B : At}
def DKw (X : Cx) (B : At) (kws : List Keyword) (t : TDs) : Prop := PK X kws (lftA X B t)
theorem PK.imp {X : Cx} {e : List Keyword} {t u : TA} (h : PK X e t) (q : ∀ σ H Q, u σ H Q → t σ H Q) : PK X e u := ⟨fun pos pins s σ H Q I z => h.run pos pins s σ H Q I (q _ _ _ z)⟩
theorem dk_nil : DKw X B [] dNil := PK.imp pk_nil fun σ H Q ⟨ρ, M, R, hh, h, q⟩ => q [] M [] H h .rfl' hh.m .nil
theorem dk_cons {nm : Option Str} {kpos : Pos} {e : Expr} {kws : List Keyword} {te : TD} {t : TDs} (ha : DE X B e te) (hr : DKw X B kws t) : DKw X B (⟨nm, e, kpos⟩ :: kws) (dCons te t) := by
  refine PK.imp (pk_cons ha hr) fun σ H Q h => ?_
  obtain ⟨ρ, M, R, hh, h, q⟩ := h
  refine ⟨ρ, M, _, hh, h, fun d M1 v H1 h1 k1 m1 r1 => ?_⟩
  refine ⟨ρ, M1, _, hh.step k1 m1, h1, fun ds M2 vs H2 h2 k2 m2 r2 => ?_⟩
  exact q (d :: ds) M2 (v :: vs) H2 h2 (k1.trans k2) m2 (.cons (RepV.keep k2 d v r1) r2)
theorem Vals.app {vs ws : List V} {us zs : List Value} (a : Vals vs us) (b : Vals ws zs) : Vals (vs ++ ws) (us ++ zs) := a.append b
/-! ### x in l -/
def gIn (neg : Bool) : DR2 := fun x y M Q => match asL M y with
  | some xs => ((rsv M x).pl 12 = true ∧ pls 11 xs = true) ∧ Q (.bl (if neg then !(xs.any fun z => D.eqv z (rsv M x)) else xs.any fun z => D.eqv z (rsv M x))) M
  | none => False
theorem rsv_asL {M : Mp} {y : D} {xs : List D} (h : asL M y = some xs) : rsv M y = .lst xs := by
  cases y with
  | lst ys => simp only [asL, Option.some.injEq] at h; subst h; rfl
  | ref a =>
    simp only [asL] at h
    simp only [rsv]
    split at h
    · rename_i ds e
      injection h with h
      subst h
      simp only [e]
    · cases h
  | _ => simp [asL] at h
theorem any_py (xs : List D) (d : PyData) : (pys xs).any (fun z => PyData.eqv z d) = xs.any fun z => PyData.eqv z.py d := by
  induction xs with
  | nil => simp [pys]
  | cons x xs ih => simp [pys, ih]
theorem opc_in : OpC X (rInD X.K) (gIn false) := by
  intro M H d1 d2 v1 v2 R Q m r1 r2 g q
  unfold gIn at g
  split at g
  · rename_i xs e
    obtain ⟨⟨p1, p2⟩, g⟩ := g
    have e2 := rsv_asL e
    have p3 : (rsv M d2).pl 12 = true := by rw [e2]; simpa [D.pl] using p2
    have h2 := rsv_dp m r2 p3
    have s2 := pl_shaped (by decide) p3
    rw [e2] at h2 s2
    refine ⟨_, pys xs, rsv_dp m r1 p1, h2, pl_shaped (by decide) p1, s2, ?_⟩
    rw [any_py]
    exact q _ _ _ _ g .rfl' m rBl
  · exact g.elim
theorem opc_notin : OpC X (rNotInD X.K) (gIn true) := by
  intro M H d1 d2 v1 v2 R Q m r1 r2 g q
  unfold gIn at g
  split at g
  · rename_i xs e
    obtain ⟨⟨p1, p2⟩, g⟩ := g
    have e2 := rsv_asL e
    have p3 : (rsv M d2).pl 12 = true := by rw [e2]; simpa [D.pl] using p2
    have h2 := rsv_dp m r2 p3
    have s2 := pl_shaped (by decide) p3
    rw [e2] at h2 s2
    refine ⟨_, pys xs, rsv_dp m r1 p1, h2, pl_shaped (by decide) p1, s2, ?_⟩
    rw [any_py]
    exact q _ _ _ _ g .rfl' m rBl
  · exact g.elim
/-! ### sorted(ints) -/
def gSorted : DCall := fun ds M Q => match ds with
  | [d] => (match asI M d with
    | some ns => ∀ ns' : List Int, ns'.Perm ns → ns'.Pairwise (· ≤ ·) → Q (.lst (ns'.map .int)) M
    | none => False)
  | _ => False
theorem c_sorted : CallD X (.builtin "sorted") gSorted := by
  refine ⟨_, cr_sortedI, ?_⟩
  intro M H ds vs R Q m r g q
  unfold gSorted at g
  split at g
  · obtain ⟨v, rfl, r0⟩ := r.one
    have r := r0
    split at g
    · rename_i ns e
      obtain ⟨a, rfl, h⟩ := asI_at e m r
      refine ⟨a, ns, rfl, h, fun ns' p hp hs n => ?_⟩
      refine Back.new q m (g ns' hp hs) n ?_
      unfold RepV
      exact ⟨p, _, rfl, m.free n, upd_same, RepVs.ints ns'⟩
    · exact g.elim
  · exact g.elim
/-! ### repr(x), x a list or a tuple -/
end
end DL
/-! The D layer, part n: enumerate over lists and tuples. -/
namespace DL
open PySem PySem.Spec L2 PyProof.Rows
/-- the tuple at a, each item in a new pair -/
def ItT (K : PySem.W.Frag) (a : Addr) : It :=
  ⟨fun i H => ∃ (xs : List V) (x : V), SqT K H a xs ∧ xs[i]? = some x, fun i H v H' => ∃ T x, v = .ref T ∧ H T = none ∧ H' = upd H T (.tup [.int (i : Nat), x]) ∧ ∀ xs, SqT K H a xs → xs[i]? = some x, fun i H => ∃ xs : List V, SqT K H a xs ∧ xs.length ≤ i⟩
theorem turn_enumT {P : Program} {w : World} {K : PySem.W.Frag} {elts : List Expr} {kk : Nat} {tpos : Pos} (a e it : Addr) :
    Turn P w K (.Tuple elts kk tpos) (ItT K a) [e, it] e (fun i h => (∃ old, IsEnum h e it ((i : Nat) : Int) old) ∧ h.IsTupleIter it a i ∧ e ≠ it) where
  mem := by simp
  obj := fun i h st b hb => by
    obtain ⟨⟨old, he⟩, ⟨o, ho, hc, hd⟩, _⟩ := st
    have e' : b = e ∨ b = it := by simpa using hb
    rcases e' with z | z
    · rw [z]; exact ⟨_, he, fun v q => nomatch q⟩
    · rw [z]; exact ⟨o, ho, fun v q => by rw [hd] at q; cases q⟩
  keep := fun i h h' st k => let ⟨⟨old, he⟩, hi, hne⟩ := st; ⟨⟨old, k e (by simp) _ he⟩, hi.at fun o q => k it (by simp) o q, hne⟩
  item := by
    intro X hP hw hK hc i pins s σ H E I hf st hg
    subst hP hw hK
    obtain ⟨⟨old, he⟩, hit, hne⟩ := st
    obtain ⟨xs, x, hq, hx⟩ := hg
    obtain ⟨its, rv, p, hz⟩ := I.tuple hq
    obtain ⟨u, hu, ru⟩ := rv.get hx
    have hel : e < s.heap.objs.size := Heap.lt_size he
    have pT : s.heap.IsTuple a its.toArray := p
    obtain ⟨o1, ho1, hc1, hd1⟩ := id hit
    obtain ⟨o2, ho2, hc2, _⟩ := id pT
    have hil : it < s.heap.objs.size := Heap.lt_size ho1
    have nai : a ≠ it := fun z => by subst z; rw [ho1] at ho2; cases ho2; rw [hc1] at hc2; simp at hc2
    have nea : e ≠ a := fun z => by subst z; have he' := he; unfold IsEnum at he'; rw [ho2] at he'; cases he'; simp at hc2
    have hil2 : i < its.toArray.size := by
      have := List.getElem?_eq_some_iff.mp hu
      simpa using this.1
    refine wpAny_pyNext_enum_itemD (Draws.tuple (show X.A.in1.handled = none from I.ok.hd hc) it a nai its.toArray) he ⟨hit, pT⟩ hil2 hne (by simp [hne, nea]) fun y h' tk hy ho hit' hT hsz hk => ?_
    have ey : y = u := by
      have h1 : its.toArray[i]? = some u := by simpa using hu
      rw [h1] at hy
      exact (Option.some.inj hy).symm
    subst ey
    refine ⟨_, rfl, wpAny_letOwnedTupleGo_enum (s := { s with heap := h', toks := tk + 1 }) ho fun h'' he' sb => ?_⟩
    have hT2 : h''.get? s.heap.objs.size = some { cls := .type "tuple", data := .seq #[.int i tk, y] } := (sb.2 _ (Nat.ne_of_gt hel)).trans hT
    have new : ObjOk X.prog X.w (upd H s.heap.objs.size (.tup [.int (i : Nat), x])) h'' s.heap.objs.size (.tup [.int (i : Nat), x]) :=
      ⟨by show 2 ≤ sizeLine; decide, [.int i tk, y], .cons ⟨_, rfl⟩ (.cons ru .nil), ⟨_, hT2, rfl, _, rfl⟩⟩
    have I1 : Inv X pins σ (upd H s.heap.objs.size (.tup [.int (i : Nat), x])) { s with heap := h'', toks := tk + 1 } :=
      I.turnedNew (ch := [e, it]) (fun b ob hb q => (sb.2 b (fun z => hb (by simp [z]))).trans (hk b ob (fun z => hb (by simp [z])) (fun z => hb (by simp [z])) q)) hf (Nat.le_refl _) new
    refine ⟨.ref s.heap.objs.size, _, I1, rfl, ⟨_, x, rfl, I.hok.fresh (Nat.le_refl _), rfl, fun ys hy => by rw [I.tuple_inj hy hq]; exact hx⟩, ⟨⟨y, ?_⟩, hit'.1.at fun o q => (sb.2 it (Ne.symm hne)).trans q, hne⟩, fun b hb => ?_⟩
    · have e1 : ((i + 1 : Nat) : Int) = (i : Int) + 1 := by omega
      rw [e1]; exact he'
    · have hb' : b < s.heap.objs.size := by
        have e' : b = e ∨ b = it := by simpa using hb
        rcases e' with z | z
        · rw [z]; exact hel
        · rw [z]; exact hil
      rw [upd_ne (Nat.ne_of_lt hb')]
      exact (hf b hb).1
  done := by
    intro X hP hw hK hc i pins s σ H E I hf st hg
    subst hP hw hK
    obtain ⟨⟨old, he⟩, hit, hne⟩ := st
    obtain ⟨xs, hq, hx⟩ := hg
    obtain ⟨its, rv, p, hz⟩ := I.tuple hq
    obtain ⟨f0, f1, f2, f3, f4, f5⟩ := hf it (by simp)
    have hl := rv.length
    have pT : s.heap.IsTuple a its.toArray := p
    obtain ⟨o1, ho1, hc1, hd1⟩ := id hit
    obtain ⟨o2, ho2, hc2, _⟩ := id pT
    have nai : a ≠ it := fun z => by subst z; rw [ho1] at ho2; cases ho2; rw [hc1] at hc2; simp at hc2
    have D : Draws X.prog X.w X.A.in1 it [it, a] i (fun _ _ => True) (fun j h => (h.IsTupleIter it a j ∧ h.IsTuple a its.toArray) ∧ j = i) :=
      { live := fun _ _ st => let ⟨o, ho, _⟩ := st.1.1; ⟨o, ho⟩
        frame := fun _ _ _ st hk => ⟨⟨st.1.1.at fun o e => hk it (by simp) o e, st.1.2.at fun o e => hk a (by simp) o e⟩, st.2⟩
        item := fun j s Q E hj st hQ => absurd st.2 (Nat.ne_of_lt hj)
        done := fun s Q E st hE => PySem.wpAny_nextOf_tuple_end (show X.A.in1.handled = none from I.ok.hd hc) st.1.1 st.1.2 (by simp; omega) hE }
    exact wpAny_pyNext_enum_endD D he ⟨⟨hit, pT⟩, rfl⟩ fun h' eb => ⟨rfl, I.turned (t' := s.toks) (fun b o hb q => eb b o hb q) f0 f1 f3 f4 f5⟩
  self := fun A i s Q E st h => let ⟨⟨_, he⟩, _⟩ := st; wpAny_pyIter_enum he h

set_option maxHeartbeats 1000000 in
theorem meets_enum1 {v : Value} {o : Obj} {Y : Heap → Prop} (Z : Begins v o Y) :
    Meets (Builtin.«enumerate.__new__» ⟨[.type "enumerate", v], []⟩) (fun _ R s => Y s.heap ∧
      R (.ok (.ret (.ref (s.heap.push o).objs.size))) { s with heap := (s.heap.push o).push { cls := .type "enumerate", data := .fields #[.none, .bool false, .ref s.heap.objs.size, rawInt 0, .none, .none] } }) :=
  .of_wp fun prog w A R s h => by
    obtain ⟨hp, gn, dd, tk, sy⟩ := s
    obtain ⟨y1, h⟩ := h
    have hsub := sub_enumerate
    have z1 : ∀ {A' : Around} {E : Value → Shared → Prop} {Q : Value → Shared → Prop}, Q (.ref hp.objs.size) ⟨hp.push o, gn, dd, tk, sy⟩ → wpAny (model prog w) A' (pyIter v) Q E ⟨hp, gn, dd, tk, sy⟩ :=
      fun z => Z.iter prog w _ _ ⟨hp, gn, dd, tk, sy⟩ _ y1 z
    wp_walk using z1
    refine wpAny_stack_any fun st => wpAny_pure ?_
    split
    · rename_i c _ _ _ _ _
      cases (c == Value.type "enumerate")
      · wp_walk using z1
        exact ⟨_, rfl, h⟩
      · wp_walk using z1
        exact ⟨_, rfl, h⟩
    · wp_walk using z1
      exact ⟨_, rfl, h⟩
theorem call_enum1 {P : Program} {w : World} {A : Around} {E : Value → Shared → Prop} {s : Shared} {v : Value} {o : Obj} {Y : Heap → Prop} {Q : Value → Shared → Prop} (Z : Begins v o Y) (y : Y s.heap)
    (h : ∀ h', IsEnum h' (s.heap.objs.size + 1) s.heap.objs.size 0 .none → h'.get? s.heap.objs.size = some o → (∀ b u, s.heap.get? b = some u → h'.get? b = some u) → Q (.ref (s.heap.objs.size + 1)) { s with heap := h' }) :
    wpAny (model P w) A (call (.type "enumerate") [v]) Q E s := by
  refine callType_new F.called_enumerate (by decide) (F.typeCall_enumerate_1 _) (F.newCall_enumerate_1 _) (fun ob => F.args_object_init_2 ob _) F.entry_enumerate_new (meets_enum1 Z) ⟨y, ?_⟩
  have sz : (s.heap.push o).objs.size = s.heap.objs.size + 1 := Heap.size_push ..
  show _ ∧ _
  rw [sz]
  have en : IsEnum ((s.heap.push o).push { cls := .type "enumerate", data := .fields #[.none, .bool false, .ref s.heap.objs.size, rawInt 0, .none, .none] }) (s.heap.objs.size + 1) s.heap.objs.size 0 .none := by
    have e := Heap.get?_push_size (s.heap.push o) (o := { cls := .type "enumerate", data := .fields #[.none, .bool false, .ref s.heap.objs.size, rawInt 0, .none, .none] }) rfl
    rw [sz] at e
    exact e
  exact ⟨⟨_, en, rfl⟩, h _ en (Heap.get?_push_of_some _ (Heap.get?_push_size _ Z.free)) fun b u x => Heap.get?_push_of_some _ (Heap.get?_push_of_some _ x)⟩
/-! ### the rule: over a list (settled or not) or a tuple -/
def iEn (K : PySem.W.Frag) (ta : TA) : TI := fun σ H R => ta σ H fun vs H1 => ∃ a xs, vs = [.ref a] ∧ ((SqL K H1 a xs ∧ R (Ite K a) H1) ∨ (SqT K H1 a xs ∧ R (ItT K a) H1))
section
variable {X : Cx} {B : At}
theorem pi_enumA {e : Expr} {ta : TA} {p pos tpos : Pos} {elts : List Expr} {kk : Nat} (hg : Gl X "enumerate") (hm : X.mg "enumerate" = none) (ha : PA X [e] ta) (hs : starEach [e] X.env = [(false, eval e X.env)] := by rfl) :
    PI X (.Tuple elts kk tpos) (.Call (.Name "enumerate" p) [e] [] pos) (iEn X.K ta) := by
  refine ⟨fun pins s σ H R I h => ?_⟩
  refine Call_ (ld_blt I hg hm boot_enumerate (PyProof.Rows.callWith_type1 (thn (ha.run pos pins s σ H _ I h) fun us s1 ⟨vs, H1, I1, r1, q1⟩ => ?_) hs rfl))
  obtain ⟨a, xs, ex, q⟩ := q1
  subst ex
  cases r1 with
  | cons r rr =>
    cases rr
    cases r
    have fpo : ∀ {h' : Heap}, (∀ b u, s1.heap.get? b = some u → h'.get? b = some u) → ∀ b ∈ [s1.heap.objs.size + 1, s1.heap.objs.size], FpOk X pins H1 b := by
      intro h' hk b hb
      have e' : b = s1.heap.objs.size + 1 ∨ b = s1.heap.objs.size := by simpa using hb
      have hle : s1.heap.objs.size ≤ b := by
        rcases e' with z | z
        · rw [z]; exact Nat.le_add_right _ _
        · rw [z]; exact Nat.le_refl _
      exact I1.fpOk hle (I1.hok.fresh hle)
    rcases q with ⟨hq, q⟩ | ⟨hq, q⟩
    · obtain ⟨its, rv, p', hz⟩ := I1.list hq
      refine call_enumerate_list p'.isList fun h' he hit hsz hk => wpAny_pyIter_enum he ?_
      have I2 : Inv X pins σ H1 { s1 with heap := h' } := I1.kept (t' := s1.toks) hk
      exact ⟨s1.heap.objs.size + 1, [s1.heap.objs.size + 1, s1.heap.objs.size], _, _, H1, rfl, I2, turn_enum a (s1.heap.objs.size + 1) s1.heap.objs.size, ⟨⟨.none, he⟩, hit, Nat.succ_ne_self _⟩, fpo hk, q⟩
    · obtain ⟨its, rv, p', hz⟩ := I1.tuple hq
      have pT : s1.heap.IsTuple a its.toArray := p'
      refine call_enum1 (begins_tuple a its.toArray) pT fun h' he hit hk => wpAny_pyIter_enum he ?_
      have I2 : Inv X pins σ H1 { s1 with heap := h' } := I1.kept (t' := s1.toks) hk
      exact ⟨s1.heap.objs.size + 1, [s1.heap.objs.size + 1, s1.heap.objs.size], _, _, H1, rfl, I2, turn_enumT a (s1.heap.objs.size + 1) s1.heap.objs.size, ⟨⟨.none, he⟩, ⟨_, hit, rfl, rfl⟩, Nat.succ_ne_self _⟩, fpo hk, q⟩
/-- for i, x in enumerate(l) -/
def enD : Nat → List D → List D
  | _, [] => []
  | i, d :: ds => .tup [.int (i : Nat), d] :: enD (i + 1) ds
theorem enD_get : ∀ (ds : List D) (k i : Nat) (d : D), (enD k ds)[i]? = some d → ∃ x, ds[i]? = some x ∧ d = .tup [.int ((k + i : Nat) : Int), x]
  | [], k, i, d, h => by simp [enD] at h
  | x :: xs, k, 0, d, h => by simp [enD] at h; exact ⟨x, by simp, by simp [← h]⟩
  | x :: xs, k, i + 1, d, h => by
    unfold enD at h
    obtain ⟨y, h1, h2⟩ := enD_get xs (k + 1) i d (by simpa using h)
    exact ⟨y, by simpa using h1, by rw [h2]; congr 3; omega⟩
theorem enD_len : ∀ (ds : List D) (k : Nat), (enD k ds).length = ds.length
  | [], _ => rfl
  | x :: xs, k => by simp [enD, enD_len xs]
def dEnum (t : TDs) : TDI := fun ρ M Q => t ρ M fun ds M1 => match ds with
  | [d] => (match itemsOf M1 d with
    | some xs => Q (enD 0 xs) M1
    | none => False)
  | _ => False
theorem pair_rep {M : Mp} {H : Hp} {i : Nat} {d : D} {x : V} {T : Addr} (m : RepM X.K X.mg M H) (n : H T = none) (r : RepV X.K X.mg M H d x) :
    Keep M H M (upd H T (.tup [.int (i : Nat), x])) ∧ RepM X.K X.mg M (upd H T (.tup [.int (i : Nat), x])) ∧ RepV X.K X.mg M (upd H T (.tup [.int (i : Nat), x])) (.tup [.int ((0 + i : Nat) : Int), d]) (.ref T) := by
  have k : Keep M H M (upd H T (.tup [.int (i : Nat), x])) := Keep.new m n
  refine ⟨k, m.new n, ?_⟩
  have e0 : ((0 + i : Nat) : Int) = (i : Int) := by simp
  rw [e0]
  unfold RepV
  exact ⟨T, _, rfl, m.free n, .inl (by rw [upd_same]), .cons (by unfold RepV; rfl) (.cons (RepV.keep k _ _ r) .nil)⟩
theorem serves_EL {xs : List D} {vs : List V} {a : Addr} {M : Mp} {H : Hp} (h : ∀ M' H', Keep M H M' H' → SqL X.K H' a vs ∧ RepVs X.K X.mg M' H' xs vs) : Serves X (enD 0 xs) (Ite X.K a) M H := fun M' H' k m i => by
  obtain ⟨h1, h2⟩ := h M' H' k
  refine ⟨fun hl => ⟨vs, h1, by rw [← h2.length, ← enD_len xs 0]; exact hl⟩, fun d e => ?_⟩
  obtain ⟨y, e0, rfl⟩ := enD_get xs 0 i d e
  obtain ⟨v, e1, r⟩ := h2.get e0
  refine ⟨⟨vs, v, h1, e1⟩, fun x H2 z => ?_⟩
  obtain ⟨T, x', rfl, n, rfl, z⟩ := z
  have z := z vs h1
  rw [e1] at z
  cases z
  exact pair_rep m n r
theorem serves_ET {xs : List D} {vs : List V} {a : Addr} {M : Mp} {H : Hp} (h : ∀ M' H', Keep M H M' H' → SqT X.K H' a vs ∧ RepVs X.K X.mg M' H' xs vs) : Serves X (enD 0 xs) (ItT X.K a) M H := fun M' H' k m i => by
  obtain ⟨h1, h2⟩ := h M' H' k
  refine ⟨fun hl => ⟨vs, h1, by rw [← h2.length, ← enD_len xs 0]; exact hl⟩, fun d e => ?_⟩
  obtain ⟨y, e0, rfl⟩ := enD_get xs 0 i d e
  obtain ⟨v, e1, r⟩ := h2.get e0
  refine ⟨⟨vs, v, h1, e1⟩, fun x H2 z => ?_⟩
  obtain ⟨T, x', rfl, n, rfl, z⟩ := z
  have z := z vs h1
  rw [e1] at z
  cases z
  exact pair_rep m n r
theorem di_enum {e : Expr} {t : TDs} {p pos tpos : Pos} {elts : List Expr} {kk : Nat} (hg : Gl X "enumerate") (hm : X.mg "enumerate" = none) (ha : DA X B [e] t) (hs : starEach [e] X.env = [(false, eval e X.env)] := by rfl) :
    DI X B (.Tuple elts kk tpos) (.Call (.Name "enumerate" p) [e] [] pos) (dEnum t) := by
  refine PI.imp (pi_enumA hg hm ha hs) fun σ H T h => ?_
  obtain ⟨ρ, M, R, hh, h, q⟩ := h
  refine ⟨ρ, M, _, hh, h, fun ds M1 vs H1 h1 k1 m1 r1 => ?_⟩
  split at h1
  · rename_i d
    obtain ⟨v, rfl, r0⟩ := r1.one
    cases d with
    | tup xs =>
      have h1 : R (enD 0 xs) M1 := h1
      have r := r0
      unfold RepV at r
      obtain ⟨a, ws, rfl, na, ha, ra⟩ := r
      exact ⟨a, ws, rfl, .inr ⟨TupH.sq ha, q _ _ _ _ h1 k1 m1 (serves_ET (vs := ws) fun M' H' k => ⟨TupH.sq (ha.keep k na).1, RepVs.keep k _ _ ra⟩)⟩⟩
    | ltp xs =>
      have h1 : R (enD 0 xs) M1 := h1
      have r := r0
      unfold RepV at r
      obtain ⟨a, ws, rfl, na, ha, ra⟩ := r
      exact ⟨a, ws, rfl, .inr ⟨SqT.of ha, q _ _ _ _ h1 k1 m1 (serves_ET (vs := ws) fun M' H' k => ⟨SqT.of (k.k _ _ ha na).1, RepVs.keep k _ _ ra⟩)⟩⟩
    | ptp xs =>
      have h1 : R (enD 0 xs) M1 := h1
      have r := r0
      unfold RepV at r
      obtain ⟨a, ws, o, rfl, na, ha, hd, ra⟩ := r
      exact ⟨a, ws, rfl, .inr ⟨SqT.frz ha, q _ _ _ _ h1 k1 m1 (serves_ET (vs := ws) fun M' H' k => ⟨SqT.frz (k.k _ _ ha na).1, RepVs.keep k _ _ ra⟩)⟩⟩
    | lst xs =>
      have h1 : R (enD 0 xs) M1 := h1
      have r := r0
      unfold RepV at r
      obtain ⟨a, ws, rfl, na, ha, ra⟩ := r
      exact ⟨a, ws, rfl, .inl ⟨SqL.of ha, q _ _ _ _ h1 k1 m1 (serves_EL (vs := ws) fun M' H' k => ⟨SqL.of (k.k _ _ ha na).1, RepVs.keep k _ _ ra⟩)⟩⟩
    | scr ns =>
      have h1 : R (enD 0 (ns.map D.int)) M1 := h1
      obtain ⟨a, rfl, ha⟩ := scr_at r0
      refine ⟨a, _, rfl, .inl ⟨ha, q _ _ _ _ h1 k1 m1 (serves_EL (vs := ns.map V.int) fun M' H' k => ⟨?_, RepVs.ints ns⟩)⟩⟩
      obtain ⟨b, e, hb⟩ := scr_at (RepV.keep k _ _ r0)
      cases e
      exact hb
    | _ => exact h1.elim
  · exact h1.elim
end
end DL
/-! The D layer, part o: name = [..]; words for the generator. -/
namespace DL
open PySem PySem.Spec L2
section
variable {X : Cx} {B : At}
theorem ds_setLc {iy : Nat} {y : Str} {py : Pos} {elt tg iter : Expr} {ifs : List Expr} {scope : Scope} {own : List (Str × Nat)} {pos spos : Pos} {ti : TDI} {tt : TDb} {te : TD} {i : Nat} (hc : X.calm = true) (hN : X.N.Nodup) (hy : X.N[iy]? = some y)
    (hyl : X.env.scope.names.lookup y = some .local) (hsw : swapsWith (.ListComp elt [⟨tg, iter, ifs, 0⟩] scope pos) (some (.Name y py)) spos.line X.env = pure true) (hi : DI X B tg iter ti) (ok : BlkOk X.N X.env.scope scope own) (hm : i ∈ own.map (·.2))
    (hg : ∀ (s : Shared) (H : Hp) (C : Addr) (cl : List (Str × Addr)) (fp : List Addr), PG (X.blk s H scope (compEnvC scope cl C X.env) fp) tg (gName i))
    (ht : ∀ (s : Shared) (H : Hp) (C : Addr) (cl : List (Str × Addr)) (fp : List Addr), DTl (X.blk s H scope (compEnvC scope cl C X.env) fp) At0 ifs tt)
    (he : ∀ (s : Shared) (H : Hp) (C : Addr) (cl : List (Str × Addr)) (fp : List Addr), DE (X.blk s H scope (compEnvC scope cl C X.env) fp) At0 elt te)
    (hs : ∀ x, foldedSetIterable iter X.env x = pure x := by intro _; rfl) : DS X B (.Assign [.Name y py] (.ListComp elt [⟨tg, iter, ifs, 0⟩] scope pos) spos) (dAsg (dLC (own.map (·.2)) i ti tt te) (dgName iy)) := by
  refine PS.imp (ps_setLc (g := gName i) (tt := lftT X At0 tt) (te := lft X At0 te) hc hN hy hyl hsw hi ok hg (fun s H C cl fp => PTs.imp (ht s H C cl fp) fun σ H Q h => lftT_blk h) (fun s H C cl fp => PE.imp (he s H C cl fp) fun σ H Q h => lft_blk h) hs) fun D σ H h => ?_
  obtain ⟨C0, ρ, M, E, kb, hh, le, h⟩ := h
  refine lc_read (Q := fun x H1 => gName iy x σ H1 D.nx) hm (hh.base kb) h fun p M' H' z k m => ?_
  obtain ⟨acc, ea, z⟩ := z
  obtain ⟨vs, ha, rs⟩ := m p _ ea
  refine le.nx _ _ _ _ ((hh.step k.dm (m.less dm_le)).set ?_) z
  unfold RepV
  exact ⟨p, vs, rfl, dm_same _ _, ha, RepVs.keep (Keep.rfl'.less dm_le) _ _ rs⟩
end
section
variable {P : Program} {w : World} {K : PySem.W.Frag} {mg : Str → Option Value} {base : Heap}
theorem GProp.mono {j k : Nat} {c f : Str} {sp : DSp} (G : GProp P w K mg base j c f sp) (h : j ≤ k) : GProp P w K mg base k c f sp := let ⟨C, p, g, fd, a, b, d, F, e⟩ := G; ⟨C, p, g, fd, a, b, d, F.mono h, e⟩
theorem GMk.mono {j k : Nat} {c : Str} {ps : List Str} {sp : DSp} (G : GMk P w K mg base j c ps sp) (h : j ≤ k) : GMk P w K mg base k c ps sp := let ⟨C, f, fd, a, b, F, e⟩ := G; ⟨C, f, fd, a, b, F.mono h, e⟩
theorem GFnK.mono {j k : Nat} {x : Str} {n : Nat} {ks : List Str} {is : List Nat} {sp : DSp} (G : GFnK P w K mg base j x n ks is sp) (h : j ≤ k) : GFnK P w K mg base k x n ks is sp := let ⟨f, fd, ps, F, e⟩ := G; ⟨f, fd, ps, F.mono h, e⟩
/-- nothing is promised: where a recursion ends -/
theorem DFn.bot {k : Nat} {f : Addr} {fd : FuncData} {ps : List Str} : DFn P w K mg base k f fd ps (fun _ _ _ _ => False) := ⟨fun _ _ _ _ h => h.elim, fun _ _ _ _ _ _ _ _ _ _ _ _ _ _ _ _ _ h => h.elim⟩
theorem Cy.le {A : Around} {j k : Nat} (c : Cy A k) (h : j ≤ k := by decide) : Cy A j := c.mono h
end
theorem fld_n {K : PySem.W.Frag} {mg : Str → Option Value} {h : Heap} {c f : Str} (X : K.In h) (G : h.Ns mainGlobals mg) (g : (Fx.fa (.glo c)).ok K = true) (i : (Fx.ins c).ok K = true) (n : (Fx.fa (.noat c f)).ok K = true) : FldN K mg c f := ⟨_, He.glo_ok X G (fa_ok g), (ins_ok i).cl, He.noat_ok (fa_ok n)⟩
theorem mk_g {P : Program} {w : World} {K : PySem.W.Frag} {mg : Str → Option Value} {base h : Heap} {k : Nat} {c : Str} {ps : List Str} {sp : DSp} {fd : FuncData} (X : K.In h) (G : h.Ns mainGlobals mg) (g : (Fx.fa (.glo c)).ok K = true) (i : (Fx.fa (.mkr c)).ok K = true)
    (F : DFn P w K mg base k (He.ma K (He.ga K c) "__init__") fd ps sp) (b : Binds K fd ps []) : GMk P w K mg base k c ps sp := ⟨_, _, fd, He.glo_ok X G (fa_ok g), He.mkr_ok (fa_ok i), F, b⟩
theorem cls_g {K : PySem.W.Frag} {mg : Str → Option Value} {h : Heap} {c : Str} (X : K.In h) (G : h.Ns mainGlobals mg) (g : (Fx.fa (.glo c)).ok K = true) : ∃ C, mg c = some (.ref C) := ⟨_, He.glo_ok X G (fa_ok g)⟩
end DL
/-! The D layer, part p: methods, C(k = v). -/
namespace DL
open PySem PySem.Spec L2
/-- the class c has the method m, a def that keeps sp -/
def GMeth (P : Program) (w : World) (K : PySem.W.Frag) (mg : Str → Option Value) (base : Heap) (k : Nat) (c m : Str) (ps : List Str) (sp : DSp) : Prop :=
  ∃ C f fd, mg c = some (.ref C) ∧ Cls K C ∧ Meth K C m f ∧ DFn P w K mg base k f fd ps sp ∧ Binds K fd ps []
theorem GMeth.mono {P : Program} {w : World} {K : PySem.W.Frag} {mg : Str → Option Value} {base : Heap} {j k : Nat} {c m : Str} {ps : List Str} {sp : DSp} (G : GMeth P w K mg base j c m ps sp) (h : j ≤ k) : GMeth P w K mg base k c m ps sp :=
  let ⟨C, f, fd, a, b, d, F, e⟩ := G; ⟨C, f, fd, a, b, d, F.mono h, e⟩
/-- an instance of the class that has no attribute of the name -/
def canM (M : Mp) (c m : Str) : D → Prop
  | .inst c' fn _ => c' = c ∧ m ∉ fn
  | .ref a => match M a with
    | some (.ins c' fs) => c' = c ∧ fs.lookup m = none
    | _ => False
  | _ => False
theorem lookup_notin {m : Str} : ∀ {gs : List (Str × V)}, m ∉ gs.map (·.1) → gs.lookup m = none
  | [], _ => rfl
  | (g, v) :: gs, h => by
    rw [List.map_cons, List.mem_cons, not_or] at h
    rw [List.lookup_cons, show (m == g) = false from beq_false_of_ne h.1]
    exact lookup_notin h.2
theorem lookup_none_in {m : Str} : ∀ {fs : List (Str × D)}, fs.lookup m = none → m ∉ fs.map (·.1)
  | [], _ => by simp
  | (g, v) :: fs, h => by
    rw [List.lookup_cons] at h
    cases q : m == g with
    | true => rw [q] at h; cases h
    | false =>
      rw [q] at h
      rw [List.map_cons, List.mem_cons, not_or]
      exact ⟨fun z => by subst z; simp at q, lookup_none_in h⟩
theorem canM_rep {K : PySem.W.Frag} {mg : Str → Option Value} {M : Mp} {H : Hp} (mm : RepM K mg M H) {c m : Str} {d : D} {v : V} (r : RepV K mg M H d v) (l : canM M c m d) :
    ∃ a C dx fs, v = .ref a ∧ H a = some (.ins C dx fs) ∧ mg c = some (.ref C) ∧ fs.lookup m = none := by
  unfold canM at l
  split at l
  · obtain ⟨rfl, l⟩ := l
    unfold RepV at r
    obtain ⟨a, C, dx, fs, rfl, n, hc, ha, hf, rs⟩ := r
    exact ⟨a, C, dx, fs, rfl, ha, hc, lookup_notin (by rw [hf]; exact l)⟩
  · rename_i a
    unfold RepV at r
    subst r
    split at l
    · rename_i c' fs e
      obtain ⟨rfl, l⟩ := l
      obtain ⟨C, dx, gs, hc, ha, hF⟩ := mm a _ e
      exact ⟨a, C, dx, gs, rfl, ha, hc, lookup_notin (by rw [hF.1]; exact lookup_none_in l)⟩
    · exact l.elim
  · exact l.elim
section
variable {X : Cx} {B : At}
end
theorem meth_g {P : Program} {w : World} {K : PySem.W.Frag} {mg : Str → Option Value} {base h : Heap} {k : Nat} {c m : Str} {ps : List Str} {sp : DSp} {fd : FuncData} (X : K.In h) (G : h.Ns mainGlobals mg) (g : (Fx.fa (.glo c)).ok K = true) (i : (Fx.ins c).ok K = true) (y : (Fx.fa (.meth c m)).ok K = true)
    (F : DFn P w K mg base k (He.ma K (He.ga K c) m) fd ps sp) (b : Binds K fd ps []) : GMeth P w K mg base k c m ps sp := ⟨_, _, fd, He.glo_ok X G (fa_ok g), (ins_ok i).cl, He.meth_ok (fa_ok y), F, b⟩
/-! ### C(k = v, ..) -/
def GMkK (P : Program) (w : World) (K : PySem.W.Frag) (mg : Str → Option Value) (base : Heap) (k : Nat) (c : Str) (n : Nat) (ks : List Str) (is : List Nat) (sp : DSp) : Prop :=
  ∃ C f fd ps, mg c = some (.ref C) ∧ Mk K C f ∧ DFn P w K mg base k f fd ps sp ∧ KwB K fd ps (n + 1) ks is
theorem GMkK.mono {P : Program} {w : World} {K : PySem.W.Frag} {mg : Str → Option Value} {base : Heap} {j k : Nat} {c : Str} {n : Nat} {ks : List Str} {is : List Nat} {sp : DSp} (G : GMkK P w K mg base j c n ks is sp) (h : j ≤ k) : GMkK P w K mg base k c n ks is sp :=
  let ⟨C, f, fd, ps, a, b, F, e⟩ := G; ⟨C, f, fd, ps, a, b, F.mono h, e⟩
section
variable {X : Cx} {B : At}
end
end DL
/-! The D layer, part q: texts of data fit; loops and comprehensions over mapped lists. -/
namespace DL
open PySem PySem.Spec L2
mutual
/-- ints of less than B - 1 digits, plain texts of short codes -/
def D.fit (B : Nat) : D → Prop
  | .non => True
  | .bl _ => True
  | .int i => i.natAbs < 10 ^ (B - 1)
  | .str s => PyData.canLay0 (.str s) = true ∧ ∀ c ∈ s.cps.toList, c < 16 ^ 8
  | .tup xs => fits B xs
  | .lst xs => fits B xs
  | .scr _ => False
  | .inst _ _ _ => False
  | .ref _ => False
  | .cls _ => False
  | .ty _ => False
  | .dct => False
  | .ptp _ => False
  | .ltp _ => False
  | .dcs _ _ => False
  | .dts _ _ => False
  | .exc _ _ _ => False
def fits (B : Nat) : List D → Prop
  | [] => True
  | x :: xs => x.fit B ∧ fits B xs
end
mutual
def D.sz (B : Nat) : D → Nat
  | .int _ => B
  | .str s => 10 * s.cps.size + 2
  | .tup xs => szs B xs + 3
  | .lst xs => szs B xs + 3
  | _ => 5
def szs (B : Nat) : List D → Nat
  | [] => 0
  | x :: xs => x.sz B + 2 + szs B xs
end
mutual
def D.dp : D → Nat
  | .tup xs => dps xs + 1
  | .lst xs => dps xs + 1
  | _ => 0
def dps : List D → Nat
  | [] => 0
  | x :: xs => max x.dp (dps xs)
end
theorem pys_length : ∀ xs : List D, (pys xs).length = xs.length
  | [] => rfl
  | x :: xs => by simp [pys, pys_length xs]
theorem shownAll_len (xs : List PyData) : (PyData.shownAll xs).length = xs.length := PyData.shownAll_length xs
mutual
theorem D.sz_le (B : Nat) (hB : 2 ≤ B) : ∀ d : D, d.fit B → d.py.shown.length ≤ d.sz B
  | .non, _ => by show 4 ≤ 5; decide
  | .bl b, _ => by cases b <;> (simp only [D.py, D.sz]; decide)
  | .int i, h => by
    have h' : i.natAbs < 10 ^ (B - 1) := by simpa only [D.fit] using h
    have e := PySem.int_text_length_le10 (a := i) (k := B - 1) (by omega) h'
    show (PySem.Str.ofString (toString i)).length ≤ B
    rw [PySem.ofString_length]
    omega
  | .str x, h => by
    have h' : PyData.canLay0 (.str x) = true ∧ ∀ c ∈ x.cps.toList, c < 16 ^ 8 := by simpa only [D.fit] using h
    have e := StrLaws.reprText_len x h'.2
    have e2 : x.length = x.cps.size := rfl
    simp only [D.py, PyData.shown, D.sz]
    omega
  | .lst xs, h => by
    have h1 := szs_le B hB xs (by simpa only [D.fit] using h)
    have h2 := listText_len_le (PyData.shownAll (pys xs))
    simp only [D.py, PyData.shown, D.sz]
    rw [shownAll_len, pys_length] at h2
    omega
  | .tup xs, h => by
    have h1 := szs_le B hB xs (by simpa only [D.fit] using h)
    have h2 := tupleText_len_le (PyData.shownAll (pys xs))
    simp only [D.py, PyData.shown, D.sz]
    rw [shownAll_len, pys_length] at h2
    omega
  | .scr _, h => by unfold D.fit at h; exact h.elim
  | .inst _ _ _, h => by unfold D.fit at h; exact h.elim
  | .ref _, h => by unfold D.fit at h; exact h.elim
  | .cls _, h => by unfold D.fit at h; exact h.elim
  | .ty _, h => by unfold D.fit at h; exact h.elim
  | .dct, h => by unfold D.fit at h; exact h.elim
  | .ptp _, h => by unfold D.fit at h; exact h.elim
  | .ltp _, h => by unfold D.fit at h; exact h.elim
  | .dcs _ _, h => by unfold D.fit at h; exact h.elim
  | .dts _ _, h => by unfold D.fit at h; exact h.elim
  | .exc _ _ _, h => by unfold D.fit at h; exact h.elim
theorem szs_le (B : Nat) (hB : 2 ≤ B) : ∀ xs : List D, fits B xs → ((PyData.shownAll (pys xs)).map (·.length)).sum + 2 * xs.length ≤ szs B xs
  | [], _ => by simp [pys, PyData.shownAll, szs]
  | x :: xs, h => by
    have h' : x.fit B ∧ fits B xs := by simpa only [fits] using h
    have h1 := D.sz_le B hB x h'.1
    have h2 := szs_le B hB xs h'.2
    simp only [pys, PyData.shownAll, List.map_cons, List.sum_cons, List.length_cons, szs]
    omega
end
mutual
theorem D.fit_show (B : Nat) (hB : B ≤ 570) : ∀ d : D, d.fit B → d.py.showable = true
  | .non, _ => rfl
  | .bl b, _ => rfl
  | .int i, h => by
    have h' : i.natAbs < 10 ^ (B - 1) := by simpa only [D.fit] using h
    simp only [D.py, PyData.showable, decide_eq_true_eq]
    by_cases z : i.natAbs = 0
    · rw [z]; decide
    · refine (Nat.log2_lt (n := i.natAbs) (k := 1920) z).mpr (Nat.lt_of_lt_of_le h' ?_)
      refine Nat.le_trans (Nat.pow_le_pow_right (by decide) (show B - 1 ≤ 569 by omega)) ?_
      exact show (10 : Nat) ^ 569 ≤ 2 ^ 1920 by decide +kernel
  | .str x, h => rfl
  | .lst xs, h => by simp only [D.py, PyData.showable]; exact fits_show B hB xs (by simpa only [D.fit] using h)
  | .tup xs, h => by simp only [D.py, PyData.showable]; exact fits_show B hB xs (by simpa only [D.fit] using h)
  | .scr _, h => by unfold D.fit at h; exact h.elim
  | .inst _ _ _, h => by unfold D.fit at h; exact h.elim
  | .ref _, h => by unfold D.fit at h; exact h.elim
  | .cls _, h => by unfold D.fit at h; exact h.elim
  | .ty _, h => by unfold D.fit at h; exact h.elim
  | .dct, h => by unfold D.fit at h; exact h.elim
  | .ptp _, h => by unfold D.fit at h; exact h.elim
  | .ltp _, h => by unfold D.fit at h; exact h.elim
  | .dcs _ _, h => by unfold D.fit at h; exact h.elim
  | .dts _ _, h => by unfold D.fit at h; exact h.elim
  | .exc _ _ _, h => by unfold D.fit at h; exact h.elim
theorem fits_show (B : Nat) (hB : B ≤ 570) : ∀ xs : List D, fits B xs → PyData.showableAll (pys xs) = true
  | [], _ => rfl
  | x :: xs, h => by
    have h' : x.fit B ∧ fits B xs := by simpa only [fits] using h
    simp only [pys, PyData.showableAll, Bool.and_eq_true]
    exact ⟨D.fit_show B hB x h'.1, fits_show B hB xs h'.2⟩
end
mutual
theorem D.fit_pl (B : Nat) : ∀ (d : D) (n : Nat), d.fit B → d.dp ≤ n → d.pl n = true
  | .non, n, _, _ => by cases n <;> rfl
  | .bl b, n, _, _ => by cases n <;> rfl
  | .int i, n, _, _ => by cases n <;> rfl
  | .str x, n, h, _ => by
    have h' : PyData.canLay0 (.str x) = true ∧ ∀ c ∈ x.cps.toList, c < 16 ^ 8 := by simpa only [D.fit] using h
    cases n <;> exact h'.1
  | .lst xs, n, h, k => by
    simp only [D.dp] at k
    obtain ⟨n, rfl⟩ : ∃ m, n = m + 1 := ⟨n - 1, by omega⟩
    exact fits_pl B xs n (by simpa only [D.fit] using h) (by omega)
  | .tup xs, n, h, k => by
    simp only [D.dp] at k
    obtain ⟨n, rfl⟩ : ∃ m, n = m + 1 := ⟨n - 1, by omega⟩
    exact fits_pl B xs n (by simpa only [D.fit] using h) (by omega)
  | .scr _, _, h, _ => by unfold D.fit at h; exact h.elim
  | .inst _ _ _, _, h, _ => by unfold D.fit at h; exact h.elim
  | .ref _, _, h, _ => by unfold D.fit at h; exact h.elim
  | .cls _, _, h, _ => by unfold D.fit at h; exact h.elim
  | .ty _, _, h, _ => by unfold D.fit at h; exact h.elim
  | .dct, _, h, _ => by unfold D.fit at h; exact h.elim
  | .ptp _, _, h, _ => by unfold D.fit at h; exact h.elim
  | .ltp _, _, h, _ => by unfold D.fit at h; exact h.elim
  | .dcs _ _, _, h, _ => by unfold D.fit at h; exact h.elim
  | .dts _ _, _, h, _ => by unfold D.fit at h; exact h.elim
  | .exc _ _ _, _, h, _ => by unfold D.fit at h; exact h.elim
theorem fits_pl (B : Nat) : ∀ (xs : List D) (n : Nat), fits B xs → dps xs ≤ n → pls n xs = true
  | [], n, _, _ => by simp [pls]
  | x :: xs, n, h, k => by
    have h' : x.fit B ∧ fits B xs := by simpa only [fits] using h
    simp only [dps] at k
    simp only [pls, Bool.and_eq_true]
    exact ⟨D.fit_pl B x n h'.1 (by omega), fits_pl B xs n h'.2 (by omega)⟩
end
theorem fits_map {α : Type} (B : Nat) (f : α → D) : ∀ L : List α, (∀ x ∈ L, (f x).fit B) → fits B (L.map f)
  | [], _ => by simp [fits]
  | x :: L, h => by
    simp only [List.map_cons, fits]
    exact ⟨h x (List.mem_cons_self ..), fits_map B f L fun y hy => h y (List.mem_cons_of_mem _ hy)⟩
theorem fits_ints (B : Nat) (L : List Int) (h : ∀ x ∈ L, x.natAbs < 10 ^ (B - 1)) : fits B (L.map .int) := fits_map B .int L fun x hx => by simpa only [D.fit] using h x hx
/-! ### a for over a mapped list -/
/-- a comprehension over a mapped list -/
theorem lc_map {α β : Type} {f : α → D} {h : β → D} {L : List α} {i : Nat} {tt : TDb} {te : TD} {ρ0 : Rho} {R : Addr → List D → Mp → Prop} {M : Mp} (k : α → Option β) (hz : L.length ≤ sizeLine)
    (st : ∀ p, M p = none → ∀ x ∈ L, ∀ (xs : List D) (Kk : D → Mp → Prop) (N : Mp → Prop), (∀ y, k x = some y → Kk (h y) (um M p (.lst xs))) → (k x = none → N (um M p (.lst xs))) →
      tt (ρ0.set i (some (f x))) (um M p (.lst xs)) fun b M3 => (b = true → te (ρ0.set i (some (f x))) M3 Kk) ∧ (b = false → N M3))
    (q : ∀ p, M p = none → R p ((L.filterMap k).map h) (um M p (.lst ((L.filterMap k).map h)))) : ∀ p, M p = none → lcN i tt te p ρ0 (fun M2 => ∃ acc, M2 p = some (.lst acc) ∧ R p acc M2) (L.map f) (um M p (.lst [])) := by
  intro p hp
  have key : ∀ (L' : List α) (acc : List D), (∀ x ∈ L', x ∈ L) → acc.length + L'.length ≤ sizeLine → (∃ acc', um M p (.lst (acc ++ (L'.filterMap k).map h)) p = some (.lst acc') ∧ R p acc' (um M p (.lst (acc ++ (L'.filterMap k).map h)))) →
      lcN i tt te p ρ0 (fun M2 => ∃ acc, M2 p = some (.lst acc) ∧ R p acc M2) (L'.map f) (um M p (.lst acc)) := by
    intro L'
    induction L' with
    | nil => intro acc _ _ q; simpa [lcN] using q
    | cons x L' ih =>
      intro acc hm hl q
      simp only [List.length_cons] at hl
      simp only [List.map_cons, lcN]
      refine st p hp x (hm x (List.mem_cons_self ..)) acc _ _ (fun y e => ⟨acc, um_same _ _ _, by omega, ?_⟩) fun e => ?_
      · rw [um_um]
        refine ih (acc ++ [h y]) (fun z hz => hm z (List.mem_cons_of_mem _ hz)) (by simp only [List.length_append, List.length_cons, List.length_nil]; omega) ?_
        simpa [e] using q
      · exact ih acc (fun z hz => hm z (List.mem_cons_of_mem _ hz)) (by omega) (by simpa [e] using q)
  exact key L [] (fun x hx => hx) (by simpa using hz) ⟨_, um_same _ _ _, by simpa using q p hp⟩
/-- .. that takes all -/
theorem lc_mapA {α β : Type} {f : α → D} {h : β → D} {L : List α} {i : Nat} {te : TD} {ρ0 : Rho} {R : Addr → List D → Mp → Prop} {M : Mp} (k : α → β) (hz : L.length ≤ sizeLine)
    (st : ∀ p, M p = none → ∀ x ∈ L, ∀ (xs : List D) (Kk : D → Mp → Prop), Kk (h (k x)) (um M p (.lst xs)) → te (ρ0.set i (some (f x))) (um M p (.lst xs)) Kk)
    (q : ∀ p, M p = none → R p ((L.map k).map h) (um M p (.lst ((L.map k).map h)))) : ∀ p, M p = none → lcN i dYes te p ρ0 (fun M2 => ∃ acc, M2 p = some (.lst acc) ∧ R p acc M2) (L.map f) (um M p (.lst [])) := by
  refine lc_map (h := h) (fun x => some (k x)) hz (fun p hp x hx xs Kk N h1 h2 => ?_) (by rw [List.filterMap_eq_map']; exact q)
  unfold dYes
  exact ⟨fun _ => st p hp x hx xs Kk (h1 _ rfl), fun z => absurd z (by decide)⟩
end DL
/-! The D layer, part r: min, max of a list; a list so many times. -/
namespace DL
open PySem PySem.Spec L2
section
variable {X : Cx} {B : At}
/-- a * b: ints; a list so many times -/
def gMul : DR2 := fun x y M Q => match x, y with
  | .int i, .int j => mulOk i j ∧ Q (.int (i * j)) M
  | x, .int k => match asL M x with
    | some xs => ((-(2 ^ 63) ≤ k ∧ k < 2 ^ 63) ∧ xs.length * k.toNat ≤ sizeLine) ∧ Q (.lst (List.replicate k.toNat xs).flatten) M
    | none => False
  | _, _ => False
theorem RepVs.rep {K : PySem.W.Frag} {mg : Str → Option Value} {M : Mp} {H : Hp} {ds : List D} {vs : List V} (r : RepVs K mg M H ds vs) : ∀ n : Nat, RepVs K mg M H (List.replicate n ds).flatten (List.replicate n vs).flatten
  | 0 => .nil
  | n + 1 => by
    simp only [List.replicate_succ, List.flatten_cons]
    exact r.append (RepVs.rep r n)
theorem de_mulL {a b : Expr} {ta tb : TD} {pos : Pos} (ha : DE X B a ta) (hb : DE X B b tb) : DE X B (.BinOp a .Mult b pos) (dOp gMul ta tb) := by
  refine de_op (op_mul.or (op_mulW.or op_rep)) ?_ ha hb
  intro M H d1 d2 v1 v2 R Q m r1 r2 g q
  unfold gMul at g
  split at g
  · rename_i i j
    unfold RepV at r1 r2
    rcases g.1 with c | c
    · exact .inl ⟨i, j, r1, r2, c, q _ _ _ _ g.2 .rfl' m rInt⟩
    · exact .inr (.inl ⟨i, j, r1, r2, c, q _ _ _ _ g.2 .rfl' m rInt⟩)
  · rename_i k _
    split at g
    · rename_i xs e
      obtain ⟨a, vs, rfl, h, rs⟩ := asL_at e m r1
      unfold RepV at r2
      obtain ⟨⟨⟨g1, g2⟩, g3⟩, g⟩ := g
      refine .inr (.inr ⟨a, k, vs, rfl, r2, h, g1, g2, by rw [← rs.length]; exact g3, fun p n => ?_⟩)
      refine Back.new q m g n ?_
      unfold RepV
      exact ⟨p, _, rfl, m.free n, upd_same, RepVs.new m n (rs.rep _)⟩
    · exact g.elim
  · exact g.elim
end
end DL
/-! The D layer, part s: walks of any kind (lists that may still change, texts, zip), comprehensions of any form. -/
namespace DL
open PySem PySem.Spec L2 RZ
/-- what is walked: its items, what must stay so meanwhile -/
abbrev TDJ := Rho → Mp → (List D → (Mp → Prop) → Mp → Prop) → Prop
section
variable (X : Cx) (B : At)
def ServesG (items : List D) (G : Mp → Prop) (J : It) (M : Mp) (H : Hp) : Prop :=
  ∀ M' H', Keep M H M' H' → RepM X.K X.mg M' H' → G M' → ∀ i : Nat, (items.length ≤ i → J.stop i H') ∧
    ∀ d, items[i]? = some d → J.go i H' ∧ ∀ x H2, J.yld i H' x H2 → Keep M' H' M' H2 ∧ RepM X.K X.mg M' H2 ∧ RepV X.K X.mg M' H2 d x
def lftJ (t : TDJ) : TI := fun σ H R => ∃ ρ M T, Here X B ρ σ M H ∧ t ρ M T ∧ ∀ items G M' J H', T items G M' → Keep M H M' H' → RepM X.K X.mg M' H' → ServesG X items G J M' H' → R J H'
def DJ (tg e : Expr) (t : TDJ) : Prop := PI X tg e (lftJ X B t)
end
section
variable {X : Cx} {B : At}
/-! ### what can be walked -/
def chrD (c : Nat) : D := .str ⟨#[c]⟩
/-- its kind (list, tuple, text), its items, what must stay so -/
def seqJ (M : Mp) : D → Option (Nat × List D × (Mp → Prop))
  | .tup xs => some (1, xs, fun _ => True)
  | .lst xs => some (0, xs, fun _ => True)
  | .scr ns => some (0, ns.map D.int, fun _ => True)
  | .ptp xs => some (1, xs, fun _ => True)
  | .ltp xs => some (1, xs, fun _ => True)
  | .str z => some (2, z.cps.toList.map chrD, fun _ => True)
  | .ref a => match M a with
    | some (.lst xs) => some (0, xs, fun M' => M' a = some (.lst xs))
    | _ => none
  | _ => none
/-- the object that is walked, a list (0) or a tuple (1), as it stands at any later time -/
def SqK (K : PySem.W.Frag) (k : Nat) (H : Hp) (a : Addr) (vs : List V) : Prop := if k = 0 then SqL K H a vs else SqT K H a vs
theorem seqJ_at {M : Mp} {H : Hp} {d : D} {v : V} {k : Nat} {xs : List D} {G : Mp → Prop} (e : seqJ M d = some (k, xs, G)) (hk : k ≠ 2) (m : RepM X.K X.mg M H) (r : RepV X.K X.mg M H d v) :
    ∃ a, v = .ref a ∧ G M ∧ ∀ M' H', Keep M H M' H' → RepM X.K X.mg M' H' → G M' → ∃ vs, SqK X.K k H' a vs ∧ RepVs X.K X.mg M' H' xs vs := by
  cases d with
  | tup ys =>
    unfold seqJ at e
    cases e
    unfold RepV at r
    obtain ⟨a, vs, rfl, na, ha, ra⟩ := r
    exact ⟨a, rfl, True.intro, fun M' H' k m' _ => ⟨vs, TupH.sq (ha.keep k na).1, RepVs.keep k _ _ ra⟩⟩
  | lst ys =>
    unfold seqJ at e
    cases e
    unfold RepV at r
    obtain ⟨a, vs, rfl, na, ha, ra⟩ := r
    exact ⟨a, rfl, True.intro, fun M' H' k m' _ => ⟨vs, SqL.of (k.k _ _ ha na).1, RepVs.keep k _ _ ra⟩⟩
  | ltp ys =>
    unfold seqJ at e
    cases e
    unfold RepV at r
    obtain ⟨a, vs, rfl, na, ha, ra⟩ := r
    exact ⟨a, rfl, True.intro, fun M' H' k m' _ => ⟨vs, SqT.of (k.k _ _ ha na).1, RepVs.keep k _ _ ra⟩⟩
  | ptp ys =>
    unfold seqJ at e
    cases e
    unfold RepV at r
    obtain ⟨a, vs, o, rfl, na, ha, hd, ra⟩ := r
    exact ⟨a, rfl, True.intro, fun M' H' k m' _ => ⟨vs, SqT.frz (k.k _ _ ha na).1, RepVs.keep k _ _ ra⟩⟩
  | scr ns =>
    unfold seqJ at e
    cases e
    obtain ⟨a, rfl, ha⟩ := scr_at r
    refine ⟨a, rfl, True.intro, fun M' H' k m' _ => ⟨ns.map V.int, ?_, RepVs.ints ns⟩⟩
    obtain ⟨b, e, hb⟩ := scr_at (RepV.keep k _ _ r)
    cases e
    exact hb
  | str z => unfold seqJ at e; cases e; exact absurd rfl hk
  | ref a =>
    simp only [seqJ] at e
    split at e
    · rename_i ys ha
      cases e
      unfold RepV at r
      refine ⟨a, r, ha, fun M' H' k m' g => ?_⟩
      obtain ⟨vs, h1, h2⟩ := m' a _ g
      exact ⟨vs, SqL.of h1, h2⟩
    · cases e
  | _ => unfold seqJ at e; cases e
/-- walking a list, a tuple, a text, by what it is -/
theorem pi_any {tg l : Expr} {tl : TE} (hl : PE X l tl) : PI X tg l fun σ H R => tl σ H fun x H1 => (∃ a, x = .ref a ∧ (((∃ xs, SqL X.K H1 a xs) ∧ R (Itl X.K a) H1) ∨ ((∃ xs, SqT X.K H1 a xs) ∧ R (Itt X.K a) H1))) ∨ ∃ z, x = .str z ∧ R (Its z) H1 := by
  constructor
  intro pins s σ H R I h
  refine thn (hl.run pins s σ H _ I h) ?_
  rintro v s1 ⟨x, H1, I1, r1, q⟩
  rcases q with ⟨a, e, q⟩ | ⟨z, e, q⟩
  · subst e
    cases r1
    have fp : ∀ b ∈ [s1.heap.objs.size], FpOk X pins H1 b := fun b hb => by
      obtain rfl : b = s1.heap.objs.size := by simpa using hb
      exact I1.fpOk (Nat.le_refl _) (I1.hok.fresh (Nat.le_refl _))
    rcases q with ⟨⟨xs, hq⟩, q⟩ | ⟨⟨xs, hq⟩, q⟩
    · obtain ⟨its, rv, p, _⟩ := I1.list hq
      exact wpAny_pyIter_list p.isList ⟨_, [s1.heap.objs.size], _, _, H1, rfl, I1.kept (t' := s1.toks) fun _ _ e => Heap.get?_push_of_some _ e, turn_list a _, ⟨_, Heap.get?_push_size _ rfl, rfl, rfl⟩, fp, q⟩
    · obtain ⟨its, rv, p, _⟩ := I1.tuple hq
      exact wpAny_pyIter_tuple (show s1.heap.IsTuple a its.toArray from p) ⟨_, [s1.heap.objs.size], _, _, H1, rfl, I1.kept (t' := s1.toks) fun _ _ e => Heap.get?_push_of_some _ e, turn_tuple a _, ⟨_, Heap.get?_push_size _ rfl, rfl, rfl⟩, fp, q⟩
  · subst e
    obtain ⟨t, rfl⟩ := r1
    cases ha : z.cps.all (· < 128)
    · exact wpAny_pyIter_wide ha (pi_one (tk := s1.toks) I1 _ (turn_str _ z t "str_iterator" (.inr rfl)) ⟨_, Heap.get?_push_size _ rfl, rfl, rfl⟩ q)
    · exact wpAny_pyIter_ascii ha (pi_one (tk := s1.toks) I1 _ (turn_str _ z t "str_ascii_iterator" (.inl rfl)) ⟨_, Heap.get?_push_size _ rfl, rfl, rfl⟩ q)
theorem servesG_L {xs : List D} {G : Mp → Prop} {a : Addr} {M : Mp} {H : Hp} (h : ∀ M' H', Keep M H M' H' → RepM X.K X.mg M' H' → G M' → ∃ vs, SqL X.K H' a vs ∧ RepVs X.K X.mg M' H' xs vs) : ServesG X xs G (Itl X.K a) M H := fun M' H' k m g i => by
  obtain ⟨vs, h1, h2⟩ := h M' H' k m g
  refine ⟨fun hl => ⟨vs, h1, by rw [← h2.length]; exact hl⟩, fun d e => ?_⟩
  obtain ⟨v, e1, r⟩ := h2.get e
  refine ⟨⟨vs, v, h1, e1⟩, fun x H2 y => ?_⟩
  obtain ⟨rfl, y⟩ := y
  have := y vs h1
  rw [e1] at this
  cases this
  exact ⟨.rfl', m, r⟩
theorem servesG_T {xs : List D} {G : Mp → Prop} {a : Addr} {M : Mp} {H : Hp} (h : ∀ M' H', Keep M H M' H' → RepM X.K X.mg M' H' → G M' → ∃ vs, SqT X.K H' a vs ∧ RepVs X.K X.mg M' H' xs vs) : ServesG X xs G (Itt X.K a) M H := fun M' H' k m g i => by
  obtain ⟨vs, h1, h2⟩ := h M' H' k m g
  refine ⟨fun hl => ⟨vs, h1, by rw [← h2.length]; exact hl⟩, fun d e => ?_⟩
  obtain ⟨v, e1, r⟩ := h2.get e
  refine ⟨⟨vs, v, h1, e1⟩, fun x H2 y => ?_⟩
  obtain ⟨rfl, y⟩ := y
  have := y vs h1
  rw [e1] at this
  cases this
  exact ⟨.rfl', m, r⟩
theorem servesG_S {z : Str} {G : Mp → Prop} {M : Mp} {H : Hp} : ServesG X (z.cps.toList.map chrD) G (Its z) M H := fun M' H' k m g i => by
  refine ⟨fun hl => by show z.cps.size ≤ i; simpa using hl, fun d e => ?_⟩
  rw [List.getElem?_map] at e
  cases q : z.cps.toList[i]? with
  | none => rw [q] at e; cases e
  | some c =>
    rw [q] at e
    cases e
    have q' : z.cps[i]? = some c := by rw [← Array.getElem?_toList]; exact q
    have hi : i < z.cps.size := by
      have := (List.getElem?_eq_some_iff.mp q).1
      simpa using this
    refine ⟨hi, fun x H2 y => ?_⟩
    obtain ⟨rfl, c', e', rfl⟩ := y
    rw [q'] at e'
    cases e'
    exact ⟨.rfl', m, by unfold chrD RepV; rfl⟩
def djItems (t : TD) : TDJ := fun ρ M Q => t ρ M fun d M1 => match seqJ M1 d with
  | some (_, xs, G) => Q xs G M1
  | none => False
theorem seqJ_kind {M : Mp} {d : D} {k : Nat} {xs : List D} {G : Mp → Prop} (e : seqJ M d = some (k, xs, G)) : k = 0 ∨ k = 1 ∨ (k = 2 ∧ ∃ z, d = .str z ∧ xs = z.cps.toList.map chrD) := by
  cases d with
  | tup ys => unfold seqJ at e; cases e; exact .inr (.inl rfl)
  | ptp ys => unfold seqJ at e; cases e; exact .inr (.inl rfl)
  | ltp ys => unfold seqJ at e; cases e; exact .inr (.inl rfl)
  | lst ys => unfold seqJ at e; cases e; exact .inl rfl
  | scr ns => unfold seqJ at e; cases e; exact .inl rfl
  | str z => unfold seqJ at e; cases e; exact .inr (.inr ⟨rfl, z, rfl, rfl⟩)
  | ref a =>
    simp only [seqJ] at e
    split at e
    · cases e; exact .inl rfl
    · cases e
  | _ => unfold seqJ at e; cases e
theorem dj_items {tg l : Expr} {t : TD} (hl : DE X B l t) : DJ X B tg l (djItems t) := by
  refine PI.imp (pi_any hl) fun σ H T h => ?_
  obtain ⟨ρ, M, R, hh, h, q⟩ := h
  refine ⟨ρ, M, _, hh, h, fun d M1 v H1 h1 k1 m1 r1 => ?_⟩
  split at h1
  · rename_i k xs G e
    rcases seqJ_kind e with rfl | rfl | ⟨rfl, z, rfl, rfl⟩
    · obtain ⟨a, rfl, g, f⟩ := seqJ_at e (by decide) m1 r1
      obtain ⟨vs, hv, _⟩ := f _ _ .rfl' m1 g
      exact .inl ⟨a, rfl, .inl ⟨⟨vs, hv⟩, q _ _ _ _ _ h1 k1 m1 (servesG_L f)⟩⟩
    · obtain ⟨a, rfl, g, f⟩ := seqJ_at e (by decide) m1 r1
      obtain ⟨vs, hv, _⟩ := f _ _ .rfl' m1 g
      exact .inl ⟨a, rfl, .inr ⟨⟨vs, hv⟩, q _ _ _ _ _ h1 k1 m1 (servesG_T f)⟩⟩
    · unfold RepV at r1
      exact .inr ⟨z, r1, q _ _ _ _ _ h1 k1 m1 servesG_S⟩
  · exact h1.elim
/-! ### enumerate, zip -/
/-! ### for -/
/-! ### comprehensions -/
/-- a comprehension's target: a name, a tuple of names -/
inductive CT where
  | one (i : Nat)
  | tup (is : List Nat)
def gNames : List Nat → TGs
  | [] => gNil
  | i :: is => gCons (gName i) (gNames is)
def CT.tg (K : PySem.W.Frag) : CT → TG
  | .one i => gName i
  | .tup is => gTup K is.length (gNames is)
def dgNames : List Nat → TDGs
  | [] => dgNil
  | i :: is => dgCons (dgName i) (dgNames is)
def CT.dg : CT → TDG
  | .one i => dgName i
  | .tup is => dgTup (dgNames is)
def CT.slots : CT → List Nat
  | .one i => [i]
  | .tup is => is
theorem wipe_set' {σ : L2.St} {vs : List Nat} {i : Nat} {y : Option V} (hi : i ∈ vs) : wipe (σ.set i y) vs = wipe σ vs := by
  apply List.ext_getElem?
  intro j
  rw [wipe_get, wipe_get]
  by_cases hj : j ∈ vs
  · rw [if_pos hj, if_pos hj]
    by_cases z : i = j
    · subst z
      rw [List.getElem?_set_self']
      cases σ[i]? <;> simp
    · rw [List.getElem?_set_ne z]
  · rw [if_neg hj, if_neg hj]
    have z : i ≠ j := fun e => hj (e ▸ hi)
    rw [List.getElem?_set_ne z]
theorem wipe_wipe (σ : L2.St) (vs : List Nat) : wipe (wipe σ vs) vs = wipe σ vs := by
  apply List.ext_getElem?
  intro j
  rw [wipe_get, wipe_get]
  by_cases hj : j ∈ vs
  · rw [if_pos hj, if_pos hj]
    cases σ[j]? <;> simp
  · rw [if_neg hj, if_neg hj]
section
variable {M : Mp} {H : Hp} {own : List Nat} {σ0 : L2.St} {Qd : Rho → Mp → Prop} {Qh : L2.St → Hp → Prop}
theorem names_read (q : ∀ ρ' σ', RepS X.K X.mg M H ρ' σ' → wipe σ' own = wipe σ0 own → Qd ρ' M → Qh σ' H) : ∀ (is : List Nat) (ρ : Rho) (σ : L2.St) (ds : List D) (vs : List V), (∀ i ∈ is, i ∈ own) → RepS X.K X.mg M H ρ σ → wipe σ own = wipe σ0 own → RepVs X.K X.mg M H ds vs → dgNames is ds ρ M Qd → gNames is vs σ H Qh
  | [], ρ, σ, ds, vs, hs, r, w, rv, h => by
    cases ds with
    | nil => unfold RepVs at rv; exact ⟨rv, q _ _ r w h⟩
    | cons => exact h.elim
  | i :: is, ρ, σ, ds, vs, hs, r, w, rv, h => by
    cases ds with
    | nil => exact h.elim
    | cons d ds =>
      unfold RepVs at rv
      obtain ⟨v, vr, rfl, rd, rr⟩ := rv
      exact ⟨v, vr, rfl, names_read q is _ _ ds vr (fun j hj => hs j (List.mem_cons_of_mem _ hj)) (r.set rd) (by rw [wipe_set' (hs i (List.mem_cons_self ..)), w]) rr h⟩
theorem names_len : ∀ (is : List Nat) (ρ : Rho) (M : Mp) (ds : List D), dgNames is ds ρ M Qd → ds.length = is.length
  | [], ρ, M, ds, h => by
    cases ds with
    | nil => rfl
    | cons => exact h.elim
  | i :: is, ρ, M, ds, h => by
    cases ds with
    | nil => exact h.elim
    | cons d ds =>
      have := names_len is _ M ds h
      simp [this]
theorem ct_read {c : CT} {ρ : Rho} {σ : L2.St} {d : D} {v : V} (hs : ∀ i ∈ c.slots, i ∈ own) (r : RepS X.K X.mg M H ρ σ) (w : wipe σ own = wipe σ0 own) (rv : RepV X.K X.mg M H d v) (h : c.dg d ρ M Qd)
    (q : ∀ ρ' σ', RepS X.K X.mg M H ρ' σ' → wipe σ' own = wipe σ0 own → Qd ρ' M → Qh σ' H) : c.tg X.K v σ H Qh := by
  cases c with
  | one i => exact q _ _ (r.set rv) (by rw [wipe_set' (hs i (List.mem_cons_self ..)), w]) h
  | tup is =>
    have h : dgTup (dgNames is) d ρ M Qd := h
    cases d with
    | tup xs =>
      unfold RepV at rv
      obtain ⟨a, vs, rfl, n, ha, rs⟩ := rv
      exact ⟨a, vs, rfl, TupH.sq ha, by rw [← rs.length]; exact names_len is _ _ xs h, names_read q is ρ σ xs vs hs r w rs h⟩
    | _ => exact h.elim
end
/-- one walk of a comprehension -/
theorem walkG {c : CT} {own : List Nat} {items : List D} {G : Mp → Prop} {J : It} {M1 M1' : Mp} {H1 H1' : Hp} {ρ0 : Rho} {σ0 : L2.St} (F : List D → Mp → Prop) (Q : Mp → Prop) (Body : Rho → Mp → (Mp → Prop) → Prop) (BodyH : L2.St → Hp → (Hp → Prop) → Prop) (NE : Hp → Prop)
    (hs : ∀ i ∈ c.slots, i ∈ own) (r0 : RepS X.K X.mg M1 H1 ρ0 (wipe σ0 own)) (sv : ServesG X items G J M1 H1)
    (f0 : ∀ M, F [] M → G M ∧ Q M) (f1 : ∀ d ds M, F (d :: ds) M → G M ∧ c.dg d ρ0 M fun ρ1 M2 => Body ρ1 M2 (F ds))
    (hE : ∀ M H, Keep M1 H1 M H → RepM X.K X.mg M H → Q M → NE H)
    (hB : ∀ (ρ1 : Rho) (M2 : Mp) (σ2 : L2.St) (H2 : Hp) (N : Mp → Prop) (NH : Hp → Prop), RepS X.K X.mg M2 H2 ρ1 σ2 → wipe σ2 own = wipe σ0 own → Keep M1 H1 M2 H2 → RepM X.K X.mg M2 H2 → Body ρ1 M2 N → (∀ M H, Keep M1 H1 M H → RepM X.K X.mg M H → N M → NH H) → BodyH σ2 H2 NH)
    (k1 : Keep M1 H1 M1' H1') (m1 : RepM X.K X.mg M1' H1') (h : F items M1') :
    ∃ W : Nat → Nat → Hp → Prop, (∃ m, W 0 m H1') ∧ ∀ i m H, W i m H → (J.stop i H ∧ NE H) ∨ (J.go i H ∧ ∃ Nx : Hp → Prop, (∀ H', Nx H' → ∃ m', m' < m ∧ W (i + 1) m' H') ∧ ∀ x H', J.yld i H x H' → c.tg X.K x (wipe σ0 own) H' fun σ2 H2 => wipe σ2 own = wipe σ0 own ∧ BodyH σ2 H2 Nx) := by
  refine ⟨fun i m H => i ≤ items.length ∧ m = items.length - i ∧ ∃ M, Keep M1 H1 M H ∧ RepM X.K X.mg M H ∧ F (items.drop i) M, ⟨_, Nat.zero_le _, rfl, _, k1, m1, by simpa using h⟩, ?_⟩
  rintro i m H ⟨hi, rfl, M, k', m', hf⟩
  rcases Nat.lt_or_ge i items.length with lt | ge
  · right
    rw [List.drop_eq_getElem_cons lt] at hf
    obtain ⟨g, hf⟩ := f1 _ _ _ hf
    obtain ⟨s1, s2⟩ := sv M H k' m' g i
    obtain ⟨go, s3⟩ := s2 items[i] (List.getElem?_eq_getElem lt)
    refine ⟨go, fun H'' => i + 1 ≤ items.length ∧ ∃ M, Keep M1 H1 M H'' ∧ RepM X.K X.mg M H'' ∧ F (items.drop (i + 1)) M, fun H'' z => ⟨items.length - (i + 1), by omega, z.1, rfl, z.2⟩, fun x H2 hy => ?_⟩
    obtain ⟨k2, m2, r2⟩ := s3 x H2 hy
    have kk := k'.trans k2
    exact ct_read (σ0 := σ0) hs (r0.keep kk) (wipe_wipe _ _) r2 hf fun ρ' σ' rs w q => ⟨w, hB _ _ _ _ _ _ rs w kk m2 q fun M3 H3 k3 m3 n3 => ⟨lt, M3, k3, m3, n3⟩⟩
  · left
    have e : items.drop i = [] := List.drop_eq_nil_iff.mpr ge
    rw [e] at hf
    obtain ⟨g, hq⟩ := f0 _ hf
    obtain ⟨s1, s2⟩ := sv M H k' m' g i
    exact ⟨s1 ge, hE _ _ k' m' hq⟩
def lcG (g : TDG) (tt : TDb) (te : TD) (p : Addr) (ρ0 : Rho) (G : Mp → Prop) (Q : Mp → Prop) : List D → Mp → Prop
  | [], M => G M ∧ Q M
  | d :: ds, M => G M ∧ g d ρ0 M fun ρ1 M2 => tt ρ1 M2 fun b M3 => (b = true → te ρ1 M3 fun y M4 => ∃ acc, M4 p = some (.lst acc) ∧ acc.length < sizeLine ∧ lcG g tt te p ρ0 G Q ds (um M4 p (.lst (acc ++ [y])))) ∧ (b = false → lcG g tt te p ρ0 G Q ds M3)
def dLCG (own : List Nat) (g : TDG) (ti : TDJ) (tt : TDb) (te : TD) : TD := fun ρ M Q => ti ρ M fun items G M1 => ∀ p, M1 p = none → lcG g tt te p (wipeD ρ own) G (fun M2 => ∃ acc, M2 p = some (.lst acc) ∧ Q (.lst acc) (dm M2 p)) items (um M1 p (.lst []))
theorem keepAt0 {M : Mp} {H : Hp} : Keep At0.M At0.H M H := ⟨fun b o e _ _ => nomatch (show (none : Option HO) = some o from e)⟩
section
variable {X : Cx} {tt : TDb} {te : TD}
def bodyD (tt : TDb) (te : TD) (p : Addr) : Rho → Mp → (Mp → Prop) → Prop := fun ρ1 M2 N => tt ρ1 M2 fun b M3 => (b = true → te ρ1 M3 fun y M4 => ∃ acc, M4 p = some (.lst acc) ∧ acc.length < sizeLine ∧ N (um M4 p (.lst (acc ++ [y])))) ∧ (b = false → N M3)
def bodyH (X : Cx) (tt : TDb) (te : TD) (D : Addr) : L2.St → Hp → (Hp → Prop) → Prop := fun σ2 H2 NH => lftT X At0 tt σ2 H2 fun b H3 => if b = true then lft X At0 te σ2 H3 fun y H4 => ∃ acc, H4 D = some (.lst acc) ∧ acc.length < sizeLine ∧ NH (upd H4 D (.lst (acc ++ [y]))) else NH H3
theorem body_read {M1 M2 : Mp} {H1 H2 : Hp} {ρ1 : Rho} {σ2 : L2.St} {D : Addr} {N : Mp → Prop} {NH : Hp → Prop} (rs : RepS X.K X.mg M2 H2 ρ1 σ2) (k : Keep M1 H1 M2 H2) (m : RepM X.K X.mg M2 H2) (h : bodyD tt te D ρ1 M2 N) (q : ∀ M H, Keep M1 H1 M H → RepM X.K X.mg M H → N M → NH H) : bodyH X tt te D σ2 H2 NH := by
  refine ⟨ρ1, M2, _, ⟨rs, m, keepAt0⟩, h, fun b M3 H3 hb k3 m3 => ?_⟩
  cases b with
  | true =>
    refine iteT ⟨ρ1, M3, _, ⟨rs.keep k3, m3, keepAt0⟩, hb.1 rfl, fun y M4 v H4 hy k4 m4 r4 => ?_⟩
    obtain ⟨acc, ea, la, hn⟩ := hy
    obtain ⟨vs, ha, rs⟩ := m4 D _ ea
    have kw : Keep M4 H4 (um M4 D (.lst (acc ++ [y]))) (upd H4 D (.lst (vs ++ [v]))) := Keep.write ea
    exact ⟨vs, ha, by rw [← rs.length]; exact la, q _ _ (((k.trans k3).trans k4).trans kw) (m4.write ea ⟨_, by rw [upd_same], RepVs.keep kw _ _ (RepVs.append rs (.cons r4 .nil))⟩) hn⟩
  | false => exact iteF (q _ _ (k.trans k3) m3 (hb.2 rfl))
theorem lcG_read {own : List Nat} {c : CT} {ti : TDJ} {ρ : Rho} {σ : L2.St} {M : Mp} {H : Hp} {Qf : Addr → Mp → Prop} {Q : VK} (hs : ∀ i ∈ c.slots, i ∈ own) (hh : Here X B ρ σ M H)
    (h : ti ρ M fun items G M1 => ∀ p, M1 p = none → lcG c.dg tt te p (wipeD ρ own) G (Qf p) items (um M1 p (.lst [])))
    (q : ∀ p M' H', Qf p M' → Keep M H M' H' → RepM X.K X.mg M' H' → Q (.ref p) H') :
    tLc (lftJ X B ti) (c.tg X.K) (lftT X At0 tt) (lft X At0 te) own σ H Q := by
  refine ⟨ρ, M, _, hh, h, fun items G M1 J H1 h1 k1 m1 sv => ?_⟩
  intro D hD
  have hMD := m1.free hD
  have h2 := h1 D hMD
  have kN : Keep M1 H1 (um M1 D (.lst [])) (upd H1 D (.lst [])) := Keep.newM m1 hD
  have mN : RepM X.K X.mg (um M1 D (.lst [])) (upd H1 D (.lst [])) := m1.newM hD ⟨[], by rw [upd_same], .nil⟩
  exact walkG (fun xs M => lcG c.dg tt te D (wipeD ρ own) G (Qf D) xs M) (Qf D) (bodyD tt te D) (bodyH X tt te D) (Q (.ref D)) hs (wipe_rep (hh.s.keep k1) own) sv (fun M h => h) (fun d ds M h => h)
    (fun M' H' k m z => q D M' H' z (k1.trans k) m) (fun ρ1 M2 σ2 H2 N NH rs w k m hb hn => body_read rs k m hb hn) kN mN h2
end
section
variable {elt tg iter tg1 iter1 : Expr} {ifs ifs1 : List Expr} {scope : Scope} {own : List (Str × Nat)} {own1 : List Nat} {pos : Pos} {ti ti1 : TDJ} {tt tt1 : TDb} {te : TD} {c c1 : CT}
theorem lc_end {Q : VK} {R : DK} {M : Mp} {H : Hp} {p : Addr} {M' : Mp} {H' : Hp} (q : ∀ d M' v H', R d M' → Keep M H M' H' → RepM X.K X.mg M' H' → RepV X.K X.mg M' H' d v → Q v H') (z : ∃ acc, M' p = some (.lst acc) ∧ R (.lst acc) (dm M' p)) (k : Keep M H M' H') (m : RepM X.K X.mg M' H') : Q (.ref p) H' := by
  obtain ⟨acc, ea, z⟩ := z
  obtain ⟨vs, ha, rs⟩ := m p _ ea
  refine q _ _ _ _ z k.dm (m.less dm_le) ?_
  unfold RepV
  exact ⟨p, vs, rfl, dm_same _ _, ha, RepVs.keep (Keep.rfl'.less dm_le) _ _ rs⟩
theorem de_lcG (hc : X.calm = true) (hN : X.N.Nodup) (hi : DJ X B tg iter ti) (ok : BlkOk X.N X.env.scope scope own) (hs' : ∀ i ∈ c.slots, i ∈ own.map (·.2))
    (hg : ∀ (s : Shared) (H : Hp) (C : Addr) (cl : List (Str × Addr)) (fp : List Addr), PG (X.blk s H scope (compEnvC scope cl C X.env) fp) tg (c.tg X.K))
    (ht : ∀ (s : Shared) (H : Hp) (C : Addr) (cl : List (Str × Addr)) (fp : List Addr), DTl (X.blk s H scope (compEnvC scope cl C X.env) fp) At0 ifs tt)
    (he : ∀ (s : Shared) (H : Hp) (C : Addr) (cl : List (Str × Addr)) (fp : List Addr), DE (X.blk s H scope (compEnvC scope cl C X.env) fp) At0 elt te)
    (hs : ∀ x, foldedSetIterable iter X.env x = pure x := by intro _; rfl) : DE X B (.ListComp elt [⟨tg, iter, ifs, 0⟩] scope pos) (dLCG (own.map (·.2)) c.dg ti tt te) := by
  refine PE.imp (pe_lc hc hN hi ok hg (fun s H C cl fp => PTs.imp (ht s H C cl fp) fun σ H Q h => lftT_blk h) (fun s H C cl fp => PE.imp (he s H C cl fp) fun σ H Q h => lft_blk h) hs) fun σ H Q h => ?_
  obtain ⟨ρ, M, R, hh, h, q⟩ := h
  exact lcG_read hs' hh h fun p M' H' z k m => lc_end q z k m
end
end
end DL
/-! The D layer, part t: words for walks of any kind. -/
namespace DL
open PySem PySem.Spec L2
theorem pl_lint (n : Nat) (L : List Int) : D.pl (n + 1) (.lst (L.map .int)) = true := by simp [D.pl]
theorem pl_tint (n : Nat) (L : List Int) : D.pl (n + 1) (.tup (L.map .int)) = true := by simp [D.pl]
theorem pl_bl (n : Nat) (b : Bool) : D.pl n (.bl b) = true := by cases n <;> rfl
theorem pl_i (n : Nat) (b : Int) : D.pl n (.int b) = true := by cases n <;> rfl
theorem pl_n (n : Nat) : D.pl n .non = true := by cases n <;> rfl
theorem eqv_bl (a b : Bool) : D.eqv (.bl a) (.bl b) = (a == b) := rfl
theorem eqv_ii (a b : Int) : D.eqv (.int a) (.int b) = (a == b) := rfl
theorem eqv_nn : D.eqv .non .non = true := rfl
theorem ints_inj (ps qs : List Int) : (ps.map D.int = qs.map D.int) = (ps = qs) := by
  refine propext ⟨fun h => ?_, fun h => by rw [h]⟩
  induction ps generalizing qs with
  | nil => cases qs with
    | nil => rfl
    | cons => cases h
  | cons p ps ih =>
    cases qs with
    | nil => cases h
    | cons q qs =>
      simp only [List.map_cons] at h
      injection h with h1 h2
      injection h1 with h1
      rw [h1, ih qs h2]
theorem eqv_lint (L K : List Int) : D.eqv (.lst (L.map .int)) (.lst (K.map .int)) = decide (L = K) := by
  unfold D.eqv
  simp only [D.py, PyData.eqv, eqv_ints]
theorem eqv_tint (L K : List Int) : D.eqv (.tup (L.map .int)) (.tup (K.map .int)) = decide (L = K) := by
  unfold D.eqv
  simp only [D.py, PyData.eqv, eqv_ints]
theorem lcG_map {α β : Type} {f : α → D} {h : β → D} {L : List α} {g : TDG} {tt : TDb} {te : TD} {ρ0 : Rho} {G : Mp → Prop} {R : Addr → List D → Mp → Prop} {M : Mp} (k : α → Option β) (hz : L.length ≤ sizeLine) (hG : ∀ p, M p = none → ∀ xs, G (um M p (.lst xs)))
    (st : ∀ p, M p = none → ∀ x ∈ L, ∀ (xs : List D) (Kk : D → Mp → Prop) (N : Mp → Prop), (∀ y, k x = some y → Kk (h y) (um M p (.lst xs))) → (k x = none → N (um M p (.lst xs))) →
      g (f x) ρ0 (um M p (.lst xs)) fun ρ1 M2 => tt ρ1 M2 fun b M3 => (b = true → te ρ1 M3 Kk) ∧ (b = false → N M3))
    (q : ∀ p, M p = none → R p ((L.filterMap k).map h) (um M p (.lst ((L.filterMap k).map h)))) : ∀ p, M p = none → lcG g tt te p ρ0 G (fun M2 => ∃ acc, M2 p = some (.lst acc) ∧ R p acc M2) (L.map f) (um M p (.lst [])) := by
  intro p hp
  have key : ∀ (L' : List α) (acc : List D), (∀ x ∈ L', x ∈ L) → acc.length + L'.length ≤ sizeLine → (∃ acc', um M p (.lst (acc ++ (L'.filterMap k).map h)) p = some (.lst acc') ∧ R p acc' (um M p (.lst (acc ++ (L'.filterMap k).map h)))) →
      lcG g tt te p ρ0 G (fun M2 => ∃ acc, M2 p = some (.lst acc) ∧ R p acc M2) (L'.map f) (um M p (.lst acc)) := by
    intro L'
    induction L' with
    | nil => intro acc _ _ q; exact ⟨hG p hp _, by simpa using q⟩
    | cons x L' ih =>
      intro acc hm hl q
      simp only [List.length_cons] at hl
      simp only [List.map_cons, lcG]
      refine ⟨hG p hp _, st p hp x (hm x (List.mem_cons_self ..)) acc _ _ (fun y e => ⟨acc, um_same _ _ _, by omega, ?_⟩) fun e => ?_⟩
      · rw [um_um]
        refine ih (acc ++ [h y]) (fun z hz => hm z (List.mem_cons_of_mem _ hz)) (by simp only [List.length_append, List.length_cons, List.length_nil]; omega) ?_
        simpa [e] using q
      · exact ih acc (fun z hz => hm z (List.mem_cons_of_mem _ hz)) (by omega) (by simpa [e] using q)
  exact key L [] (fun x hx => hx) (by simpa using hz) ⟨_, um_same _ _ _, by simpa using q p hp⟩
theorem lcG_mapA {α β : Type} {f : α → D} {h : β → D} {L : List α} {g : TDG} {te : TD} {ρ0 : Rho} {G : Mp → Prop} {R : Addr → List D → Mp → Prop} {M : Mp} (k : α → β) (hz : L.length ≤ sizeLine) (hG : ∀ p, M p = none → ∀ xs, G (um M p (.lst xs)))
    (st : ∀ p, M p = none → ∀ x ∈ L, ∀ (xs : List D) (Kk : D → Mp → Prop), Kk (h (k x)) (um M p (.lst xs)) → g (f x) ρ0 (um M p (.lst xs)) fun ρ1 M2 => te ρ1 M2 Kk) (hg : ∀ d ρ M (P P' : Rho → Mp → Prop), (∀ ρ' M', P ρ' M' → P' ρ' M') → g d ρ M P → g d ρ M P')
    (q : ∀ p, M p = none → R p ((L.map k).map h) (um M p (.lst ((L.map k).map h)))) : ∀ p, M p = none → lcG g dYes te p ρ0 G (fun M2 => ∃ acc, M2 p = some (.lst acc) ∧ R p acc M2) (L.map f) (um M p (.lst [])) := by
  refine lcG_map (h := h) (fun x => some (k x)) hz hG (fun p hp x hx xs Kk N h1 h2 => ?_) (fun p hp => by rw [List.filterMap_eq_map']; exact q p hp)
  refine hg _ _ _ _ _ (fun ρ' M' z => ?_) (st p hp x hx xs Kk (h1 _ rfl))
  unfold dYes
  exact ⟨fun _ => z, fun z => absurd z (by decide)⟩
end DL
/-! DLu: in a tuple of flat values, in a text. -/
namespace DL
open PySem PySem.Spec L2
section
variable {X : Cx} {B : List Str}
def D.flat : D → Bool
  | .non => true
  | .bl _ => true
  | .int _ => true
  | .str _ => true
  | _ => false
def eqF : D → D → Bool
  | .non, .non => true
  | .bl a, .bl b => a == b
  | .bl a, .int b => (if a then 1 else 0) == b
  | .int a, .bl b => a == (if b then 1 else 0)
  | .int a, .int b => a == b
  | .str a, .str b => a == b
  | _, _ => false
/-- whether the text b holds a -/
def hasT (b a : Str) : Bool := !(Builtin.Str.occurrences b a 0 b.length 1).isEmpty
def gIn2 (neg : Bool) : DR2 := fun x y M Q => match y with
  | .str b => (match x with
    | .str a => Q (.bl (if neg then !hasT b a else hasT b a)) M
    | _ => False)
  | .tup ys => (x.flat = true ∧ ys.all D.flat = true) ∧ Q (.bl (if neg then !(ys.any fun z => eqF z x) else ys.any fun z => eqF z x)) M
  | y => gIn neg x y M Q
theorem flat_V {K : PySem.W.Frag} {mg : Str → Option Value} {M : Mp} {H : Hp} {d : D} {v : V} (r : RepV K mg M H d v) (f : d.flat = true) : flatV v = true := by
  cases d <;> first | exact absurd f Bool.false_ne_true | (unfold RepV at r; subst r; rfl)
theorem flat_eq {K : PySem.W.Frag} {mg : Str → Option Value} {M : Mp} {H : Hp} {z x : D} {w v : V} (rz : RepV K mg M H z w) (rx : RepV K mg M H x v) (fz : z.flat = true) (fx : x.flat = true) : eqV w v = eqF z x := by
  cases z <;> first
    | exact absurd fz Bool.false_ne_true
    | (unfold RepV at rz; subst rz
       cases x <;> first
         | exact absurd fx Bool.false_ne_true
         | (unfold RepV at rx; subst rx; rfl))
theorem flat_all {K : PySem.W.Frag} {mg : Str → Option Value} {M : Mp} {H : Hp} {x : D} {v : V} (rx : RepV K mg M H x v) (fx : x.flat = true) : ∀ (ys : List D) (vs : List V), RepVs K mg M H ys vs → ys.all D.flat = true → vs.all flatV = true ∧ inV v vs = ys.any fun z => eqF z x
  | [], vs, r, _ => by unfold RepVs at r; subst r; exact ⟨rfl, rfl⟩
  | y :: ys, vs, r, f => by
    unfold RepVs at r
    obtain ⟨w, wr, rfl, r1, r2⟩ := r
    rw [List.all_cons, Bool.and_eq_true] at f
    obtain ⟨a, b⟩ := flat_all rx fx ys wr r2 f.2
    refine ⟨by rw [List.all_cons, flat_V r1 f.1, a]; rfl, ?_⟩
    rw [List.any_cons, ← b, ← flat_eq r1 rx f.1 fx]
    rfl
def rIn2 (K : PySem.W.Frag) (neg : Bool) : R2 := fun x y H Q => (∃ i j, x = .str i ∧ y = .str j ∧ Q (.bl (if neg then !hasT j i else hasT j i)) H) ∨ rIn K neg x y H Q
theorem opc_in2 (neg : Bool) (r0 : R2) (h0 : OpC X r0 (gIn neg)) : OpC X (fun x y H Q => rIn2 X.K neg x y H Q ∨ r0 x y H Q) (gIn2 neg) := by
  intro M H d1 d2 v1 v2 R Q m r1 r2 g q
  unfold gIn2 at g
  split at g
  · split at g
    · unfold RepV at r1 r2
      subst r1 r2
      exact .inl (.inl ⟨_, _, rfl, rfl, q _ _ _ _ g .rfl' m rBl⟩)
    · exact g.elim
  · obtain ⟨⟨f1, f2⟩, g⟩ := g
    have r2' := r2
    unfold RepV at r2'
    obtain ⟨a, vs, rfl, n, ha, rs⟩ := r2'
    obtain ⟨z1, z2⟩ := flat_all r1 f1 _ _ rs f2
    refine .inl (.inr ⟨a, vs, rfl, .inr (TupH.sq ha), flat_V r1 f1, z1, ?_⟩)
    rw [z2]
    exact q _ _ _ _ g .rfl' m rBl
  · exact .inr (h0 M H _ _ v1 v2 R Q m r1 r2 g q)
theorem op_in2 : OpR X (compareOp .In) (rIn2 X.K false) := op_in_str.or op_in_seq
theorem op_notin2 : OpR X (compareOp .NotIn) (rIn2 X.K true) := op_notIn_str.or op_notIn_seq
theorem cd_in2 (hu : X.A.units + 65 < cLine) : CmpD X .In (gIn2 false) := ⟨_, op_in2.or (op_inD hu), opc_in2 _ _ opc_in⟩
theorem cd_notin2 (hu : X.A.units + 65 < cLine) : CmpD X .NotIn (gIn2 true) := ⟨_, op_notin2.or (op_notInD hu), opc_in2 _ _ opc_notin⟩
end
end DL
/-! DLv: an empty dict, as a value. -/
namespace DL
open PySem PySem.Spec L2
section
variable {X : Cx} {B : At}
def dDct : TD := fun _ M Q => Q .dct M
theorem de_dct {pos : Pos} : DE X B (.Dict [] [] pos) dDct := by
  refine PE.imp pe_dnewK fun σ H Q h => ?_
  obtain ⟨ρ, M, R, hh, h, q⟩ := h
  intro p n
  refine q _ _ _ _ h (Keep.new hh.m n) (hh.m.new n) ?_
  unfold RepV
  exact ⟨p, rfl, hh.m.free n, upd_same⟩
end
/-! ### a target in a target -/
/-! ### is, is not of bools -/
section
variable {X : Cx}
def gIs2 : DR2 := fun x y M Q => match y with
  | .bl b => (match x with
    | .bl a => Q (.bl (decide (a = b))) M
    | _ => False)
  | y => gIs x y M Q
theorem cd_is2 : CmpD X .Is gIs2 := by
  obtain ⟨r0, o0, c0⟩ := cd_is (X := X)
  refine ⟨_, op_isBl.or o0, ?_⟩
  intro M H d1 d2 v1 v2 R Q m r1 r2 g q
  unfold gIs2 at g
  split at g
  · split at g
    · unfold RepV at r1 r2
      subst r1 r2
      exact .inl ⟨_, _, rfl, rfl, q _ _ _ _ g .rfl' m rBl⟩
    · exact g.elim
  · exact .inr (c0 M H _ _ v1 v2 R Q m r1 r2 g q)
end
/-! ### answers of isinstance -/
theorem kb_di : kitB "dict" "int" = some false := by decide +kernel
theorem kb_db : kitB "dict" "bool" = some false := by decide +kernel
theorem kb_ds : kitB "dict" "str" = some false := by decide +kernel
theorem kb_dt : kitB "dict" "tuple" = some false := by decide +kernel
theorem kb_dl : kitB "dict" "list" = some false := by decide +kernel
end DL
/-! DLw: join, split, int of a text, extend, [::-1]. -/
namespace DL
open PySem PySem.Spec L2
def strs? : List D → Option (List Str)
  | [] => some []
  | .str s :: ds => (strs? ds).map (s :: ·)
  | _ => none
theorem strs_map : ∀ ys : List Str, strs? (ys.map .str) = some ys
  | [] => rfl
  | y :: ys => by simp [strs?, strs_map ys]
theorem strs_rep {K : PySem.W.Frag} {mg : Str → Option Value} {M : Mp} {H : Hp} : ∀ (ds : List D) (vs : List V) (ys : List Str), RepVs K mg M H ds vs → strs? ds = some ys → vs = ys.map V.str
  | [], vs, ys, r, e => by unfold RepVs at r; subst r; cases e; rfl
  | d :: ds, vs, ys, r, e => by
    unfold RepVs at r
    obtain ⟨v, vr, rfl, r1, r2⟩ := r
    cases d with
    | str s =>
      simp only [strs?, Option.map_eq_some_iff] at e
      obtain ⟨zs, e1, rfl⟩ := e
      unfold RepV at r1
      subst r1
      rw [strs_rep ds vr zs r2 e1]
      rfl
    | _ => simp [strs?] at e
section
variable {X : Cx} {B : At}
/-- the texts of a list or a tuple -/
def textsOf (M : Mp) (d : D) : Option (List Str) := match d with
  | .tup xs => strs? xs
  | d => (asL M d).bind strs?
def dJoin (to te : TD) : TD := fun ρ M Q => to ρ M fun o M1 => match o with
  | .str a => te ρ M1 fun d M2 => match textsOf M2 d with
    | some ys => (ys.map (·.length)).sum + ys.length * a.length ≤ 16777216 ∧ Q (.str (Txt.join a ys)) M2
    | none => False
  | _ => False
theorem texts_at {K : PySem.W.Frag} {mg : Str → Option Value} {M : Mp} {H : Hp} {d : D} {v : V} {ys : List Str} (m : RepM K mg M H) (r : RepV K mg M H d v) (e : textsOf M d = some ys) : ∃ p, v = .ref p ∧ (SqL K H p (ys.map V.str) ∨ SqT K H p (ys.map V.str)) := by
  unfold textsOf at e
  split at e
  · unfold RepV at r
    obtain ⟨a, vs, rfl, _, ha, rs⟩ := r
    exact ⟨a, rfl, .inr (by rw [← strs_rep _ _ _ rs e]; exact TupH.sq ha)⟩
  · cases e1 : asL M d with
    | none => rw [e1] at e; cases e
    | some ds =>
      rw [e1] at e
      obtain ⟨a, vs, rfl, ha, rs⟩ := asL_at e1 m r
      exact ⟨a, rfl, .inl (by rw [← strs_rep _ _ _ rs e]; exact SqL.of ha)⟩
theorem de_join {o e : Expr} {to te : TD} {apos pos : Pos} (ho : DE X B o to) (he : DE X B e te) (hs : starEach [e] X.env = [(false, eval e X.env)] := by rfl) (hbase : attributeBase o "join" X.env (eval o X.env) = eval o X.env := by rfl) (hline : (apos.endLine == pos.line) = true := by rfl) :
    DE X B (.Call (.Attribute o "join" apos) [e] [] pos) (dJoin to te) := by
  refine PE.imp (pe_join ho he hs hbase hline) fun σ H Q h => ?_
  obtain ⟨ρ, M, R, hh, h, q⟩ := h
  refine ⟨ρ, M, _, hh, h, fun o M1 v H1 h1 k1 m1 r1 => ?_⟩
  split at h1
  · rename_i a
    unfold RepV at r1
    subst r1
    refine ⟨⟨_, rfl⟩, ρ, M1, _, hh.step k1 m1, h1, fun d M2 w H2 h2 k2 m2 r2 => ?_⟩
    split at h2
    · rename_i ys e
      obtain ⟨p, rfl, hp⟩ := texts_at m2 r2 e
      exact ⟨a, p, ys, rfl, rfl, hp, h2.1, q _ _ _ _ h2.2 (k1.trans k2) m2 rStr⟩
    · exact h2.elim
  · exact h1.elim
theorem strs_reps {K : PySem.W.Frag} {mg : Str → Option Value} {M : Mp} {H : Hp} : ∀ ys : List Str, RepVs K mg M H (ys.map D.str) (ys.map V.str)
  | [] => by unfold RepVs; rfl
  | y :: ys => by
    simp only [List.map_cons]
    unfold RepVs
    exact ⟨_, _, rfl, by unfold RepV; rfl, strs_reps ys⟩
def dSplit (to te : TD) : TD := fun ρ M Q => to ρ M fun o M1 => match o with
  | .str a => te ρ M1 fun d M2 => match d with
    | .str b => ((b.length == 0) = false ∧ a.length + 2 ≤ sizeLine) ∧ Q (.lst ((Txt.split a b).map .str)) M2
    | _ => False
  | _ => False
theorem de_split {o e : Expr} {to te : TD} {apos pos : Pos} (ho : DE X B o to) (he : DE X B e te) (hs : starEach [e] X.env = [(false, eval e X.env)] := by rfl) (hbase : attributeBase o "split" X.env (eval o X.env) = eval o X.env := by rfl) (hline : (apos.endLine == pos.line) = true := by rfl) :
    DE X B (.Call (.Attribute o "split" apos) [e] [] pos) (dSplit to te) := by
  refine PE.imp (pe_split ho he hs hbase hline) fun σ H Q h => ?_
  obtain ⟨ρ, M, R, hh, h, q⟩ := h
  refine ⟨ρ, M, _, hh, h, fun o M1 v H1 h1 k1 m1 r1 => ?_⟩
  split at h1
  · rename_i a
    unfold RepV at r1
    subst r1
    refine ⟨⟨_, rfl⟩, ρ, M1, _, hh.step k1 m1, h1, fun d M2 w H2 h2 k2 m2 r2 => ?_⟩
    split at h2
    · rename_i b
      unfold RepV at r2
      subst r2
      refine ⟨a, b, rfl, rfl, h2.1.1, h2.1.2, fun p n => ?_⟩
      refine q _ _ _ _ h2.2 ((k1.trans k2).trans (Keep.new m2 n)) (m2.new n) ?_
      unfold RepV
      exact ⟨p, _, rfl, m2.free n, upd_same, strs_reps _⟩
    · exact h2.elim
  · exact h1.elim
/-- int(x) of a number or a text -/
def gInt2 : DCall := fun ds M Q => match ds with
  | [.str a] => (match PySem.intText? a with
    | some n => a.length ≤ 640 ∧ Q (.int n) M
    | none => False)
  | ds => gInt ds M Q
theorem c_int2 : CallD X (.type "int") gInt2 := by
  obtain ⟨r0, o0, c0⟩ := c_int (X := X)
  refine ⟨_, call_int_str.or o0, ?_⟩
  intro M H ds vs R Q m r g q
  unfold gInt2 at g
  split at g
  · rename_i a
    obtain ⟨v, rfl, r1⟩ := r.one
    unfold RepV at r1
    subst r1
    split at g
    · rename_i n e
      exact .inl ⟨a, n, rfl, e, g.1, q _ _ _ _ g.2 .rfl' m rInt⟩
    · exact g.elim
  · exact .inr (c0 M H _ _ R Q m r g q)
end
end DL
/-! DLx: str(x) by an own __str__. -/
namespace DL
open PySem PySem.Spec L2
section
open Builtin Builtin.Str
variable {prog : Program} {w : World} {A : Around} {K : PySem.W.Frag} {E : Value → Shared → Prop} {s : Shared} {a C f : Addr} {ox : Obj} {od : Option Obj}
theorem meetsIn_str_new {v : Value} : MeetsIn prog w («str.__new__» ⟨[.type "str", v], []⟩) (fun A R s => wpAny (model prog w) A.in1 (strOf v) (fun r s' => R (.ok (.ret r)) s') (fun e s' => R (.error e) s') s) := .of_wp fun A R s h => by
  rw [str_new_tree v]
  refine wpAny_bind (wpAny_pure ?_)
  refine wpAny_bind (wpAny_of_eq isSubtype_str_str ?_)
  exact wpAny_bind (wpAny_mono h (fun r s' h' => wpAny_pure ⟨_, rfl, h'⟩) fun _ _ e => e)
theorem strOf_own {Q : Value → Shared → Prop} (hu : A.units < cLine) (X : K.In s.heap) (I : PySem.W.InstAt s.heap a ox C od) (hf : PySem.W.findIn K (.ref C) "__str__" = some (some (.ref f))) (hfn : PySem.W.isFn K (.ref f) = true)
    (hc : wpAny (model prog w) A (call (.ref f) [.ref a]) (fun v s' => ∃ y t, v = .str y t ∧ Q v s') E s) : wpAny (model prog w) A (strOf (.ref a)) Q E s := by
  unfold strOf
  rw [show isExactStr (.ref a) = false from rfl]
  simp only [Bool.false_eq_true, if_false, pure_bind]
  refine wpAny_bind (wpAny_cRoomFor hu ?_)
  refine wpAny_bind (m := callSpecial? (.ref a) (Str.ofString "__str__")) (PySem.W.special_fn X I hf (beq_iff_eq.mp hfn) (wpAny_mono hc (fun v s' h => ?_) fun _ _ z => z))
  obtain ⟨y, t, rfl, h⟩ := h
  exact wpAny_pure h
end
section
variable {X : Cx} {B : At}
/-- str(x), x an instance with an own __str__ -/
def gStrO (c : Str) (sp : DSp) : DCall := fun ds M Q => match ds with
  | [d] => canM M c "__str__" d ∧ sp [d] M (fun r M' => match r with | .str y => Q (.str y) M' | _ => False) fun _ _ => False
  | _ => False
theorem c_strO {k : Nat} {c : Str} {ps : List Str} {sp : DSp} (G : GMeth X.prog X.w X.K X.mg X.base k c "__str__" ps sp) (cy : Cy X.A (k + 2)) : CallD X (.type "str") (gStrO c sp) := by
  obtain ⟨C, f, fd, hm, cl, hmeth, FF, hb⟩ := G
  refine ⟨fun xs H Q => ∃ d M R, RepM X.K X.mg M H ∧ RepVs X.K X.mg M H [d] xs ∧ canM M c "__str__" d ∧ sp [d] M (fun r M' => match r with | .str y => R (.str y) M' | _ => False) (fun _ _ => False) ∧ Back X M H R Q, ?_, ?_⟩
  · intro pins s σ H xs us Q I r h
    obtain ⟨d, M, R, m, rs, hc, hsp, q⟩ := h
    obtain ⟨v, rfl, rv⟩ := rs.one
    obtain ⟨a, C', dx, fs, rfl, ea, hc', hl⟩ := canM_rep m rv hc
    rw [hm] at hc'
    cases hc'
    cases r with
    | cons r1 rr =>
    cases rr
    obtain rfl := (show _ = Value.ref a from r1)
    obtain ⟨mA, J, _⟩ := ins_get I.hok ea
    obtain ⟨od, J, _⟩ := J.look
    have A2 : Cy X.A.in1.in1 k := ⟨cy.room.in1.in1, cy.gd⟩
    refine callType_newIn PySem.F.called_str (by decide) (PySem.F.typeCall_str_1 _) (PySem.F.newCall_str_1 _) (fun obj => PySem.F.args_object_init_2 obj _) PySem.F.entry_str_new meetsIn_str_new ?_
    refine strOf_own A2.room.units0 I.kIn J hmeth.at_ hmeth.fn ?_
    have e0 : Env0 X.prog X.w X.K X.mg X.base X.A.in1.in1 X.stack s H := by
      have e := I.env0
      exact ⟨e.frames, e.mod, e.bs, e.bsz, e.funs, e.frf, e.hok, e.bare⟩
    have hlen : ([Value.ref a] ++ []).length = ps.length := FF.len _ _ _ _ hsp
    have hb' := hb s [.ref a] I.kIn hlen
    rw [List.append_nil] at hb'
    refine wpAny_call (codeAny_mono (FF.run X.A.in1.in1 X.stack s H M ⟨[.ref a], []⟩ [.ref a] [.ref a] [d] _ _ A2 e0 hb' (.cons rfl .nil) m rs hsp) fun r s' hq => ?_)
    cases r with
    | error e =>
      exact takes0N (X := X) e s' (L2N.XE.of_call I (fun cls dd H' he => by
        obtain ⟨_, _, _, _, _, _, z⟩ := he
        exact z.elim) hq)
    | ok fl =>
      cases fl with
      | ret u =>
        obtain ⟨z, H', I', rz, d', M', k1, m1, rv', hR⟩ := I.after hq
        split at hR
        · rename_i y
          have rv2 := rv'
          unfold RepV at rv2
          subst rv2
          obtain ⟨t, rfl⟩ := rz
          exact ⟨y, t, rfl, typeIs_str _ _ _, V.str y, H', I', ⟨t, rfl⟩, q _ _ _ _ hR k1 m1 rv'⟩
        · exact hR.elim
      | next => exact hq.elim
      | brk => exact hq.elim
      | cont => exact hq.elim
  · intro M H ds vs R Q m r g q
    unfold gStrO at g
    split at g
    · exact ⟨_, M, R, m, r, g.1, g.2, q⟩
    · exact g.elim
end
end DL
/-! DLy: divmod by great numbers. -/
namespace DL
open PySem PySem.Spec L2
section
variable {X : Cx}
def gDivmod2 : DCall := fun ds M Q => match ds with | [.int i, .int j] => divOk i j ∧ Q (.tup [.int (i / j), .int (i % j)]) M | _ => False
theorem c_divmod2 : CallD X (.builtin "divmod") gDivmod2 := by
  refine ⟨_, call_divmodW, ?_⟩
  intro M H ds vs R Q m r g q
  unfold gDivmod2 at g
  split at g
  · rename_i i j
    obtain ⟨v, w, rfl, r1, r2⟩ := r.two
    unfold RepV at r1 r2
    subst r1 r2
    refine ⟨i, j, rfl, ⟨g.1.1, ?_⟩, fun p n => ?_⟩
    · rcases g.1.2 with h | h
      · exact PyProof.noPylong_small (by have := g.1.1; omega)
      · exact PyProof.noPylong_of_log2 h
    · refine Back.new q m g.2 n ?_
      unfold RepV
      exact ⟨p, _, rfl, m.free n, (.inl upd_same), .cons rInt (.cons rInt .nil)⟩
  · exact g.elim
end
end DL
set_option maxHeartbeats 2000000
/-! DLza: own errors with one attribute: made, raised. -/
namespace DL
open PySem PySem.W PySem.Calls PyProof.Rows PySem.HandSPX
/-! ### the text of __init__ -/
def eiA (f : Str) (p1 p2 : Pos) : Arguments := { posonlyargs := [], args := [{ arg := "self", annotation := none, pos := p1 }, { arg := f, annotation := none, pos := p2 }], vararg := none, kwonlyargs := [], kw_defaults := [], kwarg := none, defaults := [] }
def eiB (f : Str) (q1 q2 q3 q4 : Pos) : List Stmt := [.Assign [.Attribute (.Name "self" q1) f q2] (.Name f q3) q4]
def eiS (f : Str) : Scope := { kind := .function, names := [(PySem.Str.ofString "self", .local), (f, .local)], isGenerator := false, isCoroutine := false, more := [] }
/-- a base that errors stand under -/
structure EBase (B : String) (newId initId : String) (bm : List Value) : Prop where
  F : ExcBaseFacts B newId initId bm
  S : StoreFacts B bm "object.__setattr__" "object"
theorem eb_V : EBase "ValueError" "ValueError.__new__" "ValueError.__init__" [.type "ValueError", .type "Exception", .type "BaseException", .type "object"] := ⟨PySem.F.excBase_ValueError, PySem.F.store_ValueError⟩
theorem eb_L : EBase "LookupError" "LookupError.__new__" "LookupError.__init__" [.type "LookupError", .type "Exception", .type "BaseException", .type "object"] := ⟨PySem.F.excBase_LookupError, PySem.F.store_LookupError⟩
theorem eb_A : EBase "ArithmeticError" "ArithmeticError.__new__" "ArithmeticError.__init__" [.type "ArithmeticError", .type "Exception", .type "BaseException", .type "object"] := ⟨PySem.F.excBase_ArithmeticError, PySem.F.store_ArithmeticError⟩
theorem excInitK {K : Frag} {C : Addr} {bmB : List Value} {newId : String} (q : excInitIn K C bmB newId = true) : ∃ nm N qn bs bm hdct sn sub ab col dd k0 k1 k2 k3 k5,
    K.lookup C = some (excClassObj nm qn C N bs bm hdct sn sub ab col dd k0 k1 k2 k3 k5 newId) ∧ excTail bmB bm = true := by
  unfold excInitIn at q
  split at q
  · rename_i dd cd sl ho
    split at q
    · rename_i C' bm k0 k1 k2 k3 n k5 hm hs
      simp only [Bool.and_eq_true, beq_iff_eq, Bool.not_eq_true'] at q
      obtain ⟨⟨⟨rfl, rfl⟩, hdel⟩, ht⟩ := q
      obtain ⟨nm, bs, mro, ns, qn, hd, sn, sub, ab, col, del⟩ := cd
      dsimp only at hm hdel
      subst hm hdel
      have hsl : sl = #[k0, k1, k2, k3, some (.builtin n), k5] := by
        obtain ⟨l⟩ := sl
        simp only at hs
        rw [hs]
      subst hsl
      exact ⟨nm, ns, qn, bs, bm, hd, sn, sub, ab, col, dd, k0, k1, k2, k3, k5, ho, ht⟩
    · cases q
  · cases q
section
open Builtin Builtin.ObjectAttr
variable {prog : Program} {w : World} {A : Around} {E : Value → Shared → Prop} {R : Result → Shared → Prop} {hp : Heap} {g : Array GenState} {d : Drawn} {t : Nat} {os : OsState}
/-- the first attribute of an error -/
theorem exc_osaB {K : Frag} {name : Str} {tk : Tok} {v : Value} {x C : Addr} {fv : Array Value} {cd : ClassData} {B : String} {bm bmB : List Value}
    (SF0 : StoreFacts B bmB "object.__setattr__" "object") (X : K.In hp) (hx : hp.get? x = some { cls := .ref C, data := .fields fv }) (hcd : clsIn K C = some cd) (hm : cd.mro = .ref C :: bm) (ht : excTail bmB bm = true) (hh : cd.hasDict = true) (ha : findIn K (.ref C) name = some none)
    (hq : ∀ h' tk' dx, (∀ b o, b ≠ x → hp.get? b = some o → h'.get? b = some o) → hp.objs.size ≤ dx → dx ≠ x → h'.get? x = some { cls := .ref C, dict := some dx, data := .fields fv } →
      h'.Ns1 dx (fun y => if y = name then some v else none) → R (.ok (.ret .none)) ⟨h', g, d, tk', os⟩) :
    codeAny (model prog w) A (.call (.builtin "object.__setattr__") ⟨[.ref x, .str name tk, v], []⟩) R ⟨hp, g, d, t, os⟩ := by
  have I : InstAt hp x { cls := .ref C, data := .fields fv } C none := ⟨hx, rfl, rfl, trivial⟩
  have SF := F.store_object
  have hob : cd.mro.contains (.type "object") = true := by rw [hm, List.contains_cons, excTail_contains "object" _ ht, SF0.hasOwner, Bool.or_true]
  have ne : cd.mro.isEmpty = false := by rw [hm]; rfl
  have hxs : x ≠ hp.objs.size := Nat.ne_of_lt (Heap.lt_size hx)
  have sub : Looks (model prog w) hp (isInstance (.ref x) (.type "object")) true := I.type.andThen (looks_mroIn X (by unfold mroIn; rw [hcd, Option.bind_some, if_neg (by rw [ne]; decide), hob]))
  refine codeAny_call_builtin SF.slot.plain SF.entry (@check_slot (model prog w) _ _ ⟨hp, g, d, t, os⟩ "object.__setattr__" "object" "__setattr__" (.ref x) [.str name tk, v] [] _ SF.kind SF.split sub (SF.args (.ref x) (.str name tk) v) ?_)
  have hmr : Looks (model prog w) hp (mroOf (.ref C)) cd.mro := (looks_clsIn X hcd).andThen .now
  have L3 : Looks (model prog w) hp (storeTaker? none) none := .now
  have hcls : Looks (model prog w) hp (classData C) cd := looks_clsIn X hcd
  rw [osa_eq, refuse_eq]
  refine wpAny_bind (wpAny_bind (I.type.at (wpAny_bind (hmr.at ?_))))
  rw [hm, refuseLoop_ref, excTail_pass _ (SF0.passes _) _ ht]
  refine wpAny_pure (wpAny_bind (I.type.at (wpAny_bind ((looks_findIn X ha).at (wpAny_bind (L3.at ?_))))))
  show wpAny _ _ (storeInOwnDict (.ref x) (.ref C) (.str name tk) name v false) _ _ _
  obtain ⟨nm, bs, mro, ns, qn, hd, sn, sb, ab, col, del⟩ := cd
  dsimp only at hh
  subst hh
  unfold storeInOwnDict ownDictForStores
  repeat (first | with_reducible refine store_in_new ?_ ?_ | with_reducible refine wpAny_loadPart_at hx ?_ | with_reducible refine hcls.at ?_ | wp_step)
  · exact ⟨_, #[], _, (Heap.get?_update_ne _ _ _ _ hxs.symm).trans (Heap.get?_push_at rfl rfl), rfl, fun e he => absurd he (by simp), fun _ => rfl⟩
  · intro h' tk' hn' hs
    have hx₁ : (hp.push { cls := .type "dict", data := .dict #[] }).get? x = some { cls := .ref C, data := .fields fv } := Heap.get?_push_of_some _ hx
    refine hq h' tk' hp.objs.size (fun b o hb ho => ?_) (Nat.le_refl _) hxs.symm ?_ hn'
    · exact (hs.2 b (Nat.ne_of_lt (Heap.lt_size ho))).trans ((Heap.get?_update_ne _ _ _ _ hb).trans (Heap.get?_push_of_some _ ho))
    · exact (hs.2 x hxs).trans (Heap.get?_update_self _ hx₁ rfl)
end
/-- what the written part says of an own error c (attribute f, base B) at C, its __init__ at fI -/
structure OwnE (K : Frag) (mg : Str → Option Value) (c f : Str) (B newId initId : String) (bmB : List Value) (C fI : Addr) : Prop where
  gC : mg c = some (.ref C)
  bs : EBase B newId initId bmB
  cls : excInitIn K C bmB newId = true
  hd : hasDictIn K C = true
  sa : findIn K (.ref C) "__setattr__" = some (some (.builtin "object.__setattr__"))
  noN : findIn K (.ref C) f = some none
  iC : findIn K (.ref C) "__init__" = some (some (.ref fI))
  tC : typeIn K (.ref fI) = some (.type "function")
  kC : keepIn K (.ref C) = true
  exC : subIn K (.ref C) (.type "BaseException") = some true
  tyC : typeIn K (.ref C) = some (.type "type")
  hf : f = "given" ∨ f = "index"
  fn : ∃ (oc : Value) (od : Option Addr) (kV doc pm : Value) (an : Option Addr) (cdv ct : Value) (osl : Array (Option Value)) (qual : Str) (p1 p2 q1 q2 q3 q4 : Pos),
    K.lookup fI = some ⟨oc, od, .func (fnOf "__init__" qual (eiA f p1 p2) (eiB f q1 q2 q3 q4) (eiS f) .none kV doc pm an cdv ct), osl⟩ ∧ codeIn K cdv qual = true
theorem ldE {M : Model} {s : Shared} {name : Str} {scope : Scope} {L a : Addr} {cd : Value} {m : Str → Option Value} {x : Str} {pos : Pos} {v : Value} {Q : Value → Shared → Prop} {A : Around} {E : Value → Shared → Prop} (hn : s.heap.Ns L m) (hv : m x = some v) (h : Q v s)
    (hk : scope.kind = .function) (hl : (envOfC name scope L a cd).kindOf x = some .local) (hd : (x == ("__debug__" : Str)) = false) :
    wpAny M A (eval (.Name x pos) (envOfC name scope L a cd)) Q E s := wpAny_Name (wpAny_loadName_local hk hl hn hv h) hd
/-- what __init__ leaves of a fresh error at x -/
structure InitEndE (f : Str) (h h' : Heap) (x C dx t1 : Addr) (v : Value) : Prop where
  keep : ∀ b o, b ≠ x → h.get? b = some o → h'.get? b = some o
  obj : h'.get? x = some { cls := .ref C, dict := some dx, data := .fields #[.ref t1, .none, .none, .none, .bool false, .none] }
  dbig : h.objs.size ≤ dx
  dne : dx ≠ x
  ns : h'.Ns1 dx (fun y => if y = f then some v else none)
/-- a made error -/
structure MadeE (f : Str) (h h' : Heap) (e C d : Addr) (v : Value) : Prop where
  keep : ∀ b o, h.get? b = some o → h'.get? b = some o
  new : h.objs.size ≤ e
  obj : ∃ oe vs, h'.get? e = some oe ∧ oe.cls = .ref C ∧ oe.dict = some d ∧ oe.data = .fields vs ∧ vs[1]? = some .none ∧ vs[2]? = some .none
  dbig : h.objs.size ≤ d
  dne : d ≠ e
  ns : h'.Ns1 d (fun y => if y = f then some v else none)
theorem one_sz (v : Value) : [v].length ≤ sizeLine := by
  rw [sizeLine_eq]
  exact (by decide : 1 ≤ 16777216)
section
variable {prog : Program} {w : World} {A : Around} {E : Value → Shared → Prop} {R : Result → Shared → Prop} {s : Shared} {K : Frag} {mg : Str → Option Value} {c f : Str} {B newId initId : String} {bmB : List Value} {C fI : Addr}
theorem init_E (T : OwnE K mg c f B newId initId bmB C fI) {x t0 : Addr} {v : Value} (X : K.In s.heap) (hlim : s.heap.NoLimit) (hx : s.heap.get? x = some (excO C t0)) (hroom : A.depth < recursionLimit)
    (hq : ∀ h' tk dx, InitEndE f s.heap h' x C dx t0 v → R (.ok (.ret .none)) { s with heap := h', toks := tk }) :
    codeAny (model prog w) A (.call (.ref fI) ⟨[.ref x, v], []⟩) R s := by
  obtain ⟨oc, od, kV, doc, pm, an, cdv, ct, osl, qual, p1, p2, q1, q2, q3, q4, ho, hcd⟩ := T.fn
  obtain ⟨nm, N, q, bs, bm, hdct, sn, sub, ab, col, dd, k0, k1, k2, k3, k5, hC, hbm⟩ := excInitK T.cls
  have hcl : clsIn K C = some { name := nm, bases := bs, mro := .ref C :: bm, ns := N, qualname := q, hasDict := hdct, slotNames := sn, subclasses := sub, abstract := ab, collection := col, hasDel := false } := by unfold clsIn; rw [hC] <;> rfl
  have hdt : hdct = true := by
    have := T.hd
    unfold hasDictIn at this
    rw [hcl] at this
    exact this
  subst hdt
  have hbind : bindArgs (fnOf "__init__" qual (eiA f p1 p2) (eiB f q1 q2 q3 q4) (eiS f) .none kV doc pm an cdv ct) ⟨[.ref x, v], []⟩ = pure [(PySem.Str.ofString "self", .ref x), (f, v)] := by
    rcases T.hf with rfl | rfl <;> first | rfl | with_unfolding_all rfl
  have hself : ∀ (L a : Addr) (cd : Value), (envOfC qual (eiS f) L a cd).kindOf "self" = some .local := fun _ _ _ => by first | rfl | with_unfolding_all rfl | kernel_rfl
  have hff : ∀ (L a : Addr) (cd : Value), (envOfC qual (eiS f) L a cd).kindOf f = some .local := fun _ _ _ => by rcases T.hf with rfl | rfl <;> first | rfl | with_unfolding_all rfl | kernel_rfl
  have hdb : (f == ("__debug__" : Str)) = false := by rcases T.hf with rfl | rfl <;> decide
  have hm1 : ∀ (L a : Addr) (cd : Value), bindL (envOfC qual (eiS f) L a cd).kindOf [(PySem.Str.ofString "self", Value.ref x), (f, v)] (fun _ => none) f = some v := fun _ _ _ => by rcases T.hf with rfl | rfl <;> first | rfl | with_unfolding_all rfl | kernel_rfl
  have hm2 : ∀ (L a : Addr) (cd : Value), bindL (envOfC qual (eiS f) L a cd).kindOf [(PySem.Str.ofString "self", Value.ref x), (f, v)] (fun _ => none) (PySem.Str.ofString "self") = some (.ref x) := fun _ _ _ => by rcases T.hf with rfl | rfl <;> first | rfl | with_unfolding_all rfl | kernel_rfl
  refine Att.call_fn (binds := [(PySem.Str.ofString "self", .ref x), (f, v)]) X hlim ho hcd hroom (BindsTo.of_eq hbind) (by rcases T.hf with rfl | rfl <;> first | rfl | decide | with_unfolding_all rfl) (fun s₁ IC => ?_) rfl rfl rfl
  obtain ⟨h₁, tk₁, rfl⟩ := IC.toInCall.same
  have k : ∀ b o, s.heap.get? b = some o → h₁.get? b = some o := IC.toInCall.keep
  have hn := IC.toInCall.ns
  have X₁ : K.In h₁ := X.keeps k
  have hx₁ := k _ _ hx
  show wpAny _ _ (execs _ _) _ _ _
  refine wpAny_execs_cons (plainObj_wpAny_Assign_Attribute ?_ (by rfl))
  refine ldE (v := v) hn (hm1 _ _ _) (ldE (v := .ref x) hn (hm2 _ _ _) ?_ rfl (hself _ _ _) (by decide)) rfl (hff _ _ _) hdb
  refine set_plain X₁ (ox := excO C t0) (od := none) ⟨hx₁, rfl, rfl, trivial⟩ T.sa ?_
  refine exc_osaB T.bs.S X₁ hx₁ hcl rfl hbm rfl T.noN (fun h₃ tk₃ dx k₃ dn dne hx₃ hn₃ => ?_)
  show wpAny _ _ (execs _ _) _ _ _
  have z : s.heap.objs.size < h₁.objs.size := hn.lt
  exact wpAny_execs_nil (hq h₃ tk₃ dx ⟨fun b o hb e => k₃ b o hb (k b o e), hx₃, Nat.le_of_lt (Nat.lt_of_lt_of_le z dn), dne, hn₃⟩)
theorem made_E (T : OwnE K mg c f B newId initId bmB C fI) {v : Value} (X : K.In s.heap) (hlim : s.heap.NoLimit) (hroom : A.depth + 1 < recursionLimit)
    (hq : ∀ h' tk e d, MadeE f s.heap h' e C d v → R (.ok (.ret (.ref e))) { s with heap := h', toks := tk }) :
    codeAny (model prog w) A (.call (.ref C) ⟨[v], []⟩) R s := by
  obtain ⟨nm, N, q, bs, bm, hdct, sn, sub, ab, col, dd, k0, k1, k2, k3, k5, hC, hbm⟩ := excInitK T.cls
  obtain ⟨hp, g, dr, tk, os⟩ := s
  have k : ∀ b o, hp.get? b = some o → ((hp.push (kdv_tup [v])).push (excO C hp.objs.size)).get? b = some o := fun b o e => Heap.get?_push_of_some _ (Heap.get?_push_of_some _ e)
  have hget : ((hp.push (kdv_tup [v])).push (excO C hp.objs.size)).get? (hp.objs.size + 1) = some (excO C hp.objs.size) := by heap_get
  refine call_own T.bs.F (fun X => excTail_contains X bm hbm) (X _ _ hC) (looks_findIn X T.iC) (fun self => bind_fn X self T.tC) (one_sz v) ?_
  refine init_E (s := ⟨(hp.push (kdv_tup [v])).push (excO C hp.objs.size), g, dr, tk, os⟩) T (X.keeps k) (hlim.keeps k) hget ?_ fun h' tk' dx ⟨k', hx, dn, dne, hns⟩ => ?_
  · show A.depth + 1 < recursionLimit
    exact hroom
  · have old : ∀ b o, hp.get? b = some o → h'.get? b = some o := fun b o e => k' b o (Nat.ne_of_lt (Nat.lt_succ_of_lt (Heap.lt_size e))) (k b o e)
    have z : hp.objs.size + 1 + 1 ≤ dx := by
      first
        | (simpa only [Heap.size_push] using dn)
        | exact dn
        | (have q := dn; rw [Heap.size_push, Heap.size_push] at q; exact q)
    exact ⟨rfl, hq h' tk' (hp.objs.size + 1) dx ⟨old, Nat.le_succ _, ⟨_, _, hx, rfl, rfl, rfl, rfl, rfl⟩, Nat.le_trans (Nat.le_trans (Nat.le_succ _) (Nat.le_succ _)) z, dne, hns⟩⟩
end
end DL
set_option maxHeartbeats 2000000
/-! DLzb: try with several clauses, each with a name or none; raise. -/
namespace L2
open PySem PySem.Spec PyProof.Rows
/-- a clause: the class, the slot of its name, the suite -/
structure Cls1 where
  c : Value
  i : Option Nat
  ts : Addr → Value → Option Addr → TS
def clr (i : Option Nat) (σ : St) : St := match i with | some i => σ.set i none | none => σ
def put1 (i : Option Nat) (a : Addr) (σ : St) : St := match i with | some i => σ.set i (some (.ref a)) | none => σ
def endsC (i : Option Nat) (D : Ends) : Ends := { nx := fun σ' H' => D.nx (clr i σ') H', rt := D.rt, bk := fun σ' H' => D.bk (clr i σ') H', ct := fun σ' H' => D.ct (clr i σ') H' }
def wGen (K : PySem.W.Frag) (Wout : WX) (D : Ends) : List Cls1 → WX
  | [] => Wout
  | q :: r => fun cls d σ H => ∃ b, PySem.W.exmOne K cls q.c = some b ∧ (b = true → ∀ a, H a = none → q.ts a cls d (endsC q.i D) (put1 q.i a σ) H) ∧ (b = false → wGen K Wout D r cls d σ H)
inductive HdsG (X : Cx) : List ExceptHandler → List Cls1 → Prop
  | nil : HdsG X [] []
  | cons {x : Str} {c : Value} {ts : Addr → Value → Option Addr → TS} {b₀ : Stmt} {suite : List Stmt} {np pos' : Pos} {hds : List ExceptHandler} {l : List Cls1} (hc : Names X x c)
      (hsu : ∀ (a : Addr) (oe : Obj) (cls : Value) (d : Option Addr) (pn : List (Addr × Obj)), L2N.Zn cls d oe → (∃ vs, oe.data = .fields vs) → PSs (X.suite a ((a, oe) :: pn)) (b₀ :: suite) (ts a cls d)) (r : HdsG X hds l) :
      HdsG X (.ExceptHandler (some (.Name x np)) none (b₀ :: suite) pos' :: hds) (⟨c, none, ts⟩ :: l)
  | as {x n : Str} {i : Nat} {c : Value} {ts : Addr → Value → Option Addr → TS} {b₀ : Stmt} {suite : List Stmt} {np pos' : Pos} {hds : List ExceptHandler} {l : List Cls1} (hN : X.N.Nodup) (hi : X.N[i]? = some n) (hln : X.env.kindOf n = some .local) (hc : Names X x c)
      (hsu : ∀ (a : Addr) (oe : Obj) (cls : Value) (d : Option Addr) (pn : List (Addr × Obj)), L2N.Zn cls d oe → (∃ vs, oe.data = .fields vs) → PSs (X.suite a ((a, oe) :: pn)) (b₀ :: suite) (ts a cls d)) (r : HdsG X hds l) :
      HdsG X (.ExceptHandler (some (.Name x np)) (some n) (b₀ :: suite) pos' :: hds) (⟨c, some i, ts⟩ :: l)
section
variable {X : Cx} {body : List Stmt} {h₀ : ExceptHandler} {hds : List ExceptHandler} {l : List Cls1} {pos : Pos} {tb : WX → TS} {Wout : WX}
theorem ps_tryG (hs : X.stack = X.env :: X.outer) (hf : X.env.frame = some X.env.locals) (tk : L2N.Takes X Wout)
    (hb : ∀ (W : WX) (pn : List (Addr × Obj)) (xe : Value → Shared → Prop), L2N.Takes (X.tr pn xe) W → PassesOwn (model X.prog X.w) X.A X.env xe → PSs (X.tr pn xe) body (tb W))
    (hh : HdsG X (h₀ :: hds) l) : PS X (.Try body (h₀ :: hds) [] [] pos) (fun D σ H => tb (wGen X.K Wout D l) D σ H) := by
  refine ⟨fun pins s σ H D I h => ?_⟩
  have ok := I.ok
  have hfr : X.A.frames = some (X.env :: X.outer) := by rw [ok.frames, hs]
  refine wpAny_Try_except ?_
  refine wpAny_mono ((hb (wGen X.K Wout D l) (X.pn ++ pins) (fun e s₁ => wpAny (model X.prog X.w) X.A (noteFrame e X.env) (fun _ s₂ => wpAny (model X.prog X.w) X.A (setFlight e none) (fun _ s₃ =>
    wpAny (model X.prog X.w) X.A (handleBy e X.env (h₀ :: hds)) (SP X pins D) X.xe s₃) X.xe s₂) X.xe s₁) (fun u s' xx => ?_) PassesOwn.looking).run [] s σ H D (I.toTry _) h) (fun f s1 hsp => ?_) (fun e s1 he => he)
  · obtain ⟨a, B, sI, pins', σ', H', cls, d, rfl, J', nb, up, sky, na, os, ag, w⟩ := xx
    have J : Inv X pins σ' H' sI := J'.ofTry ok
    have sky' : Sky B (X.env :: X.outer) a (L2N.Zn cls d) X.env.locals s'.heap := by rw [← hs]; exact sky
    show wpAny (model X.prog X.w) X.A (noteFrame (.ref a) X.env) _ _ _
    refine L2N.Sky.land L2N.Zn.steady hfr hf sky' fun h3 fl3 up3 => ?_
    have J3 : Inv X pins σ' H' { s' with heap := h3 } := J.landed nb fl3.1 (up.trans up3) os ag
    obtain ⟨oe3, vs3, he3, hz3, hd3⟩ := fl3.there
    have notFr : ∀ {h : Heap} {o : Obj} {vs : Array Value}, h.FunFrames B (X.env :: X.outer) → h.get? a = some o → o.data = .fields vs → a ∉ frs (X.env :: X.outer) := fun {h o vs} ff e dd hm => by
      obtain ⟨_, o', e', hnf⟩ := ff.mem hm
      rw [e] at e'; cases e'
      exact hnf _ dd
    have nfr := notFr fl3.2.2.1 he3 hd3
    have nL : a ≠ X.env.locals := fun z => nfr (List.mem_filterMap.mpr ⟨X.env, List.mem_cons_self, by rw [hf, z]⟩)
    have nF : a ∉ X.fs := fun hm => by
      obtain ⟨e, he, q⟩ := List.mem_filterMap.mp hm
      exact nfr (List.mem_filterMap.mpr ⟨e, List.mem_cons_of_mem _ he, q⟩)
    have S3 := J3.suite he3 hd3 na nL nF
    have test : ∀ {x : Str} {c : Value} {np : Pos} (hc : Names X x c) {Q : Value → Shared → Prop} {E : Value → Shared → Prop}, Q c { s' with heap := h3 } → wpAny (model X.prog X.w) (X.A.mark (some (.ref a))) (eval (.Name x np) X.env) Q E { s' with heap := h3 } := fun {x c np} hc {Q E} q => by
      obtain ⟨hg, hdbg, hm | ⟨hm, hv, hnn⟩⟩ := hc
      · exact ld_glob (X := X.suite a ((a, oe3) :: (X.pn ++ pins))) S3 hg hm q hdbg
      · exact ld_blt (X := X.suite a ((a, oe3) :: (X.pn ++ pins))) S3 hg hm hv q hnn hdbg
    have LT : PySem.W.Looks (model X.prog X.w) h3 (typeOf (.ref a)) cls := fun A Q E s k q => wpAny_typeOf_ref (k _ _ he3) (by rw [hz3.1]; exact q)
    have go : ∀ {hds' : List ExceptHandler} {l' : List Cls1}, HdsG X hds' l' → wGen X.K Wout D l' cls d σ' H' →
        wpAny (model X.prog X.w) X.A (handleBy (.ref a) X.env hds') (SP X pins D) X.xe { s' with heap := h3 } := by
      intro hds' l' hk
      induction hk with
      | nil =>
        intro w
        refine wpAny_handleBy_nil ?_
        obtain ⟨k1, k2, k3, oe, vs, T, oT, ts', he, hz, hd, h1, hr⟩ := id fl3
        unfold PySem.passOn
        refine wpAny_bind (wpAny_field he hd h1 ?_)
        rw [if_neg (show ¬ ((Value.ref T == Value.none) = true) from by simp)]
        have fin : wpAny (model X.prog X.w) X.A (setFlight (.ref a) X.env.frame) (fun _ s4 => wpAny (model X.prog X.w) X.A (throw (.ref a) : Sem Flow) (SP X pins D) X.xe s4) X.xe { s' with heap := h3 } := by
          rw [hf]
          refine HandSPX.setFlight_upZ fl3 fun h4 hh4 up4 => wpAny_throw (tk _ _ ?_)
          exact ⟨a, B, sI, pins, σ', H', cls, d, rfl, J, nb, (up.trans up3).trans up4, .inr (.inr (by rw [hs]; exact hh4)), na, os, ag, w⟩
        first
          | exact wpAny_bind (wpAny_pure (wpAny_bind fin))
          | exact wpAny_bind fin
      | @cons x c ts b₀ suite np pos' hds2 l2 hc hsu r ih =>
        intro w
        obtain ⟨b, hb1, hyes, hno⟩ := w
        refine wpAny_handleBy_cons (codeAny_handlers_test ?_) (by intro q; cases q)
        have LM := PySem.W.exm_one (M := model X.prog X.w) (J3.kIn) LT hb1
        refine test hc (LM.here ?_)
        cases b with
        | true =>
          refine codeAny_handlers_suite ?_
          refine HandSPX.lands_againZ fl3 fun h4 fl4 up4 => ?_
          have J4 : Inv X pins σ' H' { s' with heap := h4 } := J.landed nb fl4.1 ((up.trans up3).trans up4) os ag
          obtain ⟨oe4, vs4, he4, hz4, hd4⟩ := fl4.there
          have S4 := J4.suite he4 hd4 na nL nF
          refine wpAny_mono ((hsu a oe4 cls d (X.pn ++ pins) hz4 ⟨_, hd4⟩).run [] _ _ H' _ S4 (hyes rfl a na)) (fun f s6 hsp => ?_) (fun _ _ z => False.elim z)
          cases f with
          | next =>
            obtain ⟨σ6, H6, S6, q6⟩ := hsp
            exact ⟨_, _, S6.unsuite ok, q6⟩
          | brk =>
            obtain ⟨σ6, H6, S6, q6⟩ := hsp
            exact ⟨_, _, S6.unsuite ok, q6⟩
          | cont =>
            obtain ⟨σ6, H6, S6, q6⟩ := hsp
            exact ⟨_, _, S6.unsuite ok, q6⟩
          | ret u =>
            obtain ⟨v6, σ6, H6, S6, r6, q6⟩ := hsp
            exact ⟨_, _, _, S6.unsuite ok, r6, q6⟩
        | false =>
          show wpAny _ X.A (handleBy (.ref a) X.env hds2) _ _ _
          exact ih (hno rfl)
      | @as x n i c ts b₀ suite np pos' hds2 l2 hN hi hln hc hsu r ih =>
        intro w
        obtain ⟨b, hb1, hyes, hno⟩ := w
        have hloc : Loc X.env.scope n := .inl hln
        refine wpAny_handleBy_cons (codeAny_handlers_test ?_) (by intro q; cases q)
        have LM := PySem.W.exm_one (M := model X.prog X.w) (J3.kIn) LT hb1
        refine test hc (LM.here ?_)
        cases b with
        | true =>
          refine codeAny_handlers_suite_as ?_
          refine HandSPX.lands_againZ fl3 fun h4 fl4 up4 => ?_
          have J4 : Inv X pins σ' H' { s' with heap := h4 } := J.landed nb fl4.1 ((up.trans up3).trans up4) os ag
          obtain ⟨oe4, vs4, he4, hz4, hd4⟩ := fl4.there
          have S4 := J4.suite he4 hd4 na nL nF
          refine store_ok (X := X.suite a ((a, oe4) :: (X.pn ++ pins))) (v := .ref a) S4 hN hi hloc rfl (fun s5 S5 => ?_) (.inr hln)
          refine wpAny_mono ((hsu a oe4 cls d (X.pn ++ pins) hz4 ⟨_, hd4⟩).run [] s5 _ H' _ S5 (hyes rfl a na)) (fun f s6 hsp => ?_) (fun _ _ z => False.elim z)
          have end_ : ∀ {σ6 : St} {H6 : Hp} {Q : Shared → Prop}, Inv (X.suite a ((a, oe4) :: (X.pn ++ pins))) [] σ6 H6 s6 → (∀ s7, Inv X pins (σ6.set i none) H6 s7 → Q s7) →
              wpAny (model X.prog X.w) X.A (do bindName X.env n .none; unbindBehindTheSuite X.env n pos') (fun _ s7 => Q s7) X.xe s6 := fun {σ6 H6 Q} S6 hq => gone_ok (S6.unsuite ok) hN hi hln hq
          cases f with
          | next =>
            obtain ⟨σ6, H6, S6, q6⟩ := hsp
            exact end_ S6 fun s7 J7 => ⟨_, _, J7, q6⟩
          | brk =>
            obtain ⟨σ6, H6, S6, q6⟩ := hsp
            exact end_ S6 fun s7 J7 => ⟨_, _, J7, q6⟩
          | cont =>
            obtain ⟨σ6, H6, S6, q6⟩ := hsp
            exact end_ S6 fun s7 J7 => ⟨_, _, J7, q6⟩
          | ret u =>
            obtain ⟨v6, σ6, H6, S6, r6, q6⟩ := hsp
            exact end_ S6 fun s7 J7 => ⟨_, _, _, J7, r6, q6⟩
        | false =>
          show wpAny _ X.A (handleBy (.ref a) X.env hds2) _ _ _
          exact ih (hno rfl)
    exact go hh w
  · cases f with
    | next =>
      obtain ⟨σ', H', J', q⟩ := hsp
      exact wpAny_execs_nil ⟨σ', H', J'.ofTry ok, q⟩
    | brk =>
      obtain ⟨σ', H', J', q⟩ := hsp
      exact ⟨σ', H', J'.ofTry ok, q⟩
    | cont =>
      obtain ⟨σ', H', J', q⟩ := hsp
      exact ⟨σ', H', J'.ofTry ok, q⟩
    | ret u =>
      obtain ⟨v, σ', H', J', r, q⟩ := hsp
      exact ⟨v, σ', H', J'.ofTry ok, r, q⟩
end
end L2
namespace DL
open PySem PySem.Spec L2
/-! ### raise c(e) -/
theorem relO_one {v : V} {v' : Value} {g : Str} (r : RelV v v') (f : Str) : RelO (List.lookup f [(g, v)]) (if f = g then some v' else none) := by
  by_cases hw : f = g
  · subst hw
    rw [if_pos rfl]
    have q : List.lookup f [(f, v)] = some v := by simp [List.lookup]
    rw [q]
    exact r
  · rw [if_neg hw]
    have qw : (f == g) = false := by simpa using hw
    have q2 : List.lookup f [(g, v)] = none := by simp [List.lookup, qw]
    rw [q2]
    trivial
def OwnEN (K : PySem.W.Frag) (mg : Str → Option Value) (c f : Str) : Prop := ∃ Bn n i bm C fI, OwnE K mg c f Bn n i bm C fI
section
variable {X : Cx} {B : At}
def tMkE (C : Addr) (f : Str) (ta : TA) : L2.St → Hp → XK → Prop := fun σ H Q => ta σ H fun vs H1 => ∃ v, vs = [v] ∧ ∀ d, H1 d = none → Q (.ref C) (some d) (upd H1 d (.xd [(f, v)]))
theorem pmk_E {c f : Str} {Bn newId initId : String} {bmB : List Value} {C fI : Addr} {a : Expr} {ta : TA} {p pos : Pos} {k : Nat} (T : OwnE X.K X.mg c f Bn newId initId bmB C fI) (hr : Room k X.A) (ha : PA X [a] ta) (hg : Gl X c)
    (hdb : (c == ("__debug__" : Str)) = false := by decide) (he : starEach (a :: []) X.env = (false, eval a X.env) :: starEach [] X.env := by rfl) (hpl : (backTo pos (starEach [] X.env)).any (·.1) = false := by rfl) :
    L2N.PMk X (.Call (.Name c p) [a] [] pos) (tMkE C f ta) := by
  intro pins s σ H Q I h
  refine wpAny_Call_Name_kw (ld_glob I hg T.gC ?_ hdb)
  refine PySem.W.callWith_K (h₀ := X.base) I.ok.mod.kin T.kC (thn (ha.run pos pins s σ H _ I h) fun us s1 hh => ?_) he hpl
  obtain ⟨vs, H1, I1, r1, v, ev, q1⟩ := hh
  subst ev
  refine ⟨I1.kIn, ?_⟩
  cases r1 with
  | cons rv rn =>
    rename_i v' us'
    cases rn
    show wpAny _ _ (call (.ref C) [v']) _ _ _
    have hlim := I1.nolimit
    obtain ⟨hp, g, dr, tk, os⟩ := s1
    refine wpAny_call (made_E T I1.kIn hlim (by have := hr.dp; omega) fun h' tk' e d M => ?_)
    show L2N.MkP X pins σ Q (.ref e) ⟨h', g, dr, tk', os⟩
    obtain ⟨oe, fv, hoe, hc, hd, hdat, h1, h2c⟩ := M.obj
    have hns := M.ns
    obtain ⟨G', g1, g2⟩ := restrict h' fun b => decide (b ≠ e)
    have gk : ∀ b, b ≠ e → G'.get? b = h'.get? b := fun b hb => g1 b (decide_eq_true hb)
    have ge : G'.get? e = none := g2 e (by simp)
    have old : ∀ b o, hp.get? b = some o → G'.get? b = some o := fun b o q => (gk b (Nat.ne_of_lt (Nat.lt_of_lt_of_le (Heap.lt_size q) M.new))).trans (M.keep b o q)
    have ob : ObjOk X.prog X.w (upd H1 d (.xd [(f, v)])) G' d (.xd [(f, v)]) :=
      ⟨_, hns.at (fun o q => (gk d M.dne).trans q), fun y => relO_one rv y⟩
    have J : Inv X pins σ (upd H1 d (.xd [(f, v)])) ⟨G', g, dr, tk', os⟩ := I1.laid (t' := tk') old M.dbig ob
    refine ⟨e, oe, fv, ⟨G', g, dr, tk', os⟩, _, .ref C, some d, rfl, J, fun b o q => ?_, ge, hoe, ⟨hc, hd, fun vs e => by rw [hdat] at e; cases e; exact h2c⟩, hdat, h1, ?_, rfl, I1.bare, raises_own T.exC T.tyC, q1 d (I1.hok.fresh M.dbig)⟩
    · by_cases hb : b = e
      · have q' : G'.get? b = some o := q
        rw [hb, ge] at q'; cases q'
      · exact (gk b hb).symm.trans q
    · rw [upd_ne (Ne.symm M.dne)]
      exact I1.hok.fresh M.new
def dRaise (c f : Str) (W : DW') (t : TDs) : TDS := fun _ ρ M => t ρ M fun ds M1 => match ds with | [d] => W ⟨c, [(f, d)]⟩ ρ M1 | _ => False
theorem ds_raise {k : Nat} {c f : Str} {W : DW'} {a : Expr} {t : TDs} {p pos pos2 : Pos} (hc : X.calm = true) (T : OwnEN X.K X.mg c f) (cy : Cy X.A k) (tk : DTk X B W) (ha : DA X B [a] t) (hg : Gl X c)
    (hdb : (c == ("__debug__" : Str)) = false := by decide) (he : starEach (a :: []) X.env = (false, eval a X.env) :: starEach [] X.env := by rfl) (hpl : (backTo pos (starEach [] X.env)).any (·.1) = false := by rfl) :
    DS X B (.Raise (some (.Call (.Name c p) [a] [] pos)) none pos2) (dRaise c f W t) := by
  obtain ⟨Bn, n, i, bm, C, fI, T⟩ := T
  refine PS.imp (L2N.ps_raise hc tk (pmk_E T cy.room ha hg hdb he hpl)) fun D σ H h => ?_
  obtain ⟨C0, ρ, M, E, kb, hh, le, h⟩ := h
  refine ⟨ρ, M, _, hh.base kb, h, fun ds M1 vs H1 h1 k1 m1 r1 => ?_⟩
  split at h1
  · rename_i d
    obtain ⟨v, rfl, r0⟩ := r1.one
    refine ⟨v, rfl, fun dx n => ?_⟩
    have kn : Keep M1 H1 M1 (upd H1 dx (.xd [(f, v)])) := Keep.new m1 n
    refine ⟨ρ, M1, ⟨c, [(f, d)]⟩, ((hh.base kb).step k1 m1).step kn (m1.new n), ⟨.inl ⟨C, T.gC, rfl⟩, .inr ⟨dx, _, rfl, m1.free n, upd_same, rfl, ?_⟩⟩, h1⟩
    exact .cons (RepV.keep kn _ _ r0) .nil
  · exact h1.elim
end
end DL
set_option maxHeartbeats 4000000
/-! DLzc: isinstance of a caught error that has attributes. -/
namespace DL
open PySem PySem.W PySem.Spec PySem.Calls PyProof.Rows
section
variable {prog : Program} {w : World} {A : Around} {E : Value → Shared → Prop} {s : Shared} {K : Frag} {x D : Addr} {ox : Obj} {od : Option Obj}
theorem kin_classX {Q : Option Value → Shared → Prop} (c : L2.ExcC K D) (X : K.In s.heap) (I : InstAt s.heap x ox D od) (h : Q (some (.ref D)) { s with toks := s.toks + 1 }) : wpAny (model prog w) A (getAttr? (.ref x) "__class__") Q E s := by
  have hf : findObj K D od "__class__" = some (.bind (.builtin "getset_descriptor.__get__") (.builtin "object.__class__")) := by
    have hs : (clsIn K D).isSome = true := by obtain ⟨cd, hc, _⟩ := any_some c.hd; rw [hc]; rfl
    cases od with
    | none => exact PySem.W.findObj_dataN hs c.ha c.hn c.ht
    | some o => exact PySem.W.findObj_data hs c.ha c.hn c.ht
  obtain ⟨hp, g, d, t, os⟩ := s
  have L0 := I.type (M := model prog w)
  have L1 := looks_findIn (M := model prog w) X c.hg
  have L2 := looks_findIn (M := model prog w) X c.hk
  have L3 := looks_find (M := model prog w) X I hf
  have sub : Looks (model prog w) hp (isInstance (.ref x) (.type "BaseException")) true := L0.andThen (looks_subIn X c.hs)
  have hx0 : (false && onTheHeap (Value.builtin "BaseException.__getattribute__")) = false := rfl
  have hx2 : (Value.builtin "BaseException.__getattribute__" == Value.builtin "object.__getattribute__") = false := by decide +kernel
  have hx1 : (onTheHeap (Value.ref D) && Value.builtin "BaseException.__getattribute__" == Value.builtin "object.__getattribute__") = false := by rw [hx2]; rfl
  unfold getAttr? getAttrBy? getAttrBy
  refine wpAny_bind (wpAny_mkText (wpAny_bind (wpAny_attempt (wpAny_holding (wpAny_bind (L0.at (wpAny_bind (L1.at ?_))))))))
  show wpAny _ _ (if (onTheHeap (Value.ref D) && Value.builtin "BaseException.__getattribute__" == Value.builtin "object.__getattribute__") = true then _ else _) _ _ _
  rw [hx1, if_neg Bool.false_ne_true]
  unfold getAttrByItsOwn hookBefore
  refine wpAny_bind ?_
  rw [if_pos (show onTheHeap (Value.ref D) = true from rfl)]
  refine L2.at ?_
  refine wpAny_bind (wpAny_attempt (wpAny_holding ?_))
  unfold callGetattribute
  rw [hx0, if_neg Bool.false_ne_true]
  unfold boundAndCalled
  rw [PySem.F.excAttr_ValueError.ga.bind (.ref x)]
  refine wpAny_bind (wpAny_pure ?_)
  show wpAny _ _ (call (.builtin "BaseException.__getattribute__") [.ref x, .str "__class__" t]) _ _ _
  refine wpAny_call (codeAny_call_builtin PySem.F.excAttr_ValueError.ga.plain PySem.F.entry_bexc_ga ?_)
  refine @check_slot (model prog w) _ _ ⟨hp, g, d, t + 1, os⟩ "BaseException.__getattribute__" "BaseException" "__getattribute__" (.ref x) [.str "__class__" t] [] _ (by decide +kernel) (by decide +kernel) sub (PySem.F.args_bexc_ga (.ref x) (.str "__class__" t)) ?_
  unfold Builtin.«object.__getattribute__»
  refine wpAny_bind (wpAny_of_eq (a := ((Value.ref x : Value), [Value.str "__class__" t])) (by first | rfl | (simp only [slotArgs]; rfl)) ?_)
  refine wpAny_bind (wpAny_pure (wpAny_bind (L0.at (wpAny_bind (L3.at ?_)))))
  show wpAny _ _ (holding [Value.builtin "object.__class__"] (call (.builtin "getset_descriptor.__get__") [.builtin "object.__class__", .ref x, .ref D]) >>= ret) _ _ _
  refine wpAny_bind (wpAny_holding (wpAny_call (class_get (s := ⟨hp, g, d, t + 1, os⟩) (ox := ox) (od := od) X I c.hm ?_)))
  refine wpAny_pure ?_
  show wpAny _ _ (handedOut (.ref D)) _ _ _
  rw [handedOut_of (v := .ref D) rfl]
  first
    | exact wpAny_pure (wpAny_pure h)
    | exact wpAny_pure h
    | exact wpAny_pure (wpAny_bind (wpAny_pure (wpAny_pure h)))
theorem kitx_X (c : L2.ExcC K D) : KitX K (.ref x) (.ref D) (fun h => ∃ od, InstAt h x ox D od) where
  ty := fun _ _ _ ⟨_, I⟩ => I.type
  it := fun _ _ X _ => by
    obtain ⟨cdD, hcD, _⟩ := any_some c.hd
    unfold clsIn at hcD
    split at hcD
    · rename_i c' d' cd' sl' ho
      intro A' Q' E' s' k q
      unfold isType loadHead
      exact wpAny_bind (wpAny_loadPart (k _ _ (X _ _ ho)) (wpAny_pure q))
    · cases hcD
  ne := fun h tp dd its n sl X htp => by
    obtain ⟨cdD, hcD, _⟩ := any_some c.hd
    refine Bool.eq_false_iff.mpr fun q => ?_
    have e : D = tp := Value.ref.inj (beq_iff_eq.mp q)
    subst e
    unfold clsIn at hcD
    split at hcD
    · rename_i c' d' cd' sl' ho
      have z := (X _ _ ho).symm.trans htp
      cases z
    · cases hcD
  ca := fun X ⟨_, I⟩ k => kin_classX c X I k
end
end DL
namespace DL
open PySem PySem.Spec L2
/-! ### a caught error -/
/-- the class c' is caught (or not) by a clause of the class c -/
def ExmN (K : PySem.W.Frag) (mg : Str → Option Value) (c' c : Str) (b : Bool) : Prop := ∃ v' C, ClsV mg c' v' ∧ mg c = some (.ref C) ∧ PySem.W.exmOne K v' (.ref C) = some b
def XfN (K : PySem.W.Frag) (mg : Str → Option Value) (c f : Str) : Prop := ∃ C, mg c = some (.ref C) ∧ XfC K C ∧ PySem.W.findIn K (.ref C) f = some none
/-- isinstance of errors of the class c' -/
inductive Cq where
  | own (c : Str) | ty (n : String)
def Cq.d : Cq → D
  | .own c => .cls c
  | .ty n => .ty n
def Cq.val (mg : Str → Option Value) : Cq → Value → Prop
  | .own c, v => ∃ C, mg c = some (.ref C) ∧ v = .ref C
  | .ty n, v => v = .type n
def IseN (K : PySem.W.Frag) (mg : Str → Option Value) (c' : Str) (q : Cq) (b : Bool) : Prop := ∃ C' v, mg c' = some (.ref C') ∧ q.val mg v ∧ ExcC K C' ∧ PySem.W.kitOne K (.ref C') v = some b
section
variable {X : Cx} {B : At} {a : Addr} {oe : Obj} {cls : Value} {d : Option Addr} {pn : List (Addr × Obj)} {x : XD}
theorem Here.repX {ρ : Rho} {σ : L2.St} {M : Mp} {H : Hp} (r : RepX X.K X.mg B.M B.H x cls d) (h : Here X B ρ σ M H) : RepX X.K X.mg M H x cls d := RepX.keep h.k r
def dXf (a : Addr) (x : XD) (cs : List Str) (f : Str) (te : TD) : TD := fun ρ M Q => te ρ M fun dd M1 => (dd = .ref a ∧ cs.contains x.c = true) ∧ match x.fs.lookup f with
  | some v => Q v M1
  | none => False
theorem look_F {K : PySem.W.Frag} {mg : Str → Option Value} {M : Mp} {H : Hp} {f : Str} {v : D} {fs : List (Str × D)} {gs : List (Str × V)} (r : RepF K mg M H fs gs) (h : fs.lookup f = some v) : ∃ w, gs.lookup f = some w ∧ RepV K mg M H v w :=
  look_zip (ns := fs.map (·.1)) (xs := fs.map (·.2)) r.1 r.2 (by rw [zip_maps]; exact h)
theorem de_xf {cs : List Str} {f : Str} {e : Expr} {te : TD} {pos : Pos} (hx : ∀ c ∈ cs, XfN X.K X.mg c f) (hz : L2N.Zn cls d oe) (hf : ∃ vs, oe.data = .fields vs) (r : RepX X.K X.mg B.M B.H x cls d) (he : DE (X.suite a ((a, oe) :: pn)) B e te)
    (hb : attributeBase e f X.env (eval e X.env) = eval e X.env := by rfl) : DE (X.suite a ((a, oe) :: pn)) B (.Attribute e f pos) (dXf a x cs f te) := by
  by_cases hm : x.c ∈ cs
  · obtain ⟨C, hC, T, hno⟩ := hx _ hm
    refine PE.imp (pe_xf T hno hz.zc hf he hb) fun σ H Q h => ?_
    obtain ⟨ρ, M, R, hh, h, q⟩ := h
    refine ⟨ρ, M, _, hh, h, fun dd M1 v H1 h1 k1 m1 r1 => ?_⟩
    obtain ⟨⟨rfl, hcs⟩, h1⟩ := h1
    have rx := RepX.keep k1 (Here.repX (X := X) r ⟨hh.s, hh.m, hh.k⟩)
    unfold RepV at r1
    obtain ⟨hcv, rf⟩ := rx
    have ec := hcv.own hC
    refine ⟨r1, ec, ?_⟩
    split at h1
    · rename_i v0 e0
      rcases rf with rf | ⟨dx, gs, ed, nd, hd, rf⟩
      · rw [rf.1] at e0; cases e0
      · obtain ⟨w, e1, rw1⟩ := look_F rf e0
        exact ⟨dx, gs, w, ed, hd, e1, q _ _ _ _ h1 k1 m1 rw1⟩
    · exact h1.elim
  · refine ⟨fun pins s σ H Q I h => ?_⟩
    obtain ⟨ρ, M, R, hh, h, q⟩ := h
    refine attr_of hb (thn (he.run pins s σ H (fun _ _ => False) I ⟨ρ, M, _, hh, h, fun dd M1 v H1 h1 k1 m1 r1 => ?_⟩) fun u s1 hh => ?_)
    · have := h1.1.2
      rw [List.contains_iff_mem] at this
      exact absurd this hm
    · obtain ⟨_, _, _, _, z⟩ := hh
      exact z.elim
/-- isinstance(e, c) -/
def dIsE (a : Addr) (x : XD) (q : Cq) (lk : List (Str × Bool)) (t : TDs) : TD := fun ρ M Q => t ρ M fun ds M1 => ds = [.ref a, q.d] ∧ match lk.lookup x.c with
  | some b => Q (.bl b) M1
  | none => False
theorem de_isE {xn : Str} {e : Expr} {es : List Expr} {q : Cq} {lk : List (Str × Bool)} {t : TDs} {p pos : Pos} (hl : ∀ c b, lk.lookup c = some b → IseN X.K X.mg c q b) (hz : L2N.Zn cls d oe) (hf : ∃ vs, oe.data = .fields vs) (r : RepX X.K X.mg B.M B.H x cls d)
    (hg : Gl X xn) (hm : X.mg xn = none) (hv : bootBuiltins xn = some (.builtin "isinstance")) (ha : DA (X.suite a ((a, oe) :: pn)) B (e :: es) t)
    (hn : xn ≠ "__name__" := by decide) (hdb : (xn == ("__debug__" : Str)) = false := by decide) (he : starEach (e :: es) X.env = (false, eval e X.env) :: starEach es X.env := by rfl) (hpl : (backTo pos (starEach es X.env)).any (·.1) = false := by rfl) :
    DE (X.suite a ((a, oe) :: pn)) B (.Call (.Name xn p) (e :: es) [] pos) (dIsE a x q lk t) := by
  obtain ⟨hcv, _⟩ := id r
  rcases hcv with ⟨C', hC', ec⟩ | ⟨_, hnone, _⟩
  rotate_left
  · have cr : CallR (X.suite a ((a, oe) :: pn)) (.builtin "isinstance") (fun xs H Q => False) := fun pins s σ H xs us Q I rr h => h.elim
    refine PE.imp (pe_callB cr hg hm hv ha hn hdb he hpl) fun σ H Q h => ?_
    obtain ⟨ρ, M, R, hh, h, qq⟩ := h
    refine ⟨ρ, M, _, hh, h, fun ds M1 vs H1 h1 k1 m1 r1 => ?_⟩
    obtain ⟨_, h1⟩ := h1
    split at h1
    · rename_i b e0
      obtain ⟨C2, v, hC2, _⟩ := hl _ _ e0
      rw [hnone] at hC2
      cases hC2
    · exact h1.elim
  have cr : CallR (X.suite a ((a, oe) :: pn)) (.builtin "isinstance") (fun xs H Q => ∃ (c : V) (b : Bool), xs = [.ref a, c] ∧ (∃ v, (∀ u, RelV c u → u = v) ∧ ExcC X.K C' ∧ PySem.W.kitOne X.K (.ref C') v = some b) ∧ (d = none ∨ ∃ dx gs, d = some dx ∧ H dx = some (.xd gs)) ∧ Q (.bl b) H) := by
    intro pins s σ H xs us Q I rr h
    obtain ⟨c, b, rfl, ⟨v, hcv, CC, ek⟩, hdd, q⟩ := h
    cases rr with
    | cons rx rr =>
      cases rr with
      | cons rt rr =>
        cases rr
        cases rx
        have e2 := hcv _ rt
        subst e2
        obtain ⟨hget, _⟩ := I.pin (a, oe) (List.mem_append.mpr (.inl List.mem_cons_self))
        obtain ⟨vs, hv⟩ := hf
        have J : ∃ od, PySem.W.InstAt s.heap a oe C' od := by
          obtain ⟨oc, od, oda, osl⟩ := oe
          obtain ⟨h1, h2, h3⟩ := hz
          dsimp only at h1 h2 hv
          subst h1 h2 hv
          rcases hdd with rfl | ⟨dx, gs, rfl, ed⟩
          · exact ⟨none, hget, ec, rfl, trivial⟩
          · have hx : ObjOk X.prog X.w H s.heap dx (.xd gs) := I.hok dx _ ed
            obtain ⟨mA, hns, hr⟩ := hx
            obtain ⟨o, ho, hl⟩ := lookIn_ns hns
            exact ⟨some o, hget, ec, rfl, ho⟩
        exact PySem.W.kia_one (kitx_X CC) I.kIn J ek (fun z => nomatch z) fun tk => ⟨.bl b, H, I.kept (t' := tk) fun _ _ z => z, rfl, q⟩
  refine PE.imp (pe_callB cr hg hm hv ha hn hdb he hpl) fun σ H Q h => ?_
  obtain ⟨ρ, M, R, hh, h, qq⟩ := h
  refine ⟨ρ, M, _, hh, h, fun ds M1 vs H1 h1 k1 m1 r1 => ?_⟩
  obtain ⟨rfl, h1⟩ := h1
  split at h1
  · rename_i b e0
    obtain ⟨C2, v, hC2, hv2, CC, ek⟩ := hl _ _ e0
    rw [hC'] at hC2
    cases hC2
    obtain ⟨v1, v2, rfl, ra, rb⟩ := r1.two
    unfold RepV at ra
    subst ra
    have rx := RepX.keep k1 (Here.repX (X := X) r ⟨hh.s, hh.m, hh.k⟩)
    refine ⟨v2, b, rfl, ⟨v, fun u ru => ?_, CC, ek⟩, ?_, qq _ _ _ _ h1 k1 m1 rBl⟩
    rotate_left
    · rcases rx.2 with ⟨_, e | e⟩ | ⟨dx, gs, ed, _, hd, _⟩
      · exact .inl e
      · rw [hC'] at e; cases e
      · exact .inr ⟨dx, gs, ed, hd⟩
    cases q with
    | own c =>
      obtain ⟨C, e1, rfl⟩ := hv2
      unfold Cq.d RepV at rb
      obtain ⟨C3, rfl, e3⟩ := rb
      have e1 : X.mg c = some (.ref C) := e1
      have e3 : X.mg c = some (.ref C3) := e3
      rw [e1] at e3
      cases e3
      exact ru
    | ty n =>
      unfold Cq.d RepV at rb
      subst rb
      have : v = .type n := hv2
      subst this
      exact ru
  · exact h1.elim
end
end DL
set_option maxHeartbeats 2000000
/-! DLzd: try .. except over data. -/
namespace DL
open PySem PySem.Spec L2
structure DCl where
  lk : List (Str × Bool)
  i : Option Nat
  ts : Addr → XD → TDS
def dclr (i : Option Nat) (ρ : Rho) : Rho := match i with | some i => ρ.set i none | none => ρ
def dput (i : Option Nat) (a : Addr) (ρ : Rho) : Rho := match i with | some i => ρ.set i (some (.ref a)) | none => ρ
def dEndsC (i : Option Nat) (E : DEnds) : DEnds := { nx := fun ρ M => E.nx (dclr i ρ) M, rt := E.rt, bk := fun ρ M => E.bk (dclr i ρ) M, ct := fun ρ M => E.ct (dclr i ρ) M }
def dHds : List DCl → DEnds → DW' → DW'
  | [], _, Wout => Wout
  | q :: r, E, Wout => fun x ρ M => match q.lk.lookup x.c with
    | some true => ∀ a, M a = none → q.ts a x (dEndsC q.i E) (dput q.i a ρ) M
    | some false => dHds r E Wout x ρ M
    | none => False
def dTry (l : List DCl) (tb : DW' → TDS) (Wout : DW') : TDS := fun E ρ M => tb (dHds l E Wout) E ρ M
section
variable {X : Cx} {B : At}
/-- what a clause's suite reads, over the heap -/
def tsD (X : Cx) (ts : Addr → XD → TDS) : Addr → Value → Option Addr → TS := fun a cls d D σ H => ∃ (C : At) (x : XD), RepX X.K X.mg C.M C.H x cls d ∧ lftS X C (ts a x) D σ H
inductive HdsD (X : Cx) : List ExceptHandler → List DCl → List Cls1 → Prop
  | nil : HdsD X [] [] []
  | cons {x : Str} {C : Addr} {lk : List (Str × Bool)} {ts : Addr → XD → TDS} {b₀ : Stmt} {suite : List Stmt} {np pos' : Pos} {hds : List ExceptHandler} {l : List DCl} {l' : List Cls1} (hg : Gl X x) (hdb : (x == ("__debug__" : Str)) = false) (hc : X.mg x = some (.ref C))
      (hlk : ∀ c b, lk.lookup c = some b → ExmN X.K X.mg c x b)
      (hsu : ∀ (a : Addr) (oe : Obj) (cls : Value) (d : Option Addr) (pn : List (Addr × Obj)) (B' : At) (x' : XD), L2N.Zn cls d oe → (∃ vs, oe.data = .fields vs) → RepX X.K X.mg B'.M B'.H x' cls d → DSs (X.suite a ((a, oe) :: pn)) B' (b₀ :: suite) (ts a x')) (r : HdsD X hds l l') :
      HdsD X (.ExceptHandler (some (.Name x np)) none (b₀ :: suite) pos' :: hds) (⟨lk, none, ts⟩ :: l) (⟨.ref C, none, tsD X ts⟩ :: l')
  | as {x n : Str} {i : Nat} {C : Addr} {lk : List (Str × Bool)} {ts : Addr → XD → TDS} {b₀ : Stmt} {suite : List Stmt} {np pos' : Pos} {hds : List ExceptHandler} {l : List DCl} {l' : List Cls1} (hN : X.N.Nodup) (hi : X.N[i]? = some n) (hln : X.env.kindOf n = some .local)
      (hg : Gl X x) (hdb : (x == ("__debug__" : Str)) = false) (hc : X.mg x = some (.ref C)) (hlk : ∀ c b, lk.lookup c = some b → ExmN X.K X.mg c x b)
      (hsu : ∀ (a : Addr) (oe : Obj) (cls : Value) (d : Option Addr) (pn : List (Addr × Obj)) (B' : At) (x' : XD), L2N.Zn cls d oe → (∃ vs, oe.data = .fields vs) → RepX X.K X.mg B'.M B'.H x' cls d → DSs (X.suite a ((a, oe) :: pn)) B' (b₀ :: suite) (ts a x')) (r : HdsD X hds l l') :
      HdsD X (.ExceptHandler (some (.Name x np)) (some n) (b₀ :: suite) pos' :: hds) (⟨lk, some i, ts⟩ :: l) (⟨.ref C, some i, tsD X ts⟩ :: l')
theorem HdsD.g {hds : List ExceptHandler} {l : List DCl} {l' : List Cls1} (h : HdsD X hds l l') : HdsG X hds l' := by
  induction h with
  | nil => exact .nil
  | cons hg hdb hc hlk hsu r ih =>
    refine .cons ⟨hg, hdb, .inl hc⟩ (fun a oe cls d pn hz hf => ⟨fun pins s σ H D I h => ?_⟩) ih
    obtain ⟨C, x, rx, h⟩ := h
    exact (hsu a oe cls d pn C x hz hf rx).run pins s σ H D I h
  | as hN hi hln hg hdb hc hlk hsu r ih =>
    refine .as hN hi hln ⟨hg, hdb, .inl hc⟩ (fun a oe cls d pn hz hf => ⟨fun pins s σ H D I h => ?_⟩) ih
    obtain ⟨C, x, rx, h⟩ := h
    exact (hsu a oe cls d pn C x hz hf rx).run pins s σ H D I h
theorem EndsLeK.clr {C C' : At} (i : Option Nat) {E : DEnds} {D : Ends} (k : Keep C.M C.H C'.M C'.H) (le : EndsLe X C E D) : EndsLe X C' (dEndsC i E) (endsC i D) := by
  have hc : ∀ {ρ σ M H}, Here X C' ρ σ M H → Here X C (dclr i ρ) (L2.clr i σ) M H := fun {ρ σ M H} h => by
    have h' := h.base k
    cases i with
    | none => exact h'
    | some i => exact ⟨h'.s.clear, h'.m, h'.k⟩
  exact ⟨fun ρ σ M H h => le.nx _ _ _ _ (hc h), fun ρ σ M H h => le.bk _ _ _ _ (hc h), fun ρ σ M H h => le.ct _ _ _ _ (hc h), fun d v M H kk => le.rt d v M H (k.trans kk)⟩
theorem HereK.put1 {ρ : Rho} {σ : L2.St} {M : Mp} {H : Hp} (h : Here X B ρ σ M H) (i : Option Nat) (a : Addr) : Here X B (dput i a ρ) (L2.put1 i a σ) M H := by
  cases i with
  | none => exact h
  | some i => exact h.set (by unfold RepV; rfl)
theorem hds_le {hds : List ExceptHandler} {l : List DCl} {l' : List Cls1} {C0 : At} {E : DEnds} {D : Ends} {Wout : DW'} (kb : Keep B.M B.H C0.M C0.H) (le : EndsLe X C0 E D) (h : HdsD X hds l l') :
    ∀ cls d σ H, lftX X C0 (dHds l E Wout) cls d σ H → wGen X.K (lftX X B Wout) D l' cls d σ H := by
  induction h with
  | nil =>
    rintro cls d σ H ⟨ρ, M, x, hh, rx, w⟩
    exact ⟨ρ, M, x, hh.base kb, rx, w⟩
  | @cons xn C lk ts b₀ suite np pos' hds l l' hg hdb hc hlk hsu r ih =>
    rintro cls d σ H ⟨ρ, M, x, hh, rx, w⟩
    unfold dHds at w
    split at w
    · rename_i e
      obtain ⟨v', C2, h1, h2, h3⟩ := hlk _ _ e
      obtain ⟨h4, rf⟩ := id rx
      obtain rfl := h1.uniq h4
      rw [hc] at h2
      cases h2
      refine ⟨true, h3, fun _ a na => ?_, fun z => nomatch z⟩
      exact ⟨⟨M, H⟩, x, rx, ⟨M, H⟩, _, M, _, .rfl', HereK.put1 (X := X) (B := ⟨M, H⟩) ⟨hh.s, hh.m, .rfl'⟩ none a, EndsLeK.clr none hh.k le, w a (hh.m.free na)⟩
    · rename_i e
      obtain ⟨v', C2, h1, h2, h3⟩ := hlk _ _ e
      obtain ⟨h4, rf⟩ := id rx
      obtain rfl := h1.uniq h4
      rw [hc] at h2
      cases h2
      exact ⟨false, h3, fun z => (by cases z), fun _ => ih _ _ _ _ ⟨ρ, M, x, hh, rx, w⟩⟩
    · exact w.elim
  | @as xn n i C lk ts b₀ suite np pos' hds l l' hN hi hln hg hdb hc hlk hsu r ih =>
    rintro cls d σ H ⟨ρ, M, x, hh, rx, w⟩
    unfold dHds at w
    split at w
    · rename_i e
      obtain ⟨v', C2, h1, h2, h3⟩ := hlk _ _ e
      obtain ⟨h4, rf⟩ := id rx
      obtain rfl := h1.uniq h4
      rw [hc] at h2
      cases h2
      refine ⟨true, h3, fun _ a na => ?_, fun z => nomatch z⟩
      exact ⟨⟨M, H⟩, x, rx, ⟨M, H⟩, _, M, _, .rfl', HereK.put1 (X := X) (B := ⟨M, H⟩) ⟨hh.s, hh.m, .rfl'⟩ (some i) a, EndsLeK.clr (some i) hh.k le, w a (hh.m.free na)⟩
    · rename_i e
      obtain ⟨v', C2, h1, h2, h3⟩ := hlk _ _ e
      obtain ⟨h4, rf⟩ := id rx
      obtain rfl := h1.uniq h4
      rw [hc] at h2
      cases h2
      exact ⟨false, h3, fun z => (by cases z), fun _ => ih _ _ _ _ ⟨ρ, M, x, hh, rx, w⟩⟩
    · exact w.elim
theorem ds_try {body : List Stmt} {h₀ : ExceptHandler} {hds : List ExceptHandler} {l : List DCl} {l' : List Cls1} {pos : Pos} {tb : DW' → TDS} {Wout : DW'} (hs : X.stack = X.env :: X.outer) (hf : X.env.frame = some X.env.locals) (tk : DTk X B Wout)
    (hb : ∀ (B' : At), Keep B.M B.H B'.M B'.H → ∀ (W : DW') (pn : List (Addr × Obj)) (xe : Value → Shared → Prop), DTk (X.tr pn xe) B' W → PassesOwn (model X.prog X.w) X.A X.env xe → DSs (X.tr pn xe) B' body (tb W))
    (hh : HdsD X (h₀ :: hds) l l') : DS X B (.Try body (h₀ :: hds) [] [] pos) (dTry l tb Wout) := by
  refine PS.imp (ps_tryG (tb := fun W D σ H => ∃ (C0 : At) (WD : DW'), Keep B.M B.H C0.M C0.H ∧ (∀ cls d σ H, lftX X C0 WD cls d σ H → W cls d σ H) ∧ lftS X C0 (tb WD) D σ H) hs hf tk (fun W pn xe tk' po => ⟨fun pins s σ H D I h => ?_⟩) hh.g) fun D σ H h => ?_
  · obtain ⟨C0, WD, kb, hW, h⟩ := h
    exact (hb C0 kb WD pn xe (L2N.Takes.imp tk' fun cls d σ H q => hW _ _ _ _ q) po).run pins s σ H D I h
  · obtain ⟨C0, ρ, M, E, kb, hh0, le, h⟩ := h
    exact ⟨C0, dHds l E Wout, kb, hds_le kb le hh, C0, ρ, M, E, .rfl', hh0, le, h⟩
end
end DL
set_option maxHeartbeats 2000000
/-! DLze: a lambda without parameters handed to a def. -/
namespace DL
open PySem PySem.Spec PyProof.Rows L2 LamX
theorem Keep.extN {M : Mp} {H H1 : Hp} (e : ExtN H H1) : Keep M H M H1 := ⟨fun b o hb ht n => ⟨e b o hb ht, n⟩⟩
section
variable {M : Model} {A : Around} {E : Value → Shared → Prop} {s : Shared} {name qual : Str} {params : Arguments} {body : Expr} {scope : Scope} {env : Env} {c P : Addr} {ps : Array Value} {pos : Pos} {firstLine : Nat} {mg : Str → Option Value}
  {clos : List (Str × Addr)} {Q : Value → Shared → Prop}
/-- a function is made, its code object is new: that one's table is told too -/
theorem kla_tailN (hcl : closureFor scope env = pure clos) (hge0 : env.globals = mainGlobals) (hg : s.heap.Ns mainGlobals mg) (hcode : env.code = .ref c) (C : PySem.W.CodeHd s.heap c P) (hP : s.heap.get? P = some (PySem.W.tabObj ps)) (ht : TriplesOk ps.toList)
    (hnf : codeAmong pos ps.toList = none) (hgP : mainGlobals ≠ P) (hb : s.heap.BuiltinsAt mg P)
    (h : ∀ c' P' ctv h' tk, Heap.ExtBut P s.heap h' → s.heap.objs.size ≤ c' → c' < h'.objs.size → h'.CodeRec (.ref c') qual → h'.get? P = some (PySem.W.tabObj (ps ++ #[rawInt pos.line, rawInt pos.col, .ref c'])) →
      s.heap.objs.size ≤ P' → h'.get? P' = some (PySem.W.tabObj #[]) → PySem.W.CodeHd h' c' P' →
      Q (.ref h'.objs.size) { s with heap := h'.push (PySem.W.kla_obj name qual params body scope clos ((mg "__name__").getD .none) c' ctv), toks := tk }) :
    wpAny M A (makeTail name qual params (.expr body) scope env .none .none none pos firstLine) Q E s := by
  obtain ⟨bm, ob, hbm, hne0, _, hneP, hbo, hcls, hdict, hdata⟩ := hb
  unfold makeTail
  rw [hcl, hge0]
  refine wpAny_bind (wpAny_pure ?_)
  cases clos with
  | nil =>
    simp only [List.isEmpty_nil, if_true]
    refine wpAny_bind (wpAny_pure ?_)
    refine wpAny_bind (wpAny_functionCodeX hcode (C.code hP ht) (C.tab hP) hnf fun c' h' tk hx hge hlt _ hrec htb hN => ?_)
    obtain ⟨P', n1, n2, n3⟩ := hN
    have hg' := hg.extBut hx hgP
    refine wpAny_bind (wpAny_builtinsFor hg' hbm hne0 (hx _ _ hneP hbo) hcls hdict hdata ?_)
    refine wpAny_bind (wpAny_nsGet hg' ?_)
    exact wpAny_bind (wpAny_pure (wpAny_newObj_type (h c' P' .none h' tk hx hge hlt hrec htb.2 n1 n3.2 (PySem.W.CodeHd.of n2 n3)) (by size_fits)))
  | cons q r =>
    simp only [List.isEmpty_cons, Bool.false_eq_true, if_false]
    refine wpAny_bind (wpAny_newTextTuple ?_)
    refine wpAny_bind (wpAny_functionCodeX hcode ((C.keeps fun b o e => Heap.get?_push_of_some _ e).code (Heap.get?_push_of_some _ hP) ht) ((C.keeps fun b o e => Heap.get?_push_of_some _ e).tab (Heap.get?_push_of_some _ hP)) hnf fun c' h' tk hx hge hlt _ hrec htb hN => ?_)
    obtain ⟨P', n1, n2, n3⟩ := hN
    have hg' := (hg.push _).extBut hx hgP
    have hx' : Heap.ExtBut P s.heap h' := fun b o hb' e => hx b o hb' (Heap.get?_push_of_some _ e)
    have hge' : s.heap.objs.size ≤ c' := Nat.le_trans (by rw [Heap.size_push]; omega) hge
    refine wpAny_bind (wpAny_builtinsFor hg' hbm hne0 (hx' _ _ hneP hbo) hcls hdict hdata ?_)
    refine wpAny_bind (wpAny_nsGet hg' ?_)
    exact wpAny_bind (wpAny_pure (wpAny_newObj_type (h c' P' _ h' tk hx' hge' hlt hrec htb.2 (Nat.le_trans (by rw [Heap.size_push]; omega) n1) n3.2 (PySem.W.CodeHd.of n2 n3)) (by size_fits)))
theorem kla_makeN (hcl : closureFor scope env = pure clos) (hge0 : env.globals = mainGlobals) (hg : s.heap.Ns mainGlobals mg) (hcode : env.code = .ref c) (C : PySem.W.CodeHd s.heap c P) (hP : s.heap.get? P = some (PySem.W.tabObj ps)) (ht : TriplesOk ps.toList)
    (hnf : codeAmong pos ps.toList = none) (hgP : mainGlobals ≠ P) (hb : s.heap.BuiltinsAt mg P)
    (h : ∀ c' P' ctv h' tk, Heap.ExtBut P s.heap h' → s.heap.objs.size ≤ c' → c' < h'.objs.size → h'.CodeRec (.ref c') qual → h'.get? P = some (PySem.W.tabObj (ps ++ #[rawInt pos.line, rawInt pos.col, .ref c'])) →
      s.heap.objs.size ≤ P' → h'.get? P' = some (PySem.W.tabObj #[]) → PySem.W.CodeHd h' c' P' →
      Q (.ref h'.objs.size) { s with heap := h'.push (PySem.W.kla_obj name qual params body scope clos ((mg "__name__").getD .none) c' ctv), toks := tk }) :
    wpAny M A (makeFunction name qual params (.expr body) scope env [] [] [] pos firstLine) Q E s := by
  rw [makeFunction_eq]
  simp only [List.zip_nil_right, List.filterMap_nil, List.isEmpty_nil, if_true, pure_bind]
  exact kla_tailN hcl hge0 hg hcode C hP ht hnf hgP hb h
end
section
variable {X : Cx} {pins : List (Addr × Obj)} {σ : L2.St} {H : Hp} {s : Shared}
/-- the table's object is written, the code object at c and its table at P1 are new and known from now on; all else is kept -/
theorem inv_tableN {P c P1 : Addr} {q : Str} {ps more : Array Value} {oc : Obj} {h' : Heap} {t' : Nat} (I : Inv X pins σ H s) (hP : H P = some (.tbl ps)) (k : ∀ b o, b ≠ P → s.heap.get? b = some o → h'.get? b = some o)
    (hm : h'.get? P = some { cls := .none, data := .fields (ps ++ more) }) (hc : s.heap.objs.size ≤ c) (ho : h'.get? c = some oc) (hp1 : s.heap.objs.size ≤ P1) (h1 : h'.get? P1 = some { cls := .none, data := .fields #[] }) (hne : c ≠ P1) :
    Inv X pins σ (upd (upd (upd H P (.tbl (ps ++ more))) c (.frz oc (.own c))) P1 (.tbl #[])) { s with heap := h', toks := t' } := by
  have nC : H c = none := I.hok.fresh hc
  have n1 : H P1 = none := I.hok.fresh hp1
  have nPc : P ≠ c := ne_of_none hP nC
  have nP1 : P ≠ P1 := ne_of_none hP n1
  have at_ : ∀ b, b ≠ P → b ≠ c → b ≠ P1 → upd (upd (upd H P (.tbl (ps ++ more))) c (.frz oc (.own c))) P1 (.tbl #[]) b = H b := fun b h1 h2 h3 => by rw [upd_ne h3, upd_ne h2, upd_ne h1]
  have atP : upd (upd (upd H P (.tbl (ps ++ more))) c (.frz oc (.own c))) P1 (.tbl #[]) P = some (.tbl (ps ++ more)) := by rw [upd_ne nP1, upd_ne nPc, upd_same]
  have atC : upd (upd (upd H P (.tbl (ps ++ more))) c (.frz oc (.own c))) P1 (.tbl #[]) c = some (.frz oc (.own c)) := by rw [upd_ne hne, upd_same]
  have nP : ∀ b u, H b = some u → (∀ q, u ≠ .tbl q) → b ≠ P := fun b u e q z => by
    rw [z, hP] at e
    exact q ps (Option.some.inj e).symm
  have nN : ∀ b, H b = none → b ≠ P := fun b e z => by
    rw [z, hP] at e
    cases e
  have lt' : ∀ b o, s.heap.get? b = some o → b ≠ c ∧ b ≠ P1 := fun b o e => ⟨fun z => by
    rw [z] at e
    exact Nat.lt_irrefl _ (Nat.lt_of_lt_of_le (Heap.lt_size e) hc), fun z => by
    rw [z] at e
    exact Nat.lt_irrefl _ (Nat.lt_of_lt_of_le (Heap.lt_size e) hp1)⟩
  have sm : ∀ b u, H b = some u → b ≠ c ∧ b ≠ P1 := fun b u e => ⟨ne_of_none e nC, ne_of_none e n1⟩
  have stays : ∀ b u, H b = some u → (∀ q, u ≠ .tbl q) → upd (upd (upd H P (.tbl (ps ++ more))) c (.frz oc (.own c))) P1 (.tbl #[]) b = some u := fun b u e q => by
    rw [at_ b (nP b u e q) (sm b u e).1 (sm b u e).2]
    exact e
  refine I.step (g' := s.gens) (d' := s.drawn) (ch := []) (fun b hb => absurd hb (by simp)) (fun b o _ _ _ e n => k b o (nN b n) e) (fun b o _ _ _ e n => ⟨o.slots, k b o (nN b n) e⟩)
    (fun b o _ e n => by rw [at_ b (nN b n) (lt' b o e).1 (lt' b o e).2]; exact n) (fun b o _ e => ?_) (fun b xs e => stays b _ e fun q z => by cases z) (fun b o u e => stays b _ e fun q z => by cases z) (fun b qs e => ?_) (fun m hn => ?_) (fun b u e => ?_) I.bare
  · by_cases hb : b = P
    · rw [hb]
      exact ⟨_, hm⟩
    · exact ⟨o, k b o hb e⟩
  · by_cases hb : b = P
    · rw [hb, hP] at e
      cases e
      rw [hb, atP]
      exact ⟨more, rfl⟩
    · rw [at_ b hb (sm b _ e).1 (sm b _ e).2, e]
      exact ⟨#[], by simp⟩
  · obtain ⟨ob, es, ep, ho, r⟩ := hn
    exact ⟨ob, es, ep, k _ ob (nN _ I.free) ho, r⟩
  · by_cases hb : b = c
    · rw [hb, atC] at e
      cases e
      rw [hb]
      exact ⟨ho, oc, ho⟩
    · by_cases hb1 : b = P1
      · rw [hb1, upd_same] at e
        cases e
        rw [hb1]
        exact h1
      · by_cases hb2 : b = P
        · rw [hb2, atP] at e
          cases e
          rw [hb2]
          exact hm
        · rw [at_ b hb2 hb hb1] at e
          refine (I.hok b u e).stay (fun d v hd q => k d v ?_ q) (fun d q => stays d _ q fun q z => by cases z) fun d xs q => stays d _ q fun q z => by cases z
          rcases hd with z | z
          · rw [z]
            exact hb2
          · exact nP d _ z (fun q z => by cases z)
/-- a lambda is made: its code object is new, or found in the table -/
theorem lam_make3 {T : List (Addr × Str)} {nm : Addr → Str} {c P : Addr} {params : Arguments} {body : Expr} {scope : Scope} {pos : Pos} {E : Value → Shared → Prop} {Q : Value → Shared → Prop} (I : Inv X pins σ H s) (C : PySem.W.CodeHd s.heap c P) (bP : s.heap.BuiltinsAt X.mg P) (gP : mainGlobals ≠ P) (hcode : X.env.code = .ref c)
    (hT : ∀ p ∈ T, nm p.1 = p.2 ∧ TabN nm H p.1) (hC : ∀ c q P, IsCode H c q P → nm P = lamNm q ∧ TabN nm H P) (hnm : nm P = X.env.qual ++ "<lambda>") (hPt : TabN nm H P) (hdef : defaultsOf params X.env = ([], [])) (hfree : ∀ y ∈ scope.names, y.2 = .free → ∃ c, X.env.cells.lookup y.1 = some c)
    (h : ∀ (f c' P' : Addr) (pm ctv : Value) (H1 : Hp) (s' : Shared), Inv X pins σ H1 s' → ExtN H H1 → TabsN T H1 → X.s_0.heap.objs.size ≤ f →
      s'.heap.get? f = some (PySem.W.kla_obj "<lambda>" (X.env.qual ++ "<lambda>") params body scope (cloFrom X.env.cells scope.names []) pm c' ctv) → H1 f = none → f ∉ frs X.stack → IsCode H1 c' (X.env.qual ++ "<lambda>") P' → Q (.ref f) s') :
    wpAny (model X.prog X.w) X.A (eval (.Lambda params body scope pos) X.env) Q E s := by
  obtain ⟨ps, hP, ht, ha⟩ := hPt
  refine PySem.W.kla_eval hdef ?_
  have hP' : s.heap.get? P = some { cls := .none, data := .fields ps } := I.hok P _ hP
  have nofr : ∀ f, s.heap.objs.size ≤ f → f ∉ frs X.stack := fun f hf z => by
    rcases List.mem_cons.mp (I.stkSub _ z) with e | e
    · have h1 := I.lt
      rw [← e] at h1
      exact Nat.lt_irrefl _ (Nat.lt_of_lt_of_le h1 hf)
    · exact I.nofs hf e
  cases hc : codeAmong pos ps.toList with
  | none =>
    refine kla_makeN (mg := X.mg) (c := c) (P := P) (ps := ps) (closure_ok hfree) I.ok.glob (I.mod.glob.keeps I.bk) hcode C hP' ht hc gP bP fun c' P' ctv h' tk hx hge hlt hrec htb hp1 hpo hhd => ?_
    obtain ⟨oc, hoc, hob⟩ := CodeOb.of hhd hrec
    have hne : c' ≠ P' := by obtain ⟨_, _, _, _, _, _, _, _, _, _, _, _, _, _, _, _, _, z, _⟩ := id hob; exact z
    have hsz : s.heap.objs.size ≤ h'.objs.size := Nat.le_trans hge (Nat.le_of_lt hlt)
    have nC : H c' = none := I.hok.fresh hge
    have n1 : H P' = none := I.hok.fresh hp1
    have nPP : P ≠ P' := ne_of_none hP n1
    have I1 := inv_tableN (t' := tk) (more := #[rawInt pos.line, rawInt pos.col, .ref c']) (h' := h'.push (PySem.W.kla_obj "<lambda>" (X.env.qual ++ "<lambda>") params body scope (cloFrom X.env.cells scope.names []) ((X.mg "__name__").getD .none) c' ctv)) (q := X.env.qual ++ "<lambda>") I hP
      (fun b o hb e => Heap.get?_push_of_some _ (hx b o hb e)) (Heap.get?_push_of_some _ htb) hge (Heap.get?_push_of_some _ hoc) hp1 (Heap.get?_push_of_some _ hpo) hne
    have eL : (ps ++ #[rawInt pos.line, rawInt pos.col, .ref c']).toList = ps.toList ++ [rawInt pos.line, rawInt pos.col, .ref c'] := by simp
    have hE : ExtN H (upd (upd (upd H P (.tbl (ps ++ #[rawInt pos.line, rawInt pos.col, .ref c']))) c' (.frz oc (.own c'))) P' (.tbl #[])) := fun b o e n => by
      rw [upd_ne (ne_of_none e n1), upd_ne (ne_of_none e nC), upd_ne (fun z => n ps (Option.some.inj (e.symm.trans (by rw [z]; exact hP))))]
      exact e
    have atC : upd (upd (upd H P (.tbl (ps ++ #[rawInt pos.line, rawInt pos.col, .ref c']))) c' (.frz oc (.own c'))) P' (.tbl #[]) c' = some (.frz oc (.own c')) := by rw [upd_ne hne, upd_same]
    have atP : upd (upd (upd H P (.tbl (ps ++ #[rawInt pos.line, rawInt pos.col, .ref c']))) c' (.frz oc (.own c'))) P' (.tbl #[]) P = some (.tbl (ps ++ #[rawInt pos.line, rawInt pos.col, .ref c'])) := by rw [upd_ne nPP, upd_ne (ne_of_none hP nC), upd_same]
    have at1 : upd (upd (upd H P (.tbl (ps ++ #[rawInt pos.line, rawInt pos.col, .ref c']))) c' (.frz oc (.own c'))) P' (.tbl #[]) P' = some (.tbl #[]) := upd_same
    have back : ∀ b o, (upd (upd (upd H P (.tbl (ps ++ #[rawInt pos.line, rawInt pos.col, .ref c']))) c' (.frz oc (.own c'))) P' (.tbl #[])) b = some o → b ≠ c' → (∀ ps, o ≠ .tbl ps) → H b = some o := fun b o e hb hn => by
      by_cases z1 : b = P'
      · rw [z1, at1] at e; exact absurd (Option.some.inj e).symm (hn _)
      · by_cases z2 : b = P
        · rw [z2, atP] at e; exact absurd (Option.some.inj e).symm (hn _)
        · rw [upd_ne z1, upd_ne hb, upd_ne z2] at e; exact e
    have tblK : ∀ b qs, H b = some (.tbl qs) → b ≠ P → b ≠ c' → b ≠ P' → upd (upd (upd H P (.tbl (ps ++ #[rawInt pos.line, rawInt pos.col, .ref c']))) c' (.frz oc (.own c'))) P' (.tbl #[]) b = some (.tbl qs) := fun b qs e z1 z2 z3 => by rw [upd_ne z3, upd_ne z2, upd_ne z1]; exact e
    have newF : upd (upd (upd H P (.tbl (ps ++ #[rawInt pos.line, rawInt pos.col, .ref c']))) c' (.frz oc (.own c'))) P' (.tbl #[]) h'.objs.size = none := by
      rw [upd_ne (Nat.ne_of_gt (Heap.lt_size hpo)), upd_ne (Nat.ne_of_gt hlt), upd_ne (Nat.ne_of_gt (Nat.lt_of_lt_of_le (Heap.lt_size hP') hsz))]
      exact I.hok.fresh hsz
    generalize (upd (upd (upd H P (.tbl (ps ++ #[rawInt pos.line, rawInt pos.col, .ref c']))) c' (.frz oc (.own c'))) P' (.tbl #[])) = H1 at I1 hE atC atP at1 back tblK newF
    have codeK : ∀ {b q R}, IsCode H b q R → IsCode H1 b q R := fun {b q R} x => by
      obtain ⟨o, e, y⟩ := x
      exact ⟨o, hE _ _ e fun _ z => (by cases z), y⟩
    -- the names, with one more
    let nm' : Addr → Str := fun b => if b = P' then lamNm (X.env.qual ++ "<lambda>") else nm b
    have nmE : ∀ b, H b ≠ none → nm' b = nm b := fun b hb => if_neg fun z => hb (by rw [z]; exact n1)
    have tabs : ∀ b, TabN nm H b → TabN nm' H1 b := fun b x => by
      obtain ⟨qs, a1, a2, a3⟩ := x
      have hb : nm' b = nm b := nmE b (by rw [a1]; simp)
      by_cases z : b = P
      · subst z
        rw [hP] at a1
        cases a1
        refine ⟨_, atP, by rw [eL]; exact PySem.TriplesOk_snoc _ _ _ _ a2, fun p' cv hcv => ?_⟩
        rw [eL] at hcv
        rw [hb]
        rcases among_app _ a2 hcv with y | y
        · obtain ⟨c0, R, e1, e2⟩ := a3 p' cv y
          exact ⟨c0, R, e1, codeK e2⟩
        · exact ⟨c', P', y, oc, atC, by rw [hnm]; exact hob⟩
      · refine ⟨qs, ?_, a2, fun p' cv hcv => ?_⟩
        · have zc : b ≠ c' := ne_of_none a1 nC
          have z1 : b ≠ P' := ne_of_none a1 n1
          exact tblK b qs a1 z zc z1
        · obtain ⟨c0, R, e1, e2⟩ := a3 p' cv hcv
          exact ⟨c0, R, e1, by rw [hb]; exact codeK e2⟩
    refine h h'.objs.size c' P' ((X.mg "__name__").getD .none) ctv _ _ I1 hE ⟨nm', fun p hp => ⟨?_, tabs _ (hT p hp).2⟩, fun b q R x => ?_⟩ (Nat.le_trans I.sz hsz) (Heap.get?_push_size _ rfl) ?_ (nofr _ hsz) ⟨oc, atC, hob⟩
    · obtain ⟨qs, a1, _⟩ := (hT p hp).2
      rw [nmE p.1 (by rw [a1]; simp)]
      exact (hT p hp).1
    · by_cases z : b = c'
      · obtain ⟨o, e, y⟩ := x
        rw [z, atC] at e
        cases e
        subst z
        obtain ⟨u1, u2⟩ := hob.uniq y
        subst u1 u2
        exact ⟨if_pos rfl, #[], at1, trivial, fun p' cv hcv => by simp [codeAmong] at hcv⟩
      · obtain ⟨o, e, y⟩ := x
        obtain ⟨a1, a2⟩ := hC b q R ⟨o, back b _ e z (fun _ z => by cases z), y⟩
        obtain ⟨qs, a3, _⟩ := id a2
        exact ⟨by rw [nmE R (by rw [a3]; simp)]; exact a1, tabs R a2⟩
    · exact newF
  | some cv =>
    obtain ⟨c', P', e, hco⟩ := ha pos cv hc
    subst e
    refine PySem.W.kla_makeFunctionHit (mg := X.mg) (c := c) (P := P) (ps := ps) (closure_ok hfree) I.ok.glob (I.mod.glob.keeps I.bk) hcode C hP' ht hc bP fun ctv h' tk hx hsz => ?_
    have I1 : Inv X pins σ H { s with heap := h'.push (PySem.W.kla_obj "<lambda>" (X.env.qual ++ "<lambda>") params body scope (cloFrom X.env.cells scope.names []) ((X.mg "__name__").getD .none) c' ctv), toks := tk } := I.kept fun b o e => Heap.get?_push_of_some _ (hx b o e)
    exact h h'.objs.size c' P' ((X.mg "__name__").getD .none) ctv H _ I1 (ExtN.refl H) ⟨nm, hT, hC⟩ (Nat.le_trans I.sz hsz) (Heap.get?_push_size _ rfl) (I.hok.fresh hsz) (nofr _ hsz) (by rw [hnm] at hco; exact hco)
end
theorem RepM.extN {K : PySem.W.Frag} {mg : Str → Option Value} {M : Mp} {H H1 : Hp} (m : RepM K mg M H) (e : ExtN H H1) (t : TabsN (tlOf K) H1) : RepM K mg M H1 := ⟨fun a o ha => by
  have q := m a o ha
  cases o with
  | lst ds => obtain ⟨vs, q, r⟩ := q; exact ⟨vs, e _ _ q fun _ z => (by cases z), RepVs.keep (Keep.extN e) _ _ r⟩
  | ins c fs => obtain ⟨C, dx, gs, hc, q, r⟩ := q; exact ⟨C, dx, gs, hc, e _ _ q fun _ z => (by cases z), r.keep (Keep.extN e)⟩
  | dK kvs => obtain ⟨ws, q, r⟩ := q; exact ⟨ws, e _ _ q fun _ z => (by cases z), r.keep (Keep.extN e)⟩
  | dT kvs => obtain ⟨ws, q, r⟩ := q; exact ⟨ws, e _ _ q fun _ z => (by cases z), r.keep (Keep.extN e)⟩
  | cel d => obtain ⟨oc, v, u, q, e1, r1, r⟩ := q; exact ⟨oc, v, u, e _ _ q fun _ z => (by cases z), e1, r1, RepV.keep (Keep.extN e) d v r⟩
  | clo L cs => obtain ⟨pm, ctv, c', cl, q, n, ⟨P', oc, hc, hx⟩, r⟩ := q; exact ⟨pm, ctv, c', cl, e _ _ q fun _ z => (by cases z), n, ⟨P', oc, e _ _ hc fun _ z => (by cases z), hx⟩, r⟩, t⟩
/-- what the making of a lambda asks of the def around -/
def LamX' (X : Cx) : Prop := ∃ c P, X.env.code = .ref c ∧ PySem.W.codeHdIn X.K c P = true ∧ (P, X.env.qual ++ "<lambda>") ∈ tlOf X.K
/-- the same, of a def or of a lambda -/
def LamY (X : Cx) (B : At) : Prop := LamX' X ∨ ∃ c q P P0, X.env.code = .ref c ∧ IsCode B.H c q P ∧ B.M c = none ∧ X.env.qual = q ++ ".<locals>." ∧ X.base.BuiltinsAt X.mg P0
/-- the table that a lambda's making looks into -/
theorem LamY.get {X : Cx} {B : At} {pins : List (Addr × Obj)} {σ : L2.St} {M : Mp} {H : Hp} {s : Shared} (hL : LamY X B) (TS : TBs X.K X.mg X.base) (I : Inv X pins σ H s) (m : RepM X.K X.mg M H) (kb : Keep B.M B.H M H) :
    ∃ c P nm ps, X.env.code = .ref c ∧ PySem.W.CodeHd s.heap c P ∧ s.heap.BuiltinsAt X.mg P ∧ mainGlobals ≠ P ∧ (∀ p ∈ tlOf X.K, nm p.1 = p.2 ∧ TabN nm H p.1) ∧ (∀ c q P, IsCode H c q P → nm P = lamNm q ∧ TabN nm H P) ∧ nm P = X.env.qual ++ "<lambda>" ∧ TabN nm H P ∧ s.heap.get? P = some (PySem.W.tabObj ps) := by
  obtain ⟨nm, hT, hC⟩ := m.tab
  rcases hL with ⟨c, P, hcode, hhd, hmT⟩ | ⟨c, q, P, P0, hcode, hc, nc, hq, bm, ob, b1, b2, b3, b4, b5, b6, b7, b8⟩
  · have TB := TS.tb _ _ _ hhd hmT
    obtain ⟨ps, hP, _⟩ := id (hT _ hmT).2
    exact ⟨c, P, nm, ps, hcode, TB.code.keeps I.bk, TB.bm.keeps I.bk, TB.gP, hT, hC, (hT _ hmT).1, (hT _ hmT).2, I.hok P _ hP⟩
  · obtain ⟨oc, ho, hx⟩ := hc
    have ho := (kb.k c _ ho nc).1
    obtain ⟨n1, n2⟩ := hC c q P ⟨oc, ho, hx⟩
    obtain ⟨ps, hP, _⟩ := id n2
    have oP : s.heap.get? P = some { cls := .none, data := .fields ps } := I.hok P _ hP
    have bb := I.bk _ _ b5
    obtain ⟨og, es, ep, e1, e2, _⟩ := I.mod.glob.keeps I.bk
    refine ⟨c, P, nm, ps, hcode, hx.hd (I.hok c _ ho).1, ⟨bm, ob, b1, b2, b3, fun z => ?_, bb, b6, b7, b8⟩, fun z => ?_, hT, hC, by rw [n1, hq]; rfl, n2, oP⟩
    · rw [z, oP] at bb; cases bb; cases b8
    · rw [z, oP] at e1; cases e1; cases e2
theorem lam_makeY {X : Cx} {B : At} {pins : List (Addr × Obj)} {σ : L2.St} {M : Mp} {H : Hp} {s : Shared} {params : Arguments} {body : Expr} {scope : Scope} {pos : Pos} {E : Value → Shared → Prop} {Q : Value → Shared → Prop} (hL : LamY X B) (TS : TBs X.K X.mg X.base) (I : Inv X pins σ H s) (m : RepM X.K X.mg M H) (kb : Keep B.M B.H M H)
    (hdef : defaultsOf params X.env = ([], [])) (hfree : ∀ y ∈ scope.names, y.2 = .free → ∃ c, X.env.cells.lookup y.1 = some c)
    (h : ∀ (f c' P' : Addr) (pm ctv : Value) (H1 : Hp) (s' : Shared), Inv X pins σ H1 s' → Keep M H M H1 → RepM X.K X.mg M H1 → X.s_0.heap.objs.size ≤ f →
      s'.heap.get? f = some (PySem.W.kla_obj "<lambda>" (X.env.qual ++ "<lambda>") params body scope (cloFrom X.env.cells scope.names []) pm c' ctv) → H1 f = none → f ∉ frs X.stack → IsCode H1 c' (X.env.qual ++ "<lambda>") P' → Q (.ref f) s') :
    wpAny (model X.prog X.w) X.A (eval (.Lambda params body scope pos) X.env) Q E s := by
  obtain ⟨c, P, nm, ps, hcode, C, bP, gP, hT, hC, hnm, hPt, _⟩ := hL.get TS I m kb
  exact lam_make3 I C bP gP hcode hT hC hnm hPt hdef hfree fun f c' P' pm ctv H1 s' I1 eN T1 => h f c' P' pm ctv H1 s' I1 (Keep.extN eN) (m.extN eN T1)
/-- the code object's record, for the call of a function of it -/
theorem IsCode.recd {H : Hp} {c P : Addr} {q : Str} {p : Program} {w : World} {h : Heap} (x : IsCode H c q P) (ok : HOk p w H h) : ∃ (oc : Obj) (vs : Array Value) (t : Tok), h.get? c = some oc ∧ oc.data = .fields vs ∧ vs[1]? = some (.str q t) := by
  obtain ⟨oc, e, vs, _, _, _, _, _, _, _, t, _, a2, _, _, _, _, _, _, _, a10⟩ := x
  exact ⟨oc, vs, t, (ok c _ e).1, a2, a10⟩
/-- within a lambda's body, a lambda is made from the table of that lambda's code object -/
theorem LamY.inner {X X' : Cx} {B B' : At} {M : Mp} {H : Hp} {c' P' : Addr} {q : Str} (hL : LamY X B) (TS : TBs X.K X.mg X.base) (m : RepM X.K X.mg M H) (hc : IsCode H c' q P') (k : Keep M H B'.M B'.H) (h1 : X'.env.code = .ref c' := by rfl) (h2 : X'.env.qual = q ++ ".<locals>." := by rfl) (h3 : X'.base = X.base := by rfl) (h4 : X'.mg = X.mg := by rfl) : LamY X' B' := by
  have b : ∃ P0, X.base.BuiltinsAt X.mg P0 := by
    rcases hL with ⟨c, P, hcode, hhd, hmT⟩ | ⟨c, q, P, P0, hcode, hc, nc, hq, b⟩
    · exact ⟨P, (TS.tb _ _ _ hhd hmT).bm⟩
    · exact ⟨P0, b⟩
  obtain ⟨P0, b⟩ := b
  have n := code_free m hc
  obtain ⟨oc, ho, hx⟩ := hc
  obtain ⟨y1, y2⟩ := k.k c' _ ho n
  exact .inr ⟨c', q, P', P0, h1, ⟨oc, y1, hx⟩, y2, h2, by rw [h3, h4]; exact b⟩
abbrev TLam := DW' → Mp → DK → Prop
/-- what a def makes of the lambda's reading -/
abbrev TTr := TLam → Mp → DK → XE' → Prop
/-- the def x, which calls its one argument -/
def GFnL (P : Program) (w : World) (K : PySem.W.Frag) (mg : Str → Option Value) (base : Heap) (k : Nat) (x a : Str) (TT : TTr) : Prop :=
  ∃ (g : Addr) (fd : FuncData) (st : Stmt) (N : List Str), mg x = some (.ref g) ∧ PySem.W.keepIn K (.ref g) = true ∧ FunP K x x st g fd ∧ Binds K fd [a] [] ∧ FnScope N [a] (defScope st) ∧ N[0]? = some a ∧ Vis (defScope st) a ∧
    ∀ (cdv : Value) (A : Around) (outer : List Env) (s : Shared) (H : Hp) (M : Mp) (f : Addr) (tl : TLam) (Q : DK) (E : XE'), Cy (A.deeper (envOfC x (defScope st) s.heap.objs.size g cdv)) k →
      (∀ (B' : At) (W : DW') (pn : List (Addr × Obj)) (xe : Value → Shared → Prop) (p1 p2 : Pos), Keep M H B'.M B'.H → DTk ((cxD P w K mg base N x st g cdv A outer s H M E).tr pn xe) B' W →
        DE ((cxD P w K mg base N x st g cdv A outer s H M E).tr pn xe) B' (.Call (.Name a p1) [] [] p2) (fun ρZ MZ R => ρZ[0]? = some (some (.ref f)) ∧ tl (fun y _ M' => W y ρZ M') MZ R)) →
      TT tl M Q E → ∃ t, DSs (cxD P w K mg base N x st g cdv A outer s H M E) ⟨M, H⟩ (defBody st) t ∧ t { nx := fun _ M' => Wk (Q .non) M', rt := fun d M' => Wk (Q d) M' } (startD N [.ref f]) M
theorem GFnL.mono {P : Program} {w : World} {K : PySem.W.Frag} {mg : Str → Option Value} {base : Heap} {j k : Nat} {x a : Str} {TT : TTr} (G : GFnL P w K mg base j x a TT) (h : j ≤ k) : GFnL P w K mg base k x a TT := by
  obtain ⟨g, fd, st, N, h1, h2, h3, h4, h5, h6, h7, h8⟩ := G
  exact ⟨g, fd, st, N, h1, h2, h3, h4, h5, h6, h7, fun cdv A outer s H M f tl Q E c => h8 cdv A outer s H M f tl Q E (c.mono h)⟩
/-- the context of the lambda's body -/
def lamCxN (X : Cx) (A : Around) (outer : List Env) (s : Shared) (H : Hp) (E : XK) (scope : Scope) (f c' : Addr) : Cx where
  prog := X.prog
  w := X.w
  K := X.K
  mg := X.mg
  base := X.base
  A := A.deeper (lamEnv X scope s.heap.objs.size f c')
  N := X.N
  s_0 := s
  H_0 := H
  env := lamEnv X scope s.heap.objs.size f c'
  outer := outer
  stack := lamEnv X scope s.heap.objs.size f c' :: outer
  ex := []
  fn := fun _ => false
  calm := true
  pn := []
  xe := fun e s' => wpAny (model X.prog X.w) (A.deeper (lamEnv X scope s.heap.objs.size f c')) (leaving (lamEnv X scope s.heap.objs.size f c') e) (fun _ s'' => L2N.CX X.prog X.w outer H s E e s'') (fun e' s'' => L2N.CX X.prog X.w outer H s E e' s'') s'
section
variable {X : Cx} {pins : List (Addr × Obj)} {σ : L2.St} {H : Hp} {s : Shared} {B : At}
/-- x(), in the def that got the lambda -/
theorem de_act {Ng : List Str} {qg : Str} {sg : Stmt} {g f c' P' : Addr} {cdg pm ctv : Value} {params : Arguments} {body : Expr} {scope : Scope} {k : Nat} {a : Str} {M : Mp} {ρ : Rho} {t : DW' → TD} {Eg : XE'}
    (I : Inv X pins σ H s) (hh0 : Here X B ρ σ M H) (L : LamS X.env.scope scope) (hf : s.heap.get? f = some (PySem.W.kla_obj "<lambda>" (X.env.qual ++ "<lambda>") params body scope (cloFrom X.env.cells scope.names []) pm c' ctv)) (hfn : H f = none) (hfr : f ∉ frs X.stack)
    (hco : IsCode H c' (X.env.qual ++ "<lambda>") P') (hL : LamY X B) (TS : TBs X.K X.mg X.base) (hbind : bindArgs (PySem.W.kla_fn "<lambda>" (X.env.qual ++ "<lambda>") params body scope (cloFrom X.env.cells scope.names []) pm (.ref c') ctv) ⟨[], []⟩ = pure [])
    (hr : Cy (X.A.deeper (envOfC qg (defScope sg) s.heap.objs.size g cdg)) (k + 1))
    (hbody : ∀ (A : Around) (outer : List Env) (s : Shared) (H : Hp) (E : XK) (B' : At) (W : DW'), Cy (A.deeper (lamEnv X scope s.heap.objs.size f c')) k → LamY (lamCxN X A outer s H E scope f c') B' → DTk (lamCxN X A outer s H E scope f c') B' W → DE (lamCxN X A outer s H E scope f c') B' body (t W))
    (hN : Ng[0]? = some a) (hv : Vis (defScope sg) a) (B' : At) (W : DW') (pn : List (Addr × Obj)) (xe : Value → Shared → Prop) (p1 p2 : Pos) (kb : Keep M H B'.M B'.H) (tk : DTk ((cxD X.prog X.w X.K X.mg X.base Ng qg sg g cdg X.A X.stack s H M Eg).tr pn xe) B' W)
    (hd : (a == ("__debug__" : Str)) = false) (hcd : (a == ("__classdict__" : Str)) = false) :
    DE ((cxD X.prog X.w X.K X.mg X.base Ng qg sg g cdg X.A X.stack s H M Eg).tr pn xe) B' (.Call (.Name a p1) [] [] p2) (fun ρZ MZ R => ρZ[0]? = some (some (.ref f)) ∧ t (fun y _ M' => W y ρZ M') ρ MZ R) := by
  refine ⟨fun pinsZ sZ σZ HZ Q IZ h => ?_⟩
  obtain ⟨ρZ, MZ, R, hhZ, ⟨hs0, ht⟩, q⟩ := h
  obtain ⟨v0, hs, rv0⟩ := hhZ.s.2 0 _ hs0
  unfold RepV at rv0
  subst rv0
  refine wpAny_Call_Name_kw (thn ((pe_var (pos := p1) (i := 0) hN hv hd hcd).run pinsZ sZ σZ HZ (fun v H1 => v = .ref f ∧ H1 = HZ) IZ ⟨.ref f, hs, rfl, rfl⟩) fun u s1 ⟨v, H1, I1, r1, q1⟩ => ?_)
  obtain ⟨ev, eH⟩ := q1
  subst ev
  rw [eH] at I1
  obtain rfl : u = Value.ref f := r1
  have kZ : Keep M H MZ HZ := kb.trans hhZ.k
  have hc : IsCode HZ c' (X.env.qual ++ "<lambda>") P' := hco.keep hh0.m kZ
  have of1 : s1.heap.get? f = some (PySem.W.kla_obj "<lambda>" (X.env.qual ++ "<lambda>") params body scope (cloFrom X.env.cells scope.names []) pm c' ctv) := I1.base.keep f _ hf hfn hfr (fun z => nomatch (show f ∈ ([] : List Addr) from z))
  refine PySem.W.callWith_F0 ⟨_, _, _, _, of1⟩ ?_
  have un : Un (frs X.stack) [] H HZ s.heap s1.heap := I1.base
  obtain ⟨oc, vs, tt, hoc, hdc, hvc⟩ := hc.recd I1.hok
  have rc : codeAny (model X.prog X.w) (X.A.deeper (envOfC qg (defScope sg) s.heap.objs.size g cdg)) (.call (.ref f) ⟨[], []⟩) (CR (L2N.CX X.prog X.w) (envOfC qg (defScope sg) s.heap.objs.size g cdg :: X.stack) X.prog X.w HZ s1 (okQ X.K X.mg MZ HZ R) (okE X.K X.mg MZ HZ (fun y M' => W y ρZ M'))) s1 := by
    refine PySem.W.kla_callFunE hr.room.depth of1 rfl L.co L.gen rfl ⟨c', oc, vs, tt, rfl, hoc, hdc, hvc⟩ ?_
    rw [hbind]
    refine wpAny_pure (wpAny_newFunctionEnv (fun y hy => (L.own y hy).2) (fun y hy => absurd hy (by simp)) (fun h₁ hns hsb => ⟨I1.nolimit.fresh _ hsb, ?_⟩) L.kind)
    show codeAny _ _ (.expr body (lamEnv X scope s1.heap.objs.size f c')) _ _
    have kp : ∀ b o, s1.heap.get? b = some o → h₁.get? b = some o := fun b o e => hsb.extBut b o (Nat.ne_of_lt (Heap.lt_size e)) (Heap.get?_push_of_some _ e)
    have J : Inv (lamCxN X (X.A.deeper (envOfC qg (defScope sg) s.heap.objs.size g cdg)) (envOfC qg (defScope sg) s.heap.objs.size g cdg :: X.stack) s1 HZ (okE X.K X.mg MZ HZ (fun y M' => W y ρZ M')) scope f c') [] σ HZ { s1 with heap := h₁, toks := s1.toks + ([] : List (Str × Value)).length } :=
      (lam_start2 (E := okE X.K X.mg MZ HZ (fun y M' => W y ρZ M')) I L I1.env0 hr.room.hd un hns kp).wish _
    have tkl : DTk (lamCxN X (X.A.deeper (envOfC qg (defScope sg) s.heap.objs.size g cdg)) (envOfC qg (defScope sg) s.heap.objs.size g cdg :: X.stack) s1 HZ (okE X.K X.mg MZ HZ (fun y M' => W y ρZ M')) scope f c') ⟨MZ, HZ⟩ (fun y _ M' => W y ρZ M') := by
      refine L2N.Takes.imp (L2N.takes_of (E := okE X.K X.mg MZ HZ (fun y M' => W y ρZ M')) rfl rfl rfl rfl) fun c d σ' H' z => ?_
      obtain ⟨ρ', M', x, hh, rx, e⟩ := z
      exact ⟨x, M', hh.k, hh.m, rx, rfl, e⟩
    have hb := hbody _ _ s1 HZ (okE X.K X.mg MZ HZ (fun y M' => W y ρZ M')) ⟨MZ, HZ⟩ (fun y _ M' => W y ρZ M') (hr.deeper _) (hL.inner TS hh0.m hco kZ) tkl
    refine PySem.W.kla_codeExpr (wpAny_mono (hb.run [] _ _ HZ (okQ X.K X.mg MZ HZ R) J ⟨ρ, MZ, R, ⟨hh0.s.keep kZ, hhZ.m, .rfl'⟩, ht, fun d M' v H' hR k m r => ⟨d, M', k, m, r, hR⟩⟩) (fun v s' hq => ?_) fun e s' hq => hq)
    obtain ⟨w', H', J', rv, q⟩ := hq
    exact ⟨w', H', J'.os, J'.bare, J'.base, J'.hok, rv, q⟩
  refine wpAny_call (codeAny_mono rc fun r s' hq => ?_)
  cases r with
  | error e =>
    refine tk e s' (L2N.XE.of_call (W := lftX ((cxD X.prog X.w X.K X.mg X.base Ng qg sg g cdg X.A X.stack s H M Eg).tr pn xe) B' W) I1 (fun cls dd H' he => ?_) hq)
    obtain ⟨x, M', k', m', rx, _, e'⟩ := he
    exact ⟨ρZ, M', x, hhZ.step k' m', rx, e'⟩
  | ok fl =>
    cases fl with
    | ret u =>
      obtain ⟨v, H', I', rv, d, M', k', m', rd, h'⟩ := I1.after hq
      exact ⟨v, H', I', rv, q d M' v H' h' k' m' rd⟩
    | next => exact False.elim hq
    | brk => exact False.elim hq
    | cont => exact False.elim hq
def dLam (TT : TTr) (W : DW') (t : DW' → TD) : TD := fun ρ M Q => TT (fun W' M' Q' => t W' ρ M' Q') M Q fun x M' => W x ρ M'
/-- x(lambda: body) -/
theorem de_lam {x a : Str} {k : Nat} {TT : TTr} {W : DW'} {params : Arguments} {body : Expr} {scope : Scope} {t : DW' → TD} {p lpos pos : Pos} (G : GFnL X.prog X.w X.K X.mg X.base (k + 1) x a TT) (c : Cy X.A (k + 2)) (tk : DTk X B W) (TS : TBs X.K X.mg X.base) (hL : LamY X B) (hg : Gl X x)
    (L : LamS X.env.scope scope) (hdef : defaultsOf params X.env = ([], []))
    (hbind : ∀ (q : Str) (cl : List (Str × Addr)) (pm cv ctv : Value), bindArgs (PySem.W.kla_fn "<lambda>" q params body scope cl pm cv ctv) ⟨[], []⟩ = pure [])
    (hbody : ∀ (A : Around) (outer : List Env) (s : Shared) (H : Hp) (E : XK) (f c' : Addr) (B' : At) (W : DW'), Cy (A.deeper (lamEnv X scope s.heap.objs.size f c')) k → LamY (lamCxN X A outer s H E scope f c') B' → DTk (lamCxN X A outer s H E scope f c') B' W → DE (lamCxN X A outer s H E scope f c') B' body (t W))
    (hdb : (x == ("__debug__" : Str)) = false := by decide) (hd : (a == ("__debug__" : Str)) = false := by decide) (hcd : (a == ("__classdict__" : Str)) = false := by decide) :
    DE X B (.Call (.Name x p) [.Lambda params body scope lpos] [] pos) (dLam TT W t) := by
  obtain ⟨g, fd, st, N, hm, hk, F, hb, S, hN, hva, hG⟩ := G
  refine ⟨fun pins s σ H Q I h => ?_⟩
  obtain ⟨ρ, M, R, hh, h, q⟩ := h
  refine wpAny_Call_Name_kw (ld_glob I hg hm ?_ hdb)
  refine PySem.W.callWith_K (h₀ := X.base) I.ok.mod.kin hk ?_ (by rfl) (by rfl)
  show wpAny _ _ (spliced ((false, eval (.Lambda params body scope lpos) X.env) :: backTo pos (starEach [] X.env))) _ _ s
  refine Calls.spliced_cons (lam_makeY hL TS I hh.m hh.k hdef (L.has I.ok) fun f c' P' pm' ctv H1 s' I1 k1 m1 _ hf hfn hfr hco => ?_)
  refine Calls.spliced_nil ⟨I1.kIn, ?_⟩
  obtain ⟨oc, od, dV, kV, doc, pm, an, cdv, ct, osl, rfl, lk, hcd', _⟩ := F.ex
  have hh1 := hh.step k1 m1
  have rc : codeAny (model X.prog X.w) X.A (.call (.ref g) ⟨[.ref f], []⟩) (CR (L2N.CX X.prog X.w) X.stack X.prog X.w H1 s' (okQ X.K X.mg M H1 R) (okE X.K X.mg M H1 fun x M' => W x ρ M')) s' := by
    refine run_ofS (N := N) (ps := [a]) (us := [.ref f]) (vs := [.ref f]) (k := k + 1) lk hcd' S c.room I1.env0 (hb s' [.ref f] I1.kIn rfl) (.cons rfl .nil) rfl fun hr' => ?_
    have cd := c.deeper (envOfC x (defScope st) s'.heap.objs.size g cdv)
    obtain ⟨t', ht', hq'⟩ := hG cdv X.A X.stack s' H1 M f (fun W' M' Q' => t W' ρ M' Q') R (fun x M' => W x ρ M') cd
      (fun B' W' pn xe p1 p2 kb tk' => de_act I1 hh1 L hf hfn hfr hco hL TS (hbind _ _ _ _ _) cd (fun A outer s H E B' W c => hbody A outer s H E f c' B' W c) hN hva B' W' pn xe p1 p2 kb tk' hd hcd) h
    refine ⟨_, ht', ⟨M, H1⟩, startD N [.ref f], M, _, .rfl', ⟨startD_rep (.cons (by unfold RepV; rfl) .nil), m1, .rfl'⟩, ⟨?_, ?_, ?_, ?_⟩, hq'⟩
    · exact fun ρ σ M' H' h q => let ⟨M0, l, q⟩ := q; ⟨.non, M0, h.k.less l, h.m.less l, rNon, q⟩
    · exact fun _ _ _ _ _ z => z.elim
    · exact fun _ _ _ _ _ z => z.elim
    · exact fun d v M' H' k' m' rv q => let ⟨M0, l, q⟩ := q; ⟨d, M0, k'.less l, m'.less l, rv.less l, q⟩
  refine wpAny_call (codeAny_mono rc fun r s2 hq => ?_)
  cases r with
  | error e =>
    refine tk e s2 (L2N.XE.of_call (W := lftX X B W) I1 (fun cls dd H' he => ?_) hq)
    obtain ⟨y, M', k', m', rx, _, e'⟩ := he
    exact ⟨ρ, M', y, hh1.step k' m', rx, e'⟩
  | ok fl =>
    cases fl with
    | ret u =>
      obtain ⟨v, H', I', rv, d, M', k', m', rd, h'⟩ := I1.after hq
      exact ⟨v, H', I', rv, q d M' v H' h' (k1.trans k') m' rd⟩
    | next => exact False.elim hq
    | brk => exact False.elim hq
    | cont => exact False.elim hq
end
end DL
namespace DL
open PySem PySem.Spec L2
/-! ### words for the generator -/
theorem lamx {X : Cx} {B : At} {qual : Str} {cdv : Value} (h : LamC X.K qual cdv) (h1 : X.env.code = cdv := by rfl) (h2 : X.env.qual = qual ++ ".<locals>." := by rfl) : LamY X B := by
  obtain ⟨c, P, e, a, _, b⟩ := h
  exact .inl ⟨c, P, h1.trans e, a, by rw [h2]; exact b⟩
def dAct (f : Addr) (tl : TLam) (W : DW') : TD := fun ρZ MZ R => ρZ[0]? = some (some (.ref f)) ∧ tl (fun y _ M' => W y ρZ M') MZ R
def LkP (P : Str → Bool → Prop) : List (Str × Bool) → Prop
  | [] => True
  | p :: l => P p.1 p.2 ∧ LkP P l
theorem lk_all {P : Str → Bool → Prop} : ∀ {l : List (Str × Bool)}, LkP P l → ∀ c b, l.lookup c = some b → P c b
  | [], _, c, b, h => by simp at h
  | (c', b') :: l, ⟨h1, h2⟩, c, b, h => by
    rw [List.lookup_cons] at h
    by_cases e : c = c'
    · subst e; simp at h; subst h; exact h1
    · have : (c == c') = false := by simpa using e
      rw [this] at h; exact lk_all h2 c b h
def LkC (P : Str → Prop) : List Str → Prop
  | [] => True
  | p :: l => P p ∧ LkC P l
theorem mem_all {P : Str → Prop} : ∀ {l : List Str}, LkC P l → ∀ c ∈ l, P c
  | [], _, c, h => by cases h
  | c' :: l, ⟨h1, h2⟩, c, h => by
    rcases List.mem_cons.mp h with rfl | h
    · exact h1
    · exact mem_all h2 c h
end DL
namespace DL
open PySem PySem.Spec L2
theorem exc_ok {K : PySem.W.Frag} {c : Str} (q : (Fx.exc c).ok K = true) : ExcC K (He.ga K c) := by
  obtain ⟨c1, q⟩ := He.ba q
  obtain ⟨c2, q⟩ := He.ba q
  obtain ⟨c3, q⟩ := He.ba q
  obtain ⟨c4, q⟩ := He.ba q
  obtain ⟨c5, q⟩ := He.ba q
  obtain ⟨c6, q⟩ := He.ba q
  obtain ⟨c7, c8⟩ := He.ba q
  exact ⟨He.eqO_ok c1, of_decide_eq_true c2, of_decide_eq_true c3, c4, He.eqO_ok c5, He.eqO_ok c6, of_decide_eq_true c7, of_decide_eq_true c8⟩
theorem ise_own {K : PySem.W.Frag} {mg : Str → Option Value} {h : Heap} {c' c : Str} {b : Bool} (X : K.In h) (G : h.Ns mainGlobals mg) (g' : (Fx.fa (.glo c')).ok K = true) (e : (Fx.exc c').ok K = true) (g : (Fx.fa (.glo c)).ok K = true) (k : (Fx.kit (.own c') (.own c) b).ok K = true) : IseN K mg c' (.own c) b :=
  ⟨_, _, He.glo_ok X G (fa_ok g'), ⟨_, He.glo_ok X G (fa_ok g), rfl⟩, exc_ok e, kit_ok k⟩
theorem exm_n {K : PySem.W.Frag} {mg : Str → Option Value} {h : Heap} {c' c : Str} {b : Bool} (X : K.In h) (G : h.Ns mainGlobals mg) (g' : (Fx.fa (.glo c')).ok K = true) (g : (Fx.fa (.glo c)).ok K = true) (k : (Fx.exm c' c b).ok K = true) : ExmN K mg c' c b :=
  ⟨_, _, .inl ⟨_, He.glo_ok X G (fa_ok g'), rfl⟩, He.glo_ok X G (fa_ok g), of_decide_eq_true k⟩
theorem xf_n {K : PySem.W.Frag} {mg : Str → Option Value} {h : Heap} {c f : Str} (X : K.In h) (G : h.Ns mainGlobals mg) (g : (Fx.fa (.glo c)).ok K = true) (k : (Fx.xf c f).ok K = true) : XfN K mg c f := by
  obtain ⟨c1, c2⟩ := He.ba k
  exact ⟨_, He.glo_ok X G (fa_ok g), xfB_ok c1, of_decide_eq_true c2⟩
theorem own_n {K : PySem.W.Frag} {mg : Str → Option Value} {h : Heap} {c f qual : Str} {b : Nat} {st : Stmt} {fd : FuncData} (hb : b ≤ 2) (X : K.In h) (G : h.Ns mainGlobals mg) (g : (Fx.fa (.glo c)).ok K = true) (k : (Fx.owne c f b).ok K = true)
    (F : FunP K "__init__" qual st (He.ma K (He.ga K c) "__init__") fd) (hs : ∃ p1 p2 q1 q2 q3 q4, L2.defArgs st = eiA f p1 p2 ∧ L2.defBody st = eiB f q1 q2 q3 q4 ∧ L2.defScope st = eiS f) : OwnEN K mg c f := by
  obtain ⟨c1, k⟩ := He.ba k
  obtain ⟨c2, k⟩ := He.ba k
  obtain ⟨c3, k⟩ := He.ba k
  obtain ⟨c4, k⟩ := He.ba k
  obtain ⟨c5, k⟩ := He.ba k
  obtain ⟨c6, k⟩ := He.ba k
  obtain ⟨c7, k⟩ := He.ba k
  obtain ⟨c8, k⟩ := He.ba k
  obtain ⟨c9, c10⟩ := He.ba k
  obtain ⟨p1, p2, q1, q2, q3, q4, e1, e2, e3⟩ := hs
  have hf : f = "given" ∨ f = "index" := by
    rw [Bool.or_eq_true, decide_eq_true_eq, decide_eq_true_eq] at c10
    exact c10
  have fn : ∃ (oc : Value) (od : Option Addr) (kV doc pm : Value) (an : Option Addr) (cdv ct : Value) (osl : Array (Option Value)) (qual : Str) (p1 p2 q1 q2 q3 q4 : Pos),
    K.lookup (He.ma K (He.ga K c) "__init__") = some ⟨oc, od, .func (PySem.W.fnOf "__init__" qual (eiA f p1 p2) (eiB f q1 q2 q3 q4) (eiS f) .none kV doc pm an cdv ct), osl⟩ ∧ PySem.W.codeIn K cdv qual = true := by
    obtain ⟨oc, od, dV, kV, doc, pm, an, cdv, ct, osl, rfl, lk, hcd, hD, hK⟩ := F.ex
    rcases hD with ⟨_, rfl⟩ | ⟨e, _⟩
    · rw [e1, e2, e3] at lk
      exact ⟨oc, od, kV, doc, pm, an, cdv, ct, osl, qual, p1, p2, q1, q2, q3, q4, lk, hcd⟩
    · exact absurd rfl e
  have key : ∀ {B newId initId : String} {bm : List Value}, EBase B newId initId bm → PySem.W.excInitIn K (He.ga K c) bm newId = true → OwnE K mg c f B newId initId bm (He.ga K c) (He.ma K (He.ga K c) "__init__") := fun eb hc =>
    ⟨He.glo_ok X G (fa_ok g), eb, hc, c2, He.eqO_ok c3, of_decide_eq_true c4, He.eqO_ok c5, of_decide_eq_true c6, c7, of_decide_eq_true c8, of_decide_eq_true c9, hf, fn⟩
  match b, hb, c1 with
  | 0, _, c1 => exact ⟨_, _, _, _, _, _, key eb_V c1⟩
  | 1, _, c1 => exact ⟨_, _, _, _, _, _, key eb_L c1⟩
  | 2, _, c1 => exact ⟨_, _, _, _, _, _, key eb_A c1⟩
end DL
set_option maxHeartbeats 2000000
/-! DLzf: t[::-1] of tuples and lists. -/
namespace DL
open PySem PySem.Spec PyProof.Rows L2
section
open HT
variable {prog : Program} {w : World} {A : Around} {E : Value → Shared → Prop} {s : Shared}
end
section
variable {X : Cx} {B : At}
end
end DL
set_option maxHeartbeats 2000000
/-! DLzg: repr of any plain value. -/
namespace DL
open PySem PySem.Spec L2
section
variable {X : Cx}
def rReprA (K : PySem.W.Frag) : List V → Hp → VK → Prop := fun xs H Q => ∃ v d, xs = [v] ∧ Dp K H v d ∧ d.canLay0 = true ∧ d.depth ≤ 12 ∧ d.showable = true ∧ d.shown.length ≤ sizeLine ∧ Q (.str d.shown) H
theorem cr_reprA (hg : X.A.guards = some []) (hu : X.A.units + 64 < cLine) : CallR X (.builtin "repr") (rReprA X.K) := by
  intro pins s σ H xs us Q I r h
  obtain ⟨v, d, rfl, hd, hc, hdp, hs, hz, q⟩ := h
  cases r with
  | cons r1 rr =>
    cases rr
    obtain ⟨as, hr⟩ := Dp.reads I d _ _ hd r1
    cases hd with
    | non => cases r1; exact PySem.P.repr_of_none ⟨.str _, H, I.tok _, ⟨_, rfl⟩, q⟩
    | bl b => cases r1; exact PySem.P.repr_of_bool ⟨.str _, H, I.tok _, ⟨_, rfl⟩, by cases b <;> exact q⟩
    | int i => obtain ⟨t, rfl⟩ := r1; exact PySem.P.repr_of_int (by simpa [PyData.showable] using hs) ⟨.str _, H, I.tok _, ⟨_, rfl⟩, q⟩
    | str x => obtain ⟨t, rfl⟩ := r1; exact PySem.P.repr_of_str ⟨.str _, H, I.tok _, ⟨_, rfl⟩, q⟩ hz
    | lst h1 h2 =>
      cases r1
      refine PySem.repr_of_reads' hr hs (PyData.noDict_hsm (PyData.hasDict_of_canLay _ hc)) hg (by omega) (fun b o e => e) (fun h' u tk hk => ?_) hz
      exact ⟨.str _, H, I.kept (t' := tk) hk, ⟨_, rfl⟩, q⟩
    | tup h1 h2 =>
      cases r1
      refine PySem.repr_of_reads' hr hs (PyData.noDict_hsm (PyData.hasDict_of_canLay _ hc)) hg (by omega) (fun b o e => e) (fun h' u tk hk => ?_) hz
      exact ⟨.str _, H, I.kept (t' := tk) hk, ⟨_, rfl⟩, q⟩
end
section
variable {X : Cx}
end
end DL
set_option maxHeartbeats 2000000
/-! DLzh: classmethods, cls(..), o.m(k = v). -/
namespace DL
open PySem PySem.Spec L2
/-- the class c has the classmethod m, whose def keeps sp -/
def GCm (P : Program) (w : World) (K : PySem.W.Frag) (mg : Str → Option Value) (base : Heap) (k : Nat) (c m : Str) (ps : List Str) (sp : DSp) : Prop :=
  ∃ C mc p g fd, mg c = some (.ref C) ∧ ClX.CRead K C mc ∧ ClX.CMet K C mc m p g ∧ DFn P w K mg base k g fd ps sp ∧ Binds K fd ps []
theorem GCm.mono {P : Program} {w : World} {K : PySem.W.Frag} {mg : Str → Option Value} {base : Heap} {j k : Nat} {c m : Str} {ps : List Str} {sp : DSp} (G : GCm P w K mg base j c m ps sp) (h : j ≤ k) : GCm P w K mg base k c m ps sp :=
  let ⟨C, mc, p, g, fd, a, b, d, F, e⟩ := G; ⟨C, mc, p, g, fd, a, b, d, F.mono h, e⟩
def GCmK (P : Program) (w : World) (K : PySem.W.Frag) (mg : Str → Option Value) (base : Heap) (k : Nat) (c m : Str) (ks : List Str) (is : List Nat) (sp : DSp) : Prop :=
  ∃ C mc p g fd ps, mg c = some (.ref C) ∧ ClX.CRead K C mc ∧ ClX.CMet K C mc m p g ∧ DFn P w K mg base k g fd ps sp ∧ KwB K fd ps 1 ks is
theorem GCmK.mono {P : Program} {w : World} {K : PySem.W.Frag} {mg : Str → Option Value} {base : Heap} {j k : Nat} {c m : Str} {ks : List Str} {is : List Nat} {sp : DSp} (G : GCmK P w K mg base j c m ks is sp) (h : j ≤ k) : GCmK P w K mg base k c m ks is sp :=
  let ⟨C, mc, p, g, fd, ps, a, b, d, F, e⟩ := G; ⟨C, mc, p, g, fd, ps, a, b, d, F.mono h, e⟩
def GMethK (P : Program) (w : World) (K : PySem.W.Frag) (mg : Str → Option Value) (base : Heap) (k : Nat) (c m : Str) (ks : List Str) (is : List Nat) (sp : DSp) : Prop :=
  ∃ C f fd ps, mg c = some (.ref C) ∧ Cls K C ∧ Meth K C m f ∧ DFn P w K mg base k f fd ps sp ∧ KwB K fd ps 1 ks is
theorem GMethK.mono {P : Program} {w : World} {K : PySem.W.Frag} {mg : Str → Option Value} {base : Heap} {j k : Nat} {c m : Str} {ks : List Str} {is : List Nat} {sp : DSp} (G : GMethK P w K mg base j c m ks is sp) (h : j ≤ k) : GMethK P w K mg base k c m ks is sp :=
  let ⟨C, f, fd, ps, a, b, d, F, e⟩ := G; ⟨C, f, fd, ps, a, b, d, F.mono h, e⟩
theorem callWith_MKW0 {M : Model} {K : PySem.W.Frag} {env : Env} {pos : Pos} {q g : Addr} {self : Value} {A : Around} {s : Shared} {E : Value → Shared → Prop} {Q : Value → Shared → Prop} {kws : List Keyword} (hf : PySem.W.fnIn K g = true) (hall : (backToKw pos (keywordEach kws env)).all (·.1.isSome) = true)
    (h : wpAny M A (evalAll ((backToKw pos (keywordEach kws env)).map (·.2))) (fun ks s₂ => PySem.W.MethP K q g self s₂.heap ∧ wpAny M A (call (.ref q) ([] ++ []) (((backToKw pos (keywordEach kws env)).filterMap (·.1)).zip ks)) Q E s₂) E s)
    (hplain : ((backTo pos (starEach [] env)).any (·.1) || (backToKw pos (keywordEach kws env)).any (·.1.isNone)) = false := by rfl) :
    wpAny M A (callWith pos (.ref q) [] (backTo pos (starEach [] env)) (backToKw pos (keywordEach kws env))) Q E s :=
  PySem.W.callWith_of hplain (PySem.W.keeps_M hf) (PyProof.Rows.evalArgs_kw2_nil hall h)
section
variable {X : Cx} {B : At}
/-- C.m(..), m a classmethod of C -/
def dCm (c : Str) (sp : DSp) (W : DW') (t : TDs) : TD := fun ρ M Q => t ρ M fun ds M1 => sp (.cls c :: ds) M1 Q fun x M2 => W x ρ M2
theorem run_cmD {k : Nat} {f C q : Addr} {fd : FuncData} {ps : List Str} {sp : DSp} {W : DW'} {pins : List (Addr × Obj)} {σ : L2.St} {H : Hp} {s : Shared} {M : Mp} {ρ : Rho} {us : List Value} {vs : List V} {ds : List D} {R : DK} {Q : VK} {kw : List (Str × Value)} {zs : List Value}
    (F : DFn X.prog X.w X.K X.mg X.base k f fd ps sp) (c : Cy X.A k) (tk : DTk X B W) (I : Inv X ((q, PySem.W.methodObj (.ref f) (.ref C)) :: pins) σ H s) (hh : Here X B ρ σ M H) (hb : BindsTo s fd ⟨.ref C :: us, kw⟩ (ps.zip zs)) (r : Vals vs zs) (rs : RepVs X.K X.mg M H ds vs)
    (h : sp ds M R fun x M' => W x ρ M') (z : Back X M H R Q) : wpAny (model X.prog X.w) X.A (call (.ref q) us kw) (EP X pins σ Q) X.xe s := by
  have y : wpAny (model X.prog X.w) X.A (call (.ref q) us kw) (EP X ((q, PySem.W.methodObj (.ref f) (.ref C)) :: pins) σ Q) X.xe s := by
    refine wpAny_call (PySem.W.method_call (ClX.pin_at I) (codeAny_mono (run_dfn F c tk I hh hb r rs h z) fun r s' hq => ?_))
    cases r with
    | error e => exact hq
    | ok fl => cases fl <;> exact hq
  exact thn y fun _ _ y => ClX.unpinE y
theorem de_cm {k : Nat} {c m : Str} {ps : List Str} {sp : DSp} {W : DW'} {e : Expr} {es : List Expr} {t : TDs} {npos apos pos : Pos} {pl : Sem Bool} (G : GCm X.prog X.w X.K X.mg X.base k c m ps sp) (cy : Cy X.A k) (tk : DTk X B W) (hg : Gl X c) (ha : DA X B (e :: es) t)
    (hdb : (c == ("__debug__" : Str)) = false := by decide) (hst : starEach (e :: es) X.env = (false, eval e X.env) :: starEach es X.env := by rfl) (hpl : (backTo pos (starEach es X.env)).any (·.1) = false := by rfl)
    (ht : eval (.Call (.Attribute (.Name c npos) m apos) (e :: es) [] pos) X.env = (do
      let ov ← eval (.Name c npos) X.env
      standAt apos.atName
      let (f, first) ← holding [ov] (getMethod ov m pl)
      callWith pos f first (backTo pos (starEach (e :: es) X.env)) (backToKw pos (keywordEach [] X.env))) := by rfl) :
    DE X B (.Call (.Attribute (.Name c npos) m apos) (e :: es) [] pos) (dCm c sp W t) := by
  obtain ⟨C, mc, p, g, fd, hm, cr, cmt, F, hb⟩ := G
  constructor
  intro pins s σ H Q I h
  obtain ⟨ρ, M, R, hh, h, q⟩ := h
  refine PySem.W.methodCall_KW (pl := pl) (ld_glob I hg hm ?_ hdb) ht
  refine ClX.getmethcm_ok I cr cmt fun s2 I2 => ?_
  refine ClX.callwith_cm I2 (ClX.base_none I (Nat.le_refl _)) cmt.fi (thn (ha.run pos _ s2 σ H (fun vs H2 => ∃ ds M2, Keep M H M2 H2 ∧ RepM X.K X.mg M2 H2 ∧ RepVs X.K X.mg M2 H2 ds vs ∧ sp (.cls c :: ds) M2 R fun x M3 => W x ρ M3) I2
    ⟨ρ, M, _, hh, h, fun ds M2 vs H2 h2 k2 m2 r2 => ⟨ds, M2, k2, m2, r2, h2⟩⟩) fun us s3 hs => ?_) hst hpl
  obtain ⟨vs, H3, I3, r, ds, M3, k3, m3, r3, h3⟩ := hs
  refine ⟨⟨ClX.pin_at I3, I3.kIn⟩, ?_⟩
  have rr : RepVs X.K X.mg M3 H3 (.cls c :: ds) (.ref C :: vs) := .cons (by unfold RepV; exact ⟨C, rfl, hm⟩) r3
  have hl : (Value.ref C :: us).length = ps.length := by
    rw [← F.len _ _ _ _ h3, List.length_cons, List.length_cons, ← r.length, ← r3.length]
  have hb' := hb s3 (.ref C :: us) I3.kIn (by rw [List.append_nil]; exact hl)
  rw [List.append_nil] at hb'
  exact run_cmD (zs := .ref C :: us) (vs := .ref C :: vs) F cy tk I3 (hh.step k3 m3) hb' (.cons rfl r) rr h3 fun d M4 v H4 h4 k4 m4 r4 => q d M4 v H4 h4 (k3.trans k4) m4 r4
/-- C.m(k = v, ..) -/
def dCmK (c : Str) (n : Nat) (is : List Nat) (sp : DSp) (W : DW') (tk : TDs) : TD := fun ρ M Q => tk ρ M fun es M1 => es.length = n ∧ sp (pick is (.cls c :: es)) M1 Q fun x M2 => W x ρ M2
theorem de_cmK {k : Nat} {c m : Str} {ks : List Str} {is : List Nat} {sp : DSp} {W : DW'} {kws : List Keyword} {tk : TDs} {npos apos pos : Pos} {pl : Sem Bool} (G : GCmK X.prog X.w X.K X.mg X.base k c m ks is sp) (cy : Cy X.A k) (tkk : DTk X B W) (hg : Gl X c) (hkw : DKw X B kws tk)
    (hks : (backToKw pos (keywordEach kws X.env)).filterMap (·.1) = ks := by rfl) (hall : (backToKw pos (keywordEach kws X.env)).all (·.1.isSome) = true := by rfl) (hdb : (c == ("__debug__" : Str)) = false := by decide)
    (hpl : ((backTo pos (starEach [] X.env)).any (·.1) || (backToKw pos (keywordEach kws X.env)).any (·.1.isNone)) = false := by rfl)
    (ht : eval (.Call (.Attribute (.Name c npos) m apos) [] kws pos) X.env = (do
      let ov ← eval (.Name c npos) X.env
      standAt apos.atName
      let (f, first) ← holding [ov] (getMethod ov m pl)
      callWith pos f first (backTo pos (starEach [] X.env)) (backToKw pos (keywordEach kws X.env))) := by rfl) :
    DE X B (.Call (.Attribute (.Name c npos) m apos) [] kws pos) (dCmK c ks.length is sp W tk) := by
  obtain ⟨C, mc, p, g, fd, ps, hm, cr, cmt, F, hb⟩ := G
  constructor
  intro pins s σ H Q I h
  obtain ⟨ρ, M, R, hh, h, q⟩ := h
  refine PySem.W.methodCall_KW (pl := pl) (ld_glob I hg hm ?_ hdb) ht
  refine ClX.getmethcm_ok I cr cmt fun s2 I2 => ?_
  refine callWith_MKW0 (g := g) (self := .ref C) cmt.fi hall ?_ hpl
  refine thn (hkw.run pos _ s2 σ H (fun vs H1 => ∃ es M1, Keep M H M1 H1 ∧ RepM X.K X.mg M1 H1 ∧ RepVs X.K X.mg M1 H1 es vs ∧ es.length = ks.length ∧ sp (pick is (.cls c :: es)) M1 R fun x M2 => W x ρ M2) I2
    ⟨ρ, M, _, hh, h, fun ds M1 vs H1 h1 k1 m1 r1 => ⟨ds, M1, k1, m1, r1, h1⟩⟩) fun ws s3 hs => ?_
  obtain ⟨zs, H3, I3, rz, es, M3, k3, m3, r3, hl, h3⟩ := hs
  refine ⟨⟨ClX.pin_at I3, I3.kIn⟩, ?_⟩
  rw [hks]
  have rr : RepVs X.K X.mg M3 H3 (.cls c :: es) (.ref C :: zs) := .cons (by unfold RepV; exact ⟨C, rfl, hm⟩) r3
  have rv : Vals (.ref C :: zs) (.ref C :: ws) := .cons rfl rz
  exact run_cmD (kw := ks.zip ws) (zs := pick is (.ref C :: ws)) F cy tkk I3 (hh.step k3 m3) (hb s3 [.ref C] ws rfl (by rw [← rz.length, ← r3.length, hl])) (Vals.pick rv is) (RepVs.pick rr is) h3 fun d M4 v H4 h4 k4 m4 r4 => q d M4 v H4 h4 (k3.trans k4) m4 r4
end
end DL
namespace DL
open PySem PySem.Spec L2
section
variable {X : Cx} {B : At}
/-- cls(..), cls a local that holds the class c -/
def dMakeV (i : Nat) (c : Str) (sp : DSp) (W : DW') (t : TDs) : TD := fun ρ M Q => ρ[i]? = some (some (.cls c)) ∧ dMake c sp W t ρ M Q
theorem de_makeV {k i : Nat} {n c : Str} {ps : List Str} {sp : DSp} {W : DW'} {e : Expr} {es : List Expr} {t : TDs} {p pos : Pos} (G : GMk X.prog X.w X.K X.mg X.base k c ps sp) (cy : Cy X.A (k + 1)) (tk : DTk X B W) (hN : X.N[i]? = some n) (hv : Vis X.env.scope n) (ha : DA X B (e :: es) t)
    (hd : (n == ("__debug__" : Str)) = false := by decide) (hcd : (n == ("__classdict__" : Str)) = false := by decide) (he : starEach (e :: es) X.env = (false, eval e X.env) :: starEach es X.env := by rfl) (hpl : (backTo pos (starEach es X.env)).any (·.1) = false := by rfl) :
    DE X B (.Call (.Name n p) (e :: es) [] pos) (dMakeV i c sp W t) := by
  obtain ⟨C, f, fd, hm, Y, F', hb⟩ := G
  constructor
  intro pins s σ H Q I h
  obtain ⟨ρ, M, R, hh, ⟨hc, h⟩, q⟩ := h
  obtain ⟨v0, hs, rv0⟩ := hh.s.2 i _ hc
  unfold RepV at rv0
  obtain ⟨C', rfl, hm'⟩ := rv0
  rw [hm] at hm'
  cases hm'
  refine wpAny_Call_Name_kw (thn ((pe_var (pos := p) hN hv hd hcd).run pins s σ H (fun v H1 => v = .ref C ∧ H1 = H) I ⟨.ref C, hs, rfl, rfl⟩) fun u s0 ⟨v, H0, I0, r0, q0⟩ => ?_)
  obtain ⟨ev, eH⟩ := q0
  subst ev
  subst eH
  obtain rfl : u = Value.ref C := r0
  refine PySem.W.callWith_K (h₀ := X.base) I.ok.mod.kin Y.kp (thn (ha.run pos pins s0 σ H0 (fun vs H1 => ∃ ds M1, Keep M H0 M1 H1 ∧ RepM X.K X.mg M1 H1 ∧ RepVs X.K X.mg M1 H1 ds vs ∧ ∀ x, M1 x = none → sp (.ref x :: ds) (um M1 x (.ins c [])) (mkQ c x R) fun e M2 => W e ρ M2) I0
    ⟨ρ, M, _, hh, h, fun ds M1 vs H1 h1 k1 m1 r1 => ⟨ds, M1, k1, m1, r1, h1⟩⟩) fun us s1 hs1 => ?_) he hpl
  obtain ⟨vs, H1, I1, r, ds, M1, k1, m1, r1, h1⟩ := hs1
  refine ⟨I1.kIn, run_make hm Y F' cy tk hb I1 (hh.step k1 m1) r r1 h1 fun x d M2 H2 n z k2 m2 => ?_⟩
  unfold mkQ at z
  split at z
  · split at z
    · rename_i c' fs e1
      obtain ⟨rfl, z⟩ := z
      refine ⟨rfl, ?_⟩
      obtain ⟨C, dx, gs, hc, ha, hF⟩ := m2 x _ e1
      have k' : Keep M1 H1 (dm M2 x) H2 := ⟨fun b o e t' n' => let ⟨y1, y2⟩ := k2.k0 b o e t' n'; ⟨y1, by
        by_cases hb : b = x
        · subst hb; exact dm_same _ _
        · rw [dm_ne hb]; exact y2⟩⟩
      have l : MLe (dm M2 x) M2 := dm_le
      refine q _ _ _ _ z (k1.trans k') (m2.less l) ?_
      unfold RepV
      exact ⟨x, C, dx, gs, rfl, dm_same _ _, hc, ha, hF.1, RepVs.keep (Keep.rfl'.less l) _ _ hF.2⟩
    · exact z.elim
  · exact z.elim
end
end DL
set_option maxHeartbeats 2000000
/-! DLzi: == and != by an own __eq__, len by an own __len__. -/
namespace DL
open PySem PySem.Spec L2
section
open Builtin PySem.W
variable {prog : Program} {w : World} {A : Around} {K : PySem.W.Frag} {E : Value → Shared → Prop} {s : Shared} {x C f L : Addr} {h₀ : Heap} {m : Str → Option Value} {ox : Obj} {od : Option Obj} {b tb : Value}
end
end DL
namespace DL
open PySem PySem.Spec L2
/-- what stands on the right -/
def rhsE (M : Mp) (c : Str) (y : D) : Prop := isOf M c y ∨ y.tyn M ≠ none
section
variable {X : Cx} {B : At}
end
end DL
/-! DLzj: the head's facts of classmethods, keyword methods and own ==. -/
namespace DL
open PySem PySem.Spec L2
section
variable {P : Program} {w : World} {K : PySem.W.Frag} {mg : Str → Option Value} {base h : Heap} {k : Nat} {c m : Str} {ps ks : List Str} {is : List Nat} {sp : DSp} {fd : FuncData}
theorem cm_g (X : K.In h) (G : h.Ns mainGlobals mg) (g : (Fx.fa (.glo c)).ok K = true) (y : (Fx.cm c m).ok K = true) (F : DFn P w K mg base k (cAd K c m) fd ps sp) (b : Binds K fd ps []) : GCm P w K mg base k c m ps sp :=
  ⟨_, _, _, _, fd, He.glo_ok X G (fa_ok g), (cm_ok y).1, (cm_ok y).2, F, b⟩
theorem cmk_g (X : K.In h) (G : h.Ns mainGlobals mg) (g : (Fx.fa (.glo c)).ok K = true) (y : (Fx.cm c m).ok K = true) (F : DFn P w K mg base k (cAd K c m) fd ps sp) (b : KwB K fd ps 1 ks is) : GCmK P w K mg base k c m ks is sp :=
  ⟨_, _, _, _, fd, ps, He.glo_ok X G (fa_ok g), (cm_ok y).1, (cm_ok y).2, F, b⟩
end
end DL
set_option maxHeartbeats 2000000
/-! DLzk: a tuple so many times. -/
namespace DL
open PySem PySem.Spec L2
open AutoSeq1 (wpAny_loadPart')
section
variable {X : Cx} {B : At}
end
end DL
set_option maxHeartbeats 2000000
/-! DLzl: repr of a value in which {} may stand. -/
namespace DL
open PySem PySem.Spec L2
mutual
/-- printable, {} let, but no lists -/
def D.pe : Nat → D → Bool
  | _, .non => true
  | _, .bl _ => true
  | _, .int _ => true
  | _, .str s => PyData.canLay0 (.str s)
  | 0, .tup _ => false
  | n + 1, .tup xs => pes n xs
  | _, .lst _ => false
  | _, .scr _ => false
  | _, .inst _ _ _ => false
  | _, .ref _ => false
  | _, .cls _ => false
  | _, .ty _ => false
  | _, .dct => true
  | _, .ptp _ => false
  | _, .ltp _ => false
  | _, .dcs _ _ => false
  | _, .dts _ _ => false
  | _, .exc _ _ _ => false
def pes : Nat → List D → Bool
  | _, [] => true
  | n, x :: xs => x.pe n && pes n xs
end
theorem Pairs_nil {P : Program} {w : World} {es : List DictEntry} (h : Pairs (mixKind P w) es []) : es = [] := by cases h; rfl
section
variable {X : Cx} {pins : List (Addr × Obj)} {σ : St} {H : Hp} {s : Shared} {mg : Str → Option Value} {M : Mp}
mutual
theorem pe_reads (I : Inv X pins σ H s) : ∀ (n : Nat) (d : D) (v : V) (u : Value), d.pe n = true → RepV X.K mg M H d v → RelV v u → (∃ as, Reads s.heap u d.py as ∧ sysModules ∉ as) ∧ d.py.depth ≤ n + 1
  | _, .non, v, u, _, r, ru => by
    unfold RepV at r; subst r; cases ru
    exact ⟨⟨_, Reads.none, by simp⟩, by simp [D.py, PyData.depth]⟩
  | _, .bl b, v, u, _, r, ru => by
    unfold RepV at r; subst r; cases ru
    exact ⟨⟨_, Reads.bool b, by simp⟩, by simp [D.py, PyData.depth]⟩
  | _, .int i, v, u, _, r, ru => by
    unfold RepV at r; subst r
    obtain ⟨t, rfl⟩ := ru
    exact ⟨⟨_, Reads.int i t, by simp⟩, by simp [D.py, PyData.depth]⟩
  | _, .str x, v, u, _, r, ru => by
    unfold RepV at r; subst r
    obtain ⟨t, rfl⟩ := ru
    exact ⟨⟨_, Reads.str x t, by simp⟩, by simp [D.py, PyData.depth]⟩
  | 0, .tup xs, v, u, p, _, _ => by simp [D.pe] at p
  | n + 1, .tup xs, v, u, p, r, ru => by
    unfold RepV at r
    obtain ⟨a, vs, rfl, _, h, rs⟩ := r
    cases ru
    obtain ⟨its, rv, ⟨o, ho, hc, m, hd⟩, _⟩ := I.tuple (TupH.sq (K := X.K) h)
    obtain ⟨⟨as, hr, hs⟩, hl⟩ := pes_reads I n xs vs its (by simpa [D.pe] using p) rs rv
    refine ⟨⟨as, Reads.tuple ho hc hd hr, hs⟩, ?_⟩
    simp only [D.py, PyData.depth]
    omega
  | n, .dct, v, u, _, r, ru => by
    unfold RepV at r
    obtain ⟨a, rfl, _, h⟩ := r
    cases ru
    obtain ⟨_, hs, vs, kv, o, es, ep, ho, he, hd, _, pr, _⟩ := dk_of I.hok h
    have hv : vs = [] := by cases kv; rfl
    subst hv
    have e := Pairs_nil pr
    refine ⟨⟨_, Reads.dict (kvs := []) (as := []) (bs := []) ho he.1 hd (by rw [e]; exact ReadsAll.nil) (by rw [e]; exact ReadsAll.nil), ?_⟩, by simp [D.py, PyData.depth, PyData.depthKv]⟩
    intro z
    have : sysModules = a := by simpa using z
    rw [this] at hs
    simp at hs
  | _, .lst _, _, _, p, _, _ => by simp [D.pe] at p
  | _, .scr _, _, _, p, _, _ => by simp [D.pe] at p
  | _, .inst _ _ _, _, _, p, _, _ => by simp [D.pe] at p
  | _, .ref _, _, _, p, _, _ => by simp [D.pe] at p
  | _, .cls _, _, _, p, _, _ => by simp [D.pe] at p
  | _, .ty _, _, _, p, _, _ => by simp [D.pe] at p
  | _, .ptp _, _, _, p, _, _ => by simp [D.pe] at p
  | _, .ltp _, _, _, p, _, _ => by simp [D.pe] at p
  | _, .dcs _ _, _, _, p, _, _ => by simp [D.pe] at p
  | _, .dts _ _, _, _, p, _, _ => by simp [D.pe] at p
  | _, .exc _ _ _, _, _, p, _, _ => by simp [D.pe] at p
theorem pes_reads (I : Inv X pins σ H s) : ∀ (n : Nat) (ds : List D) (vs : List V) (us : List Value), pes n ds = true → RepVs X.K mg M H ds vs → Vals vs us → (∃ as, ReadsAll s.heap us (pys ds) as ∧ sysModules ∉ as) ∧ PyData.depthAll (pys ds) ≤ n + 1
  | n, [], vs, us, _, r, ru => by
    unfold RepVs at r; subst r; cases ru
    exact ⟨⟨_, ReadsAll.nil, by simp⟩, by simp [pys, PyData.depthAll]⟩
  | n, d :: ds, vs, us, p, r, ru => by
    unfold RepVs at r
    obtain ⟨v, vr, rfl, rv, rs⟩ := r
    have p' : d.pe n = true ∧ pes n ds = true := by simpa [pes] using p
    cases ru with
    | cons r1 r2 =>
      obtain ⟨⟨as, q1, h1⟩, l1⟩ := pe_reads I n d v _ p'.1 rv r1
      obtain ⟨⟨bs, q2, h2⟩, l2⟩ := pes_reads I n ds vr _ p'.2 rs r2
      refine ⟨⟨_, ReadsAll.cons q1 q2, fun z => ?_⟩, ?_⟩
      · rcases List.mem_append.mp z with z | z
        · exact h1 z
        · exact h2 z
      · simp only [pys, PyData.depthAll]
        omega
end
end
section
variable {X : Cx}
end
end DL
set_option maxHeartbeats 2000000
/-! DLzm: sizes of texts of values in which {} may stand. -/
namespace DL
open PySem PySem.Spec L2
mutual
def D.fitE (B : Nat) : D → Prop
  | .non => True
  | .bl _ => True
  | .int i => i.natAbs < 10 ^ (B - 1)
  | .str s => PyData.canLay0 (.str s) = true ∧ ∀ c ∈ s.cps.toList, c < 16 ^ 8
  | .tup xs => fitsE B xs
  | .lst _ => False
  | .scr _ => False
  | .inst _ _ _ => False
  | .ref _ => False
  | .cls _ => False
  | .ty _ => False
  | .dct => True
  | .ptp _ => False
  | .ltp _ => False
  | .dcs _ _ => False
  | .dts _ _ => False
  | .exc _ _ _ => False
def fitsE (B : Nat) : List D → Prop
  | [] => True
  | x :: xs => x.fitE B ∧ fitsE B xs
end
mutual
theorem D.szE_le (B : Nat) (hB : 2 ≤ B) : ∀ d : D, d.fitE B → d.py.shown.length ≤ d.sz B
  | .non, _ => by show 4 ≤ 5; decide
  | .bl b, _ => by cases b <;> (simp only [D.py, D.sz]; decide)
  | .int i, h => D.sz_le B hB (.int i) (by unfold D.fit; unfold D.fitE at h; exact h)
  | .str x, h => D.sz_le B hB (.str x) (by unfold D.fit; unfold D.fitE at h; exact h)
  | .tup xs, h => by
    have h1 := szsE_le B hB xs (by simpa only [D.fitE] using h)
    have h2 := tupleText_len_le (PyData.shownAll (pys xs))
    simp only [D.py, PyData.shown, D.sz]
    rw [shownAll_len, pys_length] at h2
    omega
  | .dct, _ => by simp only [D.py, D.sz]; decide
  | .lst _, h => by unfold D.fitE at h; exact h.elim
  | .scr _, h => by unfold D.fitE at h; exact h.elim
  | .inst _ _ _, h => by unfold D.fitE at h; exact h.elim
  | .ref _, h => by unfold D.fitE at h; exact h.elim
  | .cls _, h => by unfold D.fitE at h; exact h.elim
  | .ty _, h => by unfold D.fitE at h; exact h.elim
  | .ptp _, h => by unfold D.fitE at h; exact h.elim
  | .ltp _, h => by unfold D.fitE at h; exact h.elim
  | .dcs _ _, h => by unfold D.fitE at h; exact h.elim
  | .dts _ _, h => by unfold D.fitE at h; exact h.elim
  | .exc _ _ _, h => by unfold D.fitE at h; exact h.elim
theorem szsE_le (B : Nat) (hB : 2 ≤ B) : ∀ xs : List D, fitsE B xs → ((PyData.shownAll (pys xs)).map (·.length)).sum + 2 * xs.length ≤ szs B xs
  | [], _ => by simp [pys, PyData.shownAll, szs]
  | x :: xs, h => by
    have h' : x.fitE B ∧ fitsE B xs := by simpa only [fitsE] using h
    have h1 := D.szE_le B hB x h'.1
    have h2 := szsE_le B hB xs h'.2
    simp only [pys, PyData.shownAll, List.map_cons, List.sum_cons, List.length_cons, szs]
    omega
end
mutual
theorem D.fitE_show (B : Nat) (hB : B ≤ 570) : ∀ d : D, d.fitE B → d.py.showable = true
  | .non, _ => rfl
  | .bl b, _ => rfl
  | .int i, h => D.fit_show B hB (.int i) (by unfold D.fit; unfold D.fitE at h; exact h)
  | .str x, h => rfl
  | .tup xs, h => by simp only [D.py, PyData.showable]; exact fitsE_show B hB xs (by simpa only [D.fitE] using h)
  | .dct, _ => rfl
  | .lst _, h => by unfold D.fitE at h; exact h.elim
  | .scr _, h => by unfold D.fitE at h; exact h.elim
  | .inst _ _ _, h => by unfold D.fitE at h; exact h.elim
  | .ref _, h => by unfold D.fitE at h; exact h.elim
  | .cls _, h => by unfold D.fitE at h; exact h.elim
  | .ty _, h => by unfold D.fitE at h; exact h.elim
  | .ptp _, h => by unfold D.fitE at h; exact h.elim
  | .ltp _, h => by unfold D.fitE at h; exact h.elim
  | .dcs _ _, h => by unfold D.fitE at h; exact h.elim
  | .dts _ _, h => by unfold D.fitE at h; exact h.elim
  | .exc _ _ _, h => by unfold D.fitE at h; exact h.elim
theorem fitsE_show (B : Nat) (hB : B ≤ 570) : ∀ xs : List D, fitsE B xs → PyData.showableAll (pys xs) = true
  | [], _ => rfl
  | x :: xs, h => by
    have h' : x.fitE B ∧ fitsE B xs := by simpa only [fitsE] using h
    simp only [pys, PyData.showableAll, Bool.and_eq_true]
    exact ⟨D.fitE_show B hB x h'.1, fitsE_show B hB xs h'.2⟩
end
mutual
theorem D.fitE_pe (B : Nat) : ∀ (d : D) (n : Nat), d.fitE B → d.dp ≤ n → d.pe n = true
  | .non, n, _, _ => by cases n <;> rfl
  | .bl b, n, _, _ => by cases n <;> rfl
  | .int i, n, _, _ => by cases n <;> rfl
  | .dct, n, _, _ => by cases n <;> rfl
  | .str x, n, h, _ => by
    have h' : PyData.canLay0 (.str x) = true ∧ ∀ c ∈ x.cps.toList, c < 16 ^ 8 := by simpa only [D.fitE] using h
    cases n <;> exact h'.1
  | .tup xs, n, h, k => by
    simp only [D.dp] at k
    obtain ⟨n, rfl⟩ : ∃ m, n = m + 1 := ⟨n - 1, by omega⟩
    exact fitsE_pe B xs n (by simpa only [D.fitE] using h) (by omega)
  | .lst _, _, h, _ => by unfold D.fitE at h; exact h.elim
  | .scr _, _, h, _ => by unfold D.fitE at h; exact h.elim
  | .inst _ _ _, _, h, _ => by unfold D.fitE at h; exact h.elim
  | .ref _, _, h, _ => by unfold D.fitE at h; exact h.elim
  | .cls _, _, h, _ => by unfold D.fitE at h; exact h.elim
  | .ty _, _, h, _ => by unfold D.fitE at h; exact h.elim
  | .ptp _, _, h, _ => by unfold D.fitE at h; exact h.elim
  | .ltp _, _, h, _ => by unfold D.fitE at h; exact h.elim
  | .dcs _ _, _, h, _ => by unfold D.fitE at h; exact h.elim
  | .dts _ _, _, h, _ => by unfold D.fitE at h; exact h.elim
  | .exc _ _ _, _, h, _ => by unfold D.fitE at h; exact h.elim
theorem fitsE_pe (B : Nat) : ∀ (xs : List D) (n : Nat), fitsE B xs → dps xs ≤ n → pes n xs = true
  | [], n, _, _ => by simp [pes]
  | x :: xs, n, h, k => by
    have h' : x.fitE B ∧ fitsE B xs := by simpa only [fitsE] using h
    simp only [dps] at k
    simp only [pes, Bool.and_eq_true]
    exact ⟨D.fitE_pe B x n h'.1 (by omega), fitsE_pe B xs n h'.2 (by omega)⟩
end
/-- a value that can be printed -/
structure Pr (Z : Nat) (d : D) : Prop where
  fit : d.fit 200 ∨ d.fitE 200
  dp : d.dp ≤ 10
  sz : d.sz 200 ≤ Z
theorem fit_rsv {B : Nat} {M : Mp} {d : D} (h : d.fit B ∨ d.fitE B) : rsv M d = d := by
  cases d with
  | ref a => rcases h with h | h <;> (first | unfold D.fit at h | unfold D.fitE at h) <;> exact h.elim
  | _ => rfl
/-- what repr asks of it -/
theorem Pr.ok {Z : Nat} {d : D} {M : Mp} (h : Pr Z d) (hz : Z ≤ 16777216) : rsv M d = d ∧ (d.pl 12 = true ∨ d.pe 12 = true) ∧ d.py.showable = true ∧ d.py.shown.length ≤ sizeLine := by
  obtain ⟨f, k, z⟩ := h
  refine ⟨fit_rsv f, ?_⟩
  rw [sizeLine_eq]
  rcases f with f | f
  · exact ⟨.inl (D.fit_pl 200 d 12 f (by omega)), D.fit_show 200 (by decide) d f, Nat.le_trans (D.sz_le 200 (by decide) d f) (by omega)⟩
  · exact ⟨.inr (D.fitE_pe 200 d 12 f (by omega)), D.fitE_show 200 (by decide) d f, Nat.le_trans (D.szE_le 200 (by decide) d f) (by omega)⟩
end DL
set_option maxHeartbeats 2000000
/-! DLzn: == with an instance on the right alone; bool of an instance with an own __bool__. -/
namespace DL
open PySem PySem.Spec L2
section
variable {prog : Program} {w : World} {A : Around}
end
section
open Builtin PySem.W
variable {prog : Program} {w : World} {A : Around} {K : PySem.W.Frag} {E : Value → Shared → Prop} {s : Shared} {x C f : Addr} {ox : Obj} {od : Option Obj} {a : Value}
end
section
variable {X : Cx} {B : At}
end
section
variable {P : Program} {w : World} {K : PySem.W.Frag} {mg : Str → Option Value} {h : Heap} {c : Str}
end
end DL
set_option maxHeartbeats 2000000
/-! DLzo: list.count of a number. -/
namespace DL
open PySem PySem.Spec L2
section
variable {X : Cx} {B : At}
end
end DL
set_option maxHeartbeats 2000000
/-! DLzp: sorted(set(t)), t a tuple of numbers. -/
namespace DL
open PySem PySem.Spec L2
section
variable {X : Cx} {B : At}
end
end DL
set_option maxHeartbeats 3200000
/-! DLzq: sorted(set(xs)) of a list of numbers too. -/
namespace DL
open PySem PySem.Spec L2 PyProof.Rows
section
variable {P : Program} {w : World} {A : Around} {E : Value → Shared → Prop} {s : Shared}
end
section
variable {X : Cx} {B : At}
end
end DL
set_option maxHeartbeats 4000000
/-! DLzr: several classes in one except clause; a def called in an except suite with the caught error; count of flat values. -/
namespace HotX
open PySem PySem.Spec PyProof.Rows
section
variable {prog : Program} {w : World} {A : Around} {E : Value → Shared → Prop} {s : Shared}
end
end HotX

namespace L2H
open PySem PySem.Spec PyProof.Rows L2 HotX
end L2H
namespace L2
open PySem PySem.Spec PyProof.Rows
/-! ### except (A, B, C) as e -/
/-- the test of a clause: its value is matched by what cs tells -/
def TstOk (X : Cx) (t : Expr) (cs : List Value) : Prop := ∀ (a : Addr) (pn pins : List (Addr × Obj)) (σ : St) (H : Hp) (s : Shared) (Q : Value → Shared → Prop) (E : Value → Shared → Prop), Inv (X.suite a pn) pins σ H s →
  (∀ c h', (∀ b o, s.heap.get? b = some o → h'.get? b = some o) → (∀ cls b, PySem.W.Looks (model X.prog X.w) h' (typeOf (.ref a)) cls → PySem.W.exmAny X.K cls cs = some b → PySem.W.Looks (model X.prog X.w) h' (excMatches (.ref a) c) b) → Q c { s with heap := h' }) →
  wpAny (model X.prog X.w) (X.A.mark (some (.ref a))) (eval t X.env) Q E s
section
variable {X : Cx} {x1 x2 x3 : Str} {c1 c2 c3 : Addr} {p1 p2 p3 pos : Pos} {k : Nat}
end
/-- the clause's name -/
def NmOk (X : Cx) (nm : Option Str) (i : Option Nat) : Prop := match nm, i with
  | none, none => True
  | some n, some i => X.N.Nodup ∧ X.N[i]? = some n ∧ X.env.kindOf n = some .local
  | _, _ => False
section
variable {X : Cx} {body : List Stmt} {tst : Expr} {nm : Option Str} {b₀ : Stmt} {suite : List Stmt} {cs : List Value} {i : Option Nat} {ts : Addr → Value → Option Addr → TS} {pos pos' : Pos} {tb : WX → TS} {Wout : WX}
end
end L2
set_option maxHeartbeats 4000000
/-! DLzs: the same over data. -/
namespace DL
open PySem PySem.Spec L2
/-! ### except (A, B, C) as e -/
def ExmTN (K : PySem.W.Frag) (mg : Str → Option Value) (c' : Str) (cs : List Value) (b : Bool) : Prop := ∃ v', ClsV mg c' v' ∧ PySem.W.exmAny K v' cs = some b
section
variable {X : Cx} {B : At}
end
/-! ### a def called with the caught error -/
structure CyH (A : Around) (k : Nat) : Prop where
  room : L2H.RoomH k A
  gd : A.guards = some []
theorem CyH.hu {A : Around} {k : Nat} (c : CyH A k) : A.units + 64 < cLine := by have := c.room.un; omega
theorem CyH.hu65 {A : Around} {k : Nat} (c : CyH A k) : A.units + 65 < cLine := by have := c.room.un; omega
theorem CyH.deeper {A : Around} {k : Nat} (c : CyH A (k + 1)) (env : Env) : CyH (A.deeper env) k := ⟨c.room.deeper env, guards_deeper env c.gd⟩
theorem CyH.mono {A : Around} {j k : Nat} (c : CyH A j) (h : j ≤ k) : CyH A j := c
theorem CyH.le {A : Around} {j k : Nat} (c : CyH A k) (h : j ≤ k) : CyH A j := ⟨c.room.mono h, c.gd⟩
/-- the body's context: e, the handled error, is pinned -/
abbrev cxHD (P : Program) (w : World) (K : PySem.W.Frag) (mg : Str → Option Value) (base : Heap) (N : List Str) (qual : Str) (st : Stmt) (f : Addr) (cdv : Value) (A : Around) (outer : List Env) (s : Shared) (H : Hp) (p : Addr × Obj) : Cx :=
  L2H.cxH (L2N.CX P w) P w K mg base N qual (defScope st) f cdv A outer s H (fun _ _ _ => False) p
abbrev TTe := Addr → XD → Mp → DK → Prop
def GFnE (P : Program) (w : World) (K : PySem.W.Frag) (mg : Str → Option Value) (base : Heap) (k : Nat) (x a0 : Str) (TT : TTe) : Prop :=
  ∃ (g : Addr) (fd : FuncData) (st : Stmt) (N : List Str), mg x = some (.ref g) ∧ PySem.W.keepIn K (.ref g) = true ∧ FunP K x x st g fd ∧ Binds K fd [a0] [] ∧ FnScope N [a0] (defScope st) ∧
    ∀ (cdv : Value) (A : Around) (outer : List Env) (s : Shared) (H : Hp) (M : Mp) (e : Addr) (oe : Obj) (cls : Value) (d : Option Addr) (y : XD) (Q : DK), L2H.Hot1 A (e, oe) → L2N.Zn cls d oe → (∃ vs, oe.data = .fields vs) →
      CyH (A.deeper (PyProof.Rows.envOfC x (defScope st) s.heap.objs.size g cdv)) k → RepX K mg M H y cls d → TT e y M Q →
      ∃ t, DSs (cxHD P w K mg base N x st g cdv A outer s H (e, oe)) ⟨M, H⟩ (defBody st) t ∧ t { nx := fun _ M' => Wk (Q .non) M', rt := fun d M' => Wk (Q d) M' } (startD N [.ref e]) M
theorem GFnE.mono {P : Program} {w : World} {K : PySem.W.Frag} {mg : Str → Option Value} {base : Heap} {j k : Nat} {x a0 : Str} {TT : TTe} (G : GFnE P w K mg base j x a0 TT) (h : j ≤ k) : GFnE P w K mg base k x a0 TT := by
  obtain ⟨g, fd, st, N, h1, h2, h3, h4, h5, h6⟩ := G
  exact ⟨g, fd, st, N, h1, h2, h3, h4, h5, fun cdv A outer s H M e oe cls d y Q a1 a2 a3 c => h6 cdv A outer s H M e oe cls d y Q a1 a2 a3 (c.le h)⟩
section
variable {X : Cx} {B : At} {a : Addr} {oe : Obj} {cls : Value} {d : Option Addr} {pn : List (Addr × Obj)} {y : XD}
end
/-! ### the error in the callee -/
section
variable {X : Cx} {B : At} {a : Addr} {oe : Obj} {cls : Value} {d : Option Addr} {x : XD}
end
/-! ### a, b = x, y while an error is handled -/
section
variable {X : Cx} {B : At}
/-! ### xs.count(x) of flat values -/
end
end DL
set_option maxHeartbeats 4000000
/-! DLzt: raise X() of an own class without attributes. -/
namespace DL
open PySem PySem.Spec L2
section
variable {X : Cx} {B : At}
end
end DL
set_option maxHeartbeats 4000000
/-! DLzu: sorted(t) of a tuple of numbers. -/
namespace DL
open PySem PySem.Spec PyProof.Rows
section
variable {prog : Program} {w : World} {A : Around} {E : Value → Shared → Prop} {s : Shared}
end
open L2
end DL
set_option maxHeartbeats 4000000
/-! DLzv: list(range(..)), tuple(range(..)). -/
namespace DL
open PySem PySem.Spec PyProof.Rows
open L2
section
variable {X : Cx} {B : At}
end
end DL
set_option maxHeartbeats 4000000
/-! DLzw: xs.pop(i) of a list that may change, list(t) as a list that may change. -/
namespace DL
open PySem PySem.Spec PyProof.Rows
open L2
section
variable {X : Cx} {B : At}
end
end DL
set_option maxHeartbeats 4000000
/-! DLzx: sorted(set(..)) of up to some 4000 numbers. -/
namespace L2
open PySem PySem.Spec PyProof.Rows
section
variable {P : Program} {w : World} {A : Around} {E : Value → Shared → Prop} {s : Shared} {a : Addr}
end
end L2
namespace DL
open PySem PySem.Spec PyProof.Rows
open L2
section
variable {X : Cx} {B : At}
end
end DL
/-! DLzy: the texts of values hold signs that can be laid. -/
namespace DL
open PySem PySem.Spec L2
def okC (l : List Nat) : Prop := ∀ c ∈ l, c < 0x110000
theorem okC.app {a b : List Nat} (h : okC a) (k : okC b) : okC (a ++ b) := fun c hc => (List.mem_append.mp hc).elim (h c) (k c)
theorem strOk_iff (x : Str) : PyData.strOk x = true ↔ okC x.cps.toList := by
  unfold PyData.strOk okC
  rw [Array.all_eq_true_iff_forall_mem]
  constructor
  · intro h c hc
    have := h c (by simpa using hc)
    simpa using this
  · intro h c hc
    have := h c (by simpa using hc)
    simpa using this
theorem okC_string (s : String) : okC (Str.ofString s).cps.toList := by
  rw [Str.ofString_eq_toList]
  intro c hc
  obtain ⟨d, _, rfl⟩ := List.mem_map.mp (by simpa using hc)
  have := d.valid
  show d.val.toNat < _
  rcases this with h | ⟨_, h⟩
  · exact Nat.lt_trans h (by decide)
  · exact h
theorem okC_append {a b : Str} (h : okC a.cps.toList) (k : okC b.cps.toList) : okC (a ++ b).cps.toList := by
  show okC (a.cps ++ b.cps).toList
  rw [Array.toList_append]
  exact h.app k
theorem okC_join (s : Str) (hs : okC s.cps.toList) : ∀ ts : List Str, (∀ t ∈ ts, okC t.cps.toList) → okC (Str.join s ts).cps.toList
  | [], _ => fun c hc => by cases hc
  | [x], h => h x (List.mem_cons_self ..)
  | x :: y :: r, h => okC_append (okC_append (h x (List.mem_cons_self ..)) hs) (okC_join s hs (y :: r) fun t ht => h t (List.mem_cons_of_mem _ ht))
theorem okC_from : ∀ (ts : List Str) (k : Nat) (acc : Str), okC acc.cps.toList → (∀ t ∈ ts, okC t.cps.toList) → okC (textFrom k acc ts).cps.toList
  | [], k, acc, h, _ => h
  | t :: ts, k, acc, h, ht => by
    unfold textFrom
    exact okC_from ts (k + 1) _ (okC_append (okC_append h (okC_string _)) (ht t (List.mem_cons_self ..))) fun x hx => ht x (List.mem_cons_of_mem _ hx)
theorem okC_chars (l : List Char) : okC (l.map Char.toNat) := fun c hc => by
  obtain ⟨d, _, rfl⟩ := List.mem_map.mp hc
  have := d.valid
  show d.val.toNat < _
  rcases this with h | ⟨_, h⟩
  · exact Nat.lt_trans h (by decide)
  · exact h
theorem okC_hex (w : Nat) (l : List Char) : okC (List.replicate (w - (l.map Char.toNat).length) 48 ++ l.map Char.toNat) := okC.app (fun c hc => by rw [(List.mem_replicate.mp hc).2]; decide) (okC_chars l)
theorem okC_cons {a : Nat} {l : List Nat} (h : a < 0x110000) (k : okC l) : okC (a :: l) := fun c hc => (List.mem_cons.mp hc).elim (fun e => e ▸ h) (k c)
theorem okC_nil : okC [] := fun _ h => nomatch h
theorem okC_char (q c : Nat) (hc : c < 0x110000) : okC (PySem.Builtin.Str.reprChar q c) := by
  unfold PySem.Builtin.Str.reprChar
  have two : ∀ a b : Nat, a < 0x110000 → b < 0x110000 → okC [a, b] := fun a b ha hb => okC_cons ha (okC_cons hb okC_nil)
  simp only
  split
  · exact two _ _ (by decide) hc
  · split
    · exact two _ _ (by decide) (by decide)
    · split
      · exact two _ _ (by decide) (by decide)
      · split
        · exact two _ _ (by decide) (by decide)
        · split
          · exact okC_cons hc okC_nil
          · split
            · exact okC.app (two _ _ (by decide) (by decide)) (okC_hex 2 _)
            · split
              · exact okC.app (two _ _ (by decide) (by decide)) (okC_hex 4 _)
              · exact okC.app (two _ _ (by decide) (by decide)) (okC_hex 8 _)
theorem okC_fold (q : Nat) : ∀ (l : List Nat) (acc : Array Nat), okC acc.toList → okC l → okC (l.foldl (fun out c => out ++ (PySem.Builtin.Str.reprChar q c).toArray) acc).toList
  | [], acc, h, _ => h
  | c :: l, acc, h, hl => by
    rw [List.foldl_cons]
    refine okC_fold q l _ ?_ fun x hx => hl x (List.mem_cons_of_mem _ hx)
    rw [Array.toList_append]
    exact h.app (okC_char q c (hl c (List.mem_cons_self ..)))
theorem okC_repr (x : Str) (h : okC x.cps.toList) : okC (reprText x).cps.toList := by
  have hq : reprQuote x < 0x110000 := by unfold reprQuote; split <;> decide
  unfold reprText
  rw [Array.toList_push, ← Array.foldl_toList]
  exact okC.app (okC_fold _ _ _ (okC_cons hq okC_nil) h) (okC_cons hq okC_nil)
mutual
theorem okC_shown : ∀ d : PyData, d.canLay0 = true → okC d.shown.cps.toList
  | .none, _ => okC_string _
  | .bool true, _ => okC_string _
  | .bool false, _ => okC_string _
  | .int i, _ => okC_string _
  | .str x, h => by
    unfold PyData.shown
    exact okC_repr x ((strOk_iff x).mp (by simpa only [PyData.canLay0] using h))
  | .list xs, h => by
    unfold PyData.shown
    unfold listText
    exact okC_append (okC_from _ _ _ (okC_string _) (okC_shownAll xs (by simpa only [PyData.canLay0] using h))) (okC_string _)
  | .tuple xs, h => by
    unfold PyData.shown
    unfold tupleText
    exact okC_append (okC_append (okC_string _) (okC_join _ (okC_string _) _ (okC_shownAll xs (by simpa only [PyData.canLay0] using h)))) (okC_string _)
  | .dict _, h => by simp [PyData.canLay0] at h
theorem okC_shownAll : ∀ xs : List PyData, PyData.canLayAll0 xs = true → ∀ t ∈ PyData.shownAll xs, okC t.cps.toList
  | [], _, t, ht => by unfold PyData.shownAll at ht; cases ht
  | x :: xs, h, t, ht => by
    rw [PyData.canLayAll0, Bool.and_eq_true] at h
    unfold PyData.shownAll at ht
    rcases List.mem_cons.mp ht with rfl | ht
    · exact okC_shown x h.1
    · exact okC_shownAll xs h.2 t ht
end
end DL
set_option maxHeartbeats 4000000
/-! DLzz: parts of texts, split to a list that may change. -/
namespace DL
open PySem PySem.Spec PyProof.Rows
open L2
section
variable {X : Cx} {B : At}
end
end DL
set_option maxHeartbeats 4000000
/-! DLzza: dicts that may change, keys are numbers, texts or tuples of them: {}, d[k] = v, d[k], k in d, dict(pairs). -/
namespace DL
open PySem PySem.Spec PyProof.Rows
open L2
section
variable {X : Cx}
/-- the pairs, one behind the other, in a table of tuple keys -/
def mergeT (kvs more : List (List Key × V)) : List (List Key × V) := more.foldl (fun acc kv => putK acc kv.1 kv.2) kvs
theorem KT.into {H : Hp} : ∀ {more : List (List Key × V)} {rs : List (List Key × Addr × Value)} {kvs : List (List Key × V)} {xs : List (List Key × Addr × Value)}, KT H more rs → KT H kvs xs → KT H (mergeT kvs more) (storedAllH xs rs)
  | _, _, _, _, .nil, r => r
  | _, _, _, _, .cons (a := (k, v)) (b := (k', b, u)) h t, r => by
    cases (show k = k' from h.1)
    show KT H (mergeT (putK _ k v) _) (storedAllH (storedH _ k b u) _)
    exact KT.into t (KT.put r k h.2.1 h.2.2)
end
/-- a tuple's items as a key -/
def keyL : List D → Option (List Key)
  | [] => some []
  | .int i :: ds => (keyL ds).map (.inl i :: ·)
  | .str s :: ds => (keyL ds).map (.inr s :: ·)
  | _ => none
def valD {κ : Type} [DecidableEq κ] : List (κ × D) → κ → Option D
  | [], _ => none
  | (k, d) :: r, j => if k = j then some d else valD r j
def repD {κ : Type} [DecidableEq κ] : List (κ × D) → κ → D → List (κ × D)
  | [], _, _ => []
  | (k, d) :: r, j, e => (if k = j then (k, e) else (k, d)) :: repD r j e
/-- in its place, or at the end -/
def dctPut {κ : Type} [DecidableEq κ] (kvs : List (κ × D)) (k : κ) (d : D) : List (κ × D) := if (valD kvs k).isSome = true then repD kvs k d else kvs ++ [(k, d)]
section
variable {K : PySem.W.Frag} {mg : Str → Option Value} {M : Mp} {H : Hp}
section
variable {κ : Type} [DecidableEq κ]
theorem RepK.cons {k : κ} {d : D} {fs : List (κ × D)} {gs : List (κ × V)} (r : RepK K mg M H ((k, d) :: fs) gs) : ∃ v gr, gs = (k, v) :: gr ∧ RepV K mg M H d v ∧ RepK K mg M H fs gr := by
  obtain ⟨r1, r2⟩ := r
  cases gs with
  | nil => cases r1
  | cons g gr =>
    obtain ⟨k', v⟩ := g
    simp only [List.map_cons, List.cons.injEq] at r1
    obtain ⟨rfl, r1⟩ := r1
    simp only [List.map_cons] at r2
    unfold RepVs at r2
    obtain ⟨v', vr, e, ra, rb⟩ := r2
    cases e
    exact ⟨v, gr, rfl, ra, r1, rb⟩
theorem RepK.mk {k : κ} {d : D} {v : V} {fs : List (κ × D)} {gs : List (κ × V)} (ra : RepV K mg M H d v) (r : RepK K mg M H fs gs) : RepK K mg M H ((k, d) :: fs) ((k, v) :: gs) := by
  refine ⟨by simp only [List.map_cons, r.1], ?_⟩
  simp only [List.map_cons]
  unfold RepVs
  exact ⟨v, _, rfl, ra, r.2⟩
theorem RepK.nil {gs : List (κ × V)} (r : RepK K mg M H ([] : List (κ × D)) gs) : gs = [] := by
  have := r.1
  simpa using this
theorem RepK.val {j : κ} : ∀ {fs : List (κ × D)} {gs : List (κ × V)}, RepK K mg M H fs gs → (valD fs j = none → valV gs j = none) ∧ ∀ d, valD fs j = some d → ∃ v, valV gs j = some v ∧ RepV K mg M H d v
  | [], gs, r => by rw [r.nil]; exact ⟨fun _ => rfl, fun d e => by cases e⟩
  | (k, d) :: fs, gs, r => by
    obtain ⟨v, gr, rfl, ra, rb⟩ := r.cons
    obtain ⟨i1, i2⟩ := RepK.val (j := j) rb
    by_cases e : k = j
    · rw [valV_pos e]
      unfold valD
      rw [if_pos e]
      exact ⟨fun z => (by cases z), fun d z => (by cases z; exact ⟨v, rfl, ra⟩)⟩
    · rw [valV_neg e]
      unfold valD
      rw [if_neg e]
      exact ⟨i1, i2⟩
theorem RepK.rep {j : κ} {d : D} {v : V} (rv : RepV K mg M H d v) : ∀ {fs : List (κ × D)} {gs : List (κ × V)}, RepK K mg M H fs gs → RepK K mg M H (repD fs j d) (gs.map fun kv => if kv.1 = j then (kv.1, v) else kv)
  | [], gs, r => by rw [r.nil]; exact ⟨rfl, by unfold repD RepVs; rfl⟩
  | (k, d0) :: fs, gs, r => by
    obtain ⟨v0, gr, rfl, ra, rb⟩ := r.cons
    have ih := RepK.rep rv (j := j) rb
    unfold repD
    simp only [List.map_cons]
    by_cases e : k = j
    · rw [if_pos e, if_pos e]; exact ih.mk rv
    · rw [if_neg e, if_neg e]; exact ih.mk ra
theorem RepK.snoc {j : κ} {d : D} {v : V} (rv : RepV K mg M H d v) : ∀ {fs : List (κ × D)} {gs : List (κ × V)}, RepK K mg M H fs gs → RepK K mg M H (fs ++ [(j, d)]) (gs ++ [(j, v)])
  | [], gs, r => by rw [r.nil]; exact RepK.mk rv r |> fun z => by rw [r.nil] at z; exact z
  | (k, d0) :: fs, gs, r => by
    obtain ⟨v0, gr, rfl, ra, rb⟩ := r.cons
    exact (RepK.snoc rv rb).mk ra
theorem RepK.put {j : κ} {d : D} {v : V} {fs : List (κ × D)} {gs : List (κ × V)} (r : RepK K mg M H fs gs) (rv : RepV K mg M H d v) : RepK K mg M H (dctPut fs j d) (putK gs j v) := by
  obtain ⟨h1, h2⟩ := RepK.val (j := j) r
  unfold dctPut putK
  rw [valV_any]
  cases e : valD fs j with
  | none => rw [h1 e]; exact RepK.snoc rv r
  | some d0 =>
    obtain ⟨v0, e2, _⟩ := h2 _ e
    rw [e2]
    exact RepK.rep rv r
theorem RepK.length {fs : List (κ × D)} {gs : List (κ × V)} (r : RepK K mg M H fs gs) : fs.length = gs.length := by
  have := congrArg List.length r.1
  simpa using this.symm
end
end
section
variable {X : Cx} {B : At}
theorem repK_nil {κ : Type} {K : PySem.W.Frag} {mg : Str → Option Value} {M : Mp} {H : Hp} : RepK K mg M H ([] : List (κ × D)) [] := ⟨rfl, by simp only [List.map_nil]; unfold RepVs; rfl⟩
/-- the dict behind d[k] = v -/
def putM (M : Mp) (o k d : D) : Option Mp := match o with
  | .ref a => match M a with
    | some (.dK kvs) => if kvs.length < sizeLine then (match k with
      | .int i => some (um M a (.dK (dctPut kvs (.inl i) d)))
      | .str s => some (um M a (.dK (dctPut kvs (.inr s) d)))
      | _ => none) else none
    | some (.dT kvs) => if kvs.length < sizeLine then (match k with
      | .ltp xs => (keyL xs).map fun ks => um M a (.dT (dctPut kvs ks d))
      | _ => none) else none
    | _ => none
  | _ => none
end
end DL
set_option maxHeartbeats 4000000
/-! DLzzb: len(set(xs)) of a list of different numbers. -/
namespace DL
open PySem PySem.Spec PyProof.Rows
open L2
section
variable {X : Cx} {B : At}
end
end DL
set_option maxHeartbeats 4000000
/-! DLzzc: dict(zip(a, b)) of two tuples. -/
namespace DZ
open PySem
open PySem.Sem (wp)
section
variable {prog : Program} {w : World} {A : Around} {E : Value → Shared → Prop} {s : Shared}
end
end DZ
namespace DZ
open PySem PySem.Spec PyProof.Rows L2
section
variable {X : Cx}
end
end DZ
namespace DL
open PySem PySem.Spec PyProof.Rows L2
section
variable {X : Cx} {B : At}
end
end DL
set_option maxHeartbeats 4000000
/-! DLzzd: sum of a tuple of numbers. -/
namespace DL
open PySem PySem.Spec PyProof.Rows PyProof.V L2
section
variable {X : Cx} {B : At}
end
end DL
set_option maxHeartbeats 4000000
/-! DLzze: o[i], o[i] = v, x in o by own __getitem__, __setitem__, __contains__. -/
namespace DL
open PySem PySem.Spec PyProof.Rows L2
section
variable {M : Model} {A : Around} {E : Value → Shared → Prop} {s : Shared} {K : PySem.W.Frag} {x C f : Addr} {ox : Obj} {od : Option Obj} {v u : Value}
end
section
variable {X : Cx} {B : At}
end
end DL
set_option maxHeartbeats 4000000
/-! DLzzf: sorted(xs, key=lambda v: v[0]) of tuples that begin with a text. -/
namespace DL
open PySem PySem.Spec PyProof.Rows L2
section
variable {prog : Program} {w : World} {A : Around} {s : Shared}
end
section
variable {X : Cx} {B : At}
theorem RepVs.pair {K : PySem.W.Frag} {mg : Str → Option Value} {M : Mp} {H : Hp} : ∀ {ds : List D} {vs : List V}, RepVs K mg M H ds vs → ∀ b ∈ ds.zip vs, RepV K mg M H b.1 b.2
  | [], vs, _, b, h => by rw [List.zip_nil_left] at h; cases h
  | d :: ds, vs, r, b, h => by
    unfold RepVs at r
    obtain ⟨v, vr, rfl, r1, rs⟩ := r
    rw [List.zip_cons_cons] at h
    rcases List.mem_cons.mp h with rfl | h
    · exact r1
    · exact RepVs.pair rs b h
end
end DL
set_option maxHeartbeats 4000000
/-! DLzzg: tuple(list) as a tuple that is known to have no dict; dict(row of pairs) as a settled dict. -/
namespace DL
open PySem PySem.Spec PyProof.Rows L2
section
variable {X : Cx}
/-! ### dict(row of pairs) -/
end
/-- a tuple without a dict, or a list -/
def rowP (M : Mp) : D → Option (List D)
  | .ptp xs => some xs
  | d => asL M d
section
variable {X : Cx}
end
end DL
set_option maxHeartbeats 4000000
/-! DLzzh: C() of an own class whose __init__ takes no arguments, the instance may change. -/
namespace DL
open PySem PySem.Spec PyProof.Rows L2
section
variable {X : Cx} {B : At}
end
end DL
set_option maxHeartbeats 4000000
/-! DLzzi: x in (texts), x any value. -/
namespace DL
open PySem PySem.Spec PyProof.Rows L2
section
open AutoSeq1 (wpAny_loadPart')
end
section
variable {A : Around} {s : Shared}
end
section
variable {X : Cx} {B : At}
end
end DL
set_option maxHeartbeats 4000000
/-! DLzzj: sorted(d) of a dict of texts; walks of a settled one; its length. -/
namespace DL
open PySem PySem.Spec PyProof.Rows L2
section
variable {X : Cx}
end
section
variable {X : Cx} {B : At}
end
end DL
set_option maxHeartbeats 4000000
/-! DLzzk: displays of dicts with texts as keys, {} among them, as settled dicts; len of them. -/
namespace DL
open PySem PySem.Spec PyProof.Rows L2
section
variable {X : Cx} {B : At}
/-- a dict that may change, settled -/
theorem settleK {K : PySem.W.Frag} {mg : Str → Option Value} {M : Mp} {H : Hp} {p : Addr} {o : Obj} {kvs : List (Key × D)} {es : List (Key × V)} (m : RepM K mg M H) (hp : M p = some (.dK kvs)) :
    Keep M H (dm M p) (upd H p (.frz o (.dK es))) ∧ RepM K mg (dm M p) (upd H p (.frz o (.dK es))) := by
  have k : Keep M H (dm M p) (upd H p (.frz o (.dK es))) := ⟨fun b x hb _ n => by
    have ne : b ≠ p := fun z => by subst z; rw [hp] at n; cases n
    exact ⟨by rw [upd_ne ne]; exact hb, by rw [dm_ne ne]; exact n⟩⟩
  refine ⟨k, fun a u e => ?_, ?_⟩
  · have ne : a ≠ p := fun z => by subst z; rw [dm_same] at e; cases e
    rw [dm_ne ne] at e
    exact (m a u e).keep k (upd_ne ne)
  · obtain ⟨ws, q, _⟩ := m p _ hp
    exact Tabs.writeD m.tab q (fun _ z => by cases z) (fun _ _ z => by cases z) fun _ z => by cases z
end
end DL
set_option maxHeartbeats 4000000
/-! DLzzl: d != {} of settled dicts. -/
namespace DL
open PySem PySem.Spec PyProof.Rows L2
section
open AutoSeq1 (wpAny_loadPart')
end
section
variable {X : Cx} {B : At}
end
end DL
set_option maxHeartbeats 2000000
/-! DLzzm: == and != of two instances of one class without an own __eq__. -/
namespace DL
open PySem PySem.Spec L2
section
open Builtin PySem.W
variable {prog : Program} {w : World} {A : Around} {K : PySem.W.Frag} {E : Value → Shared → Prop} {s : Shared} {x y C : Addr} {ox oy : Obj} {od od' : Option Obj} {Q : Value → Shared → Prop}
end
section
variable {X : Cx} {B : At}
end
end DL
namespace DL
open PySem PySem.Spec L2
section
variable {X : Cx}
end
end DL
set_option maxHeartbeats 4000000
/-! DLzzn: a dict of texts that changes no more, settled where it stands; comprehensions over the keys of a settled dict. -/
namespace DL
open PySem PySem.Spec PyProof.Rows L2
section
variable {X : Cx} {B : At}
end
end DL
set_option maxHeartbeats 4000000
/-! DLzzo: a def that gives back a lambda without parameters, and the call of such a lambda by a name. -/
namespace DL
open PySem PySem.Spec PyProof.Rows L2 LamX
/-! ### one more thing is tracked -/
/-! ### the reading of what a def gives back: a value, or a lambda with what it captured -/
def putC (M : Mp) : List Addr → List D → Mp
  | c :: cs, d :: ds => um (putC M cs ds) c (.cel d)
  | _, _ => M
section
variable (X : Cx) (B : At)
end
section
variable {X : Cx} {B : At}
end
end DL
set_option maxHeartbeats 4000000
/-! DLzzp: the frame's end of a def that gives back a lambda. -/
namespace DL
open PySem PySem.Spec PyProof.Rows L2 LamX
section
variable {K : PySem.W.Frag} {mg : Str → Option Value}
end
section
variable {P : Program} {w : World} {K : PySem.W.Frag} {mg : Str → Option Value} {base : Heap}
end
end DL
set_option maxHeartbeats 4000000
/-! DLzzq: the call of a lambda that a def gave back. -/
namespace DL
open PySem PySem.Spec PyProof.Rows L2 LamX
def dmL (M : Mp) (cs : List Addr) : Mp := fun b => if b ∈ cs then none else M b
section
variable (P : Program) (w : World) (K : PySem.W.Frag) (mg : Str → Option Value) (base : Heap)
/-- what a lambda promises: sp, told of what it captured -/
structure GClo (k : Nat) (L : LamD) (sp : DSp) : Prop where
  run : ∀ (A : Around) (outer : List Env) (s : Shared) (H : Hp) (M : Mp) (f : Addr) (cs : List Addr) (ds : List D) (Q : DK) (E : XE'), Cy A k → Env0 P w K mg base A outer s H → RepM K mg M H → M f = some (.clo L cs) → cs.length = ds.length → cs.Nodup → (∀ (i : Nat) (c : Addr) (d : D), cs[i]? = some c → ds[i]? = some d → M c = some (.cel d)) →
    sp ds (dmL M cs) (fun d M' => Q d (putC M' cs ds)) (fun x M' => E x (putC M' cs ds)) → codeAny (model P w) A (.call (.ref f) ⟨[], []⟩) (CR (L2N.CX P w) outer P w H s (okQ K mg M H Q) (okE K mg M H E)) s
end
section
variable {P : Program} {w : World} {K : PySem.W.Frag} {mg : Str → Option Value} {base : Heap}
theorem GClo.mono {j k : Nat} {L : LamD} {sp : DSp} (G : GClo P w K mg base j L sp) (h : j ≤ k) : GClo P w K mg base k L sp := ⟨fun A outer s H M f cs ds Q E c => G.run A outer s H M f cs ds Q E (c.mono h)⟩
end
/-! ### the call -/
/-! ### words for the generator -/
end DL
set_option maxHeartbeats 4000000
/-! DLzzr: own instances among plain values: isinstance of a builtin kind, == and != with either on the left, x in (texts). -/
namespace PySem.SeqRoads2
open MeetsSeq
section
variable {prog : Program} {w : World} {A : Around} {E : Value → Shared → Prop} {s : Shared}
end
end PySem.SeqRoads2
namespace DL
open PySem PySem.Spec PyProof.Rows L2
section
open Builtin
open AutoSeq1 (wpAny_loadPart')
open PySem.MeetsSeq PySem.MeetsSeq2 PySem.SeqAt
variable {prog : Program} {w : World}
end

section
variable {X : Cx} {B : At}
end
section
open AutoSeq1 (wpAny_loadPart')
variable {A : Around} {s : Shared}
end
section
variable {X : Cx}
end
section
variable {X : Cx} {B : At}
theorem CmpD.or {op : CmpOp} {g1 g2 g : DR2} (c1 : CmpD X op g1) (c2 : CmpD X op g2) (h : ∀ x y M Q, g x y M Q → g1 x y M Q ∨ g2 x y M Q) : CmpD X op g := by
  obtain ⟨⟨r1, o1, p1⟩⟩ := c1
  obtain ⟨⟨r2, o2, p2⟩⟩ := c2
  exact ⟨⟨_, o1.or o2, fun M H d1 d2 v1 v2 R Q m a b g q => (h _ _ _ _ g).imp (fun g => p1 M H d1 d2 v1 v2 R Q m a b g q) fun g => p2 M H d1 d2 v1 v2 R Q m a b g q⟩⟩
end
section
variable {X : Cx}
end
end DL
namespace DL
open PySem PySem.Spec PyProof.Rows L2
end DL
set_option maxHeartbeats 4000000
/-! DLzzs: sorted(xs) of plain values that are alike (tuples of numbers and tuples ..). -/
namespace DL
open PySem PySem.Spec PyProof.Rows L2
section
variable {X : Cx}
end
end DL
set_option maxHeartbeats 4000000
/-! DLzzt: sorted(xs, key=lambda row: (len(row), row)). -/
namespace DL
open PySem PySem.Spec PyProof.Rows L2
section
variable {prog : Program} {w : World} {A : Around} {s : Shared}
end
section
variable {X : Cx} {B : At}
end
end DL
set_option maxHeartbeats 4000000
/-! DLzzu: min(t) of a tuple of numbers. -/
namespace DL
open PySem PySem.Spec PyProof.Rows L2
end DL
set_option maxHeartbeats 4000000
/-! DLzzv: own errors as values: made, asked for an attribute, asked for their class. -/
namespace DL
open PySem PySem.Spec L2
section
variable {X : Cx} {B : At}
end
end DL
set_option maxHeartbeats 4000000
/-! DLzzw: own errors made by name: c(f = e). -/
namespace DL
open PySem PySem.W PySem.Calls PyProof.Rows PySem.HandSPX
open Builtin Builtin.ObjectAttr
section
variable {M : Model} {A : Around} {E : Value → Shared → Prop} {h : Heap} {g : Array GenState} {d : Drawn} {t : Nat} {os : OsState}
variable {nm q : Str} {C N : Addr} {bs bm bmB : List Value} {hdct : Bool} {sn : List Str} {sub : List Value} {ab : Bool} {col : Option Bool} {dd : Option Addr} {k0 k1 k2 k3 k5 : Option Value} {B newId initId : String}
end
section
variable {prog : Program} {w : World} {A : Around} {E : Value → Shared → Prop} {R : Result → Shared → Prop} {h : Heap} {g : Array GenState} {d : Drawn} {t : Nat} {os : OsState}
variable {nm q : Str} {C N : Addr} {bs bm bmB : List Value} {hdct : Bool} {sn : List Str} {sub : List Value} {ab : Bool} {col : Option Bool} {dd : Option Addr} {k0 k1 k2 k3 k5 : Option Value} {B newId initId : String}
end
section
variable {prog : Program} {w : World} {A : Around} {E : Value → Shared → Prop} {R : Result → Shared → Prop} {s : Shared} {K : Frag} {mg : Str → Option Value} {c f : Str} {B newId initId : String} {bmB : List Value} {C fI : Addr}
end
end DL
namespace DL
open PySem PySem.Spec L2
section
variable {X : Cx} {B : At}
end
end DL
set_option maxHeartbeats 2000000
/-! DLzzx: repr of a value in which lists and {} may stand. -/
namespace DL
open PySem PySem.Spec L2
/-- the dict of modules is no list -/
def SysD (K : PySem.W.Frag) : Prop := PySem.W.typeIn K (.ref sysModules) = some (.type "dict")
theorem sysd_n {K : PySem.W.Frag} (k : Fx.sysd.ok K = true) : SysD K := by
  unfold SysD
  unfold Fx.ok at k
  exact of_decide_eq_true k
theorem sys_ne {K : PySem.W.Frag} {h : Heap} (S : SysD K) (X : K.In h) {a : Addr} {o : Obj} (ho : h.get? a = some o) (hc : o.cls = .type "list") : sysModules ≠ a := fun z => by
  subst z
  unfold SysD PySem.W.typeIn at S
  obtain ⟨o', h1, h2⟩ := Option.map_eq_some_iff.mp S
  have := X _ _ h1
  rw [ho] at this
  cases this
  rw [hc] at h2
  exact absurd h2 (by decide)
mutual
/-- printable, lists and {} let -/
def D.pg : Nat → D → Bool
  | _, .non => true
  | _, .bl _ => true
  | _, .int _ => true
  | _, .str s => PyData.canLay0 (.str s)
  | n + 1, .tup xs => pgs n xs
  | n + 1, .lst xs => pgs n xs
  | _, .dct => true
  | _, _ => false
def pgs : Nat → List D → Bool
  | _, [] => true
  | n, x :: xs => x.pg n && pgs n xs
end
section
variable {X : Cx} {pins : List (Addr × Obj)} {σ : St} {H : Hp} {s : Shared} {mg : Str → Option Value} {M : Mp}
mutual
theorem pg_reads (S : SysD X.K) (I : Inv X pins σ H s) : ∀ (n : Nat) (d : D) (v : V) (u : Value), d.pg n = true → RepV X.K mg M H d v → RelV v u → (∃ as, Reads s.heap u d.py as ∧ sysModules ∉ as) ∧ d.py.depth ≤ n + 1
  | _, .non, v, u, _, r, ru => by
    unfold RepV at r; subst r; cases ru
    exact ⟨⟨_, Reads.none, by simp⟩, by simp [D.py, PyData.depth]⟩
  | _, .bl b, v, u, _, r, ru => by
    unfold RepV at r; subst r; cases ru
    exact ⟨⟨_, Reads.bool b, by simp⟩, by simp [D.py, PyData.depth]⟩
  | _, .int i, v, u, _, r, ru => by
    unfold RepV at r; subst r
    obtain ⟨t, rfl⟩ := ru
    exact ⟨⟨_, Reads.int i t, by simp⟩, by simp [D.py, PyData.depth]⟩
  | _, .str x, v, u, _, r, ru => by
    unfold RepV at r; subst r
    obtain ⟨t, rfl⟩ := ru
    exact ⟨⟨_, Reads.str x t, by simp⟩, by simp [D.py, PyData.depth]⟩
  | 0, .tup xs, v, u, p, _, _ => by simp [D.pg] at p
  | n + 1, .tup xs, v, u, p, r, ru => by
    unfold RepV at r
    obtain ⟨a, vs, rfl, _, h, rs⟩ := r
    cases ru
    obtain ⟨its, rv, ⟨o, ho, hc, m, hd⟩, _⟩ := I.tuple (TupH.sq (K := X.K) h)
    obtain ⟨⟨as, hr, hs⟩, hl⟩ := pgs_reads S I n xs vs its (by simpa [D.pg] using p) rs rv
    refine ⟨⟨as, Reads.tuple ho hc hd hr, hs⟩, ?_⟩
    simp only [D.py, PyData.depth]
    omega
  | 0, .lst xs, v, u, p, _, _ => by simp [D.pg] at p
  | n + 1, .lst xs, v, u, p, r, ru => by
    unfold RepV at r
    obtain ⟨a, vs, rfl, _, h, rs⟩ := r
    cases ru
    obtain ⟨its, rv, hl, _⟩ := I.list (SqL.of (K := X.K) h)
    obtain ⟨o, ho, hc, m, hd⟩ := hl.isList
    obtain ⟨⟨as, hr, hs⟩, hl⟩ := pgs_reads S I n xs vs its (by simpa [D.pg] using p) rs rv
    refine ⟨⟨_, Reads.list ho hc hd (by simpa using hr), fun z => ?_⟩, ?_⟩
    · rcases List.mem_cons.mp z with z | z
      · exact sys_ne S I.kIn ho hc z
      · exact hs z
    · simp only [D.py, PyData.depth]
      omega
  | n, .dct, v, u, _, r, ru => by
    unfold RepV at r
    obtain ⟨a, rfl, _, h⟩ := r
    cases ru
    obtain ⟨_, hs, vs, kv, o, es, ep, ho, he, hd, _, pr, _⟩ := dk_of I.hok h
    have hv : vs = [] := by cases kv; rfl
    subst hv
    have e := Pairs_nil pr
    refine ⟨⟨_, Reads.dict (kvs := []) (as := []) (bs := []) ho he.1 hd (by rw [e]; exact ReadsAll.nil) (by rw [e]; exact ReadsAll.nil), ?_⟩, by simp [D.py, PyData.depth, PyData.depthKv]⟩
    intro z
    have : sysModules = a := by simpa using z
    rw [this] at hs
    simp at hs
  | _, .scr _, _, _, p, _, _ => by simp [D.pg] at p
  | _, .inst _ _ _, _, _, p, _, _ => by simp [D.pg] at p
  | _, .ref _, _, _, p, _, _ => by simp [D.pg] at p
  | _, .cls _, _, _, p, _, _ => by simp [D.pg] at p
  | _, .ty _, _, _, p, _, _ => by simp [D.pg] at p
  | _, .ptp _, _, _, p, _, _ => by simp [D.pg] at p
  | _, .ltp _, _, _, p, _, _ => by simp [D.pg] at p
  | _, .dcs _ _, _, _, p, _, _ => by simp [D.pg] at p
  | _, .dts _ _, _, _, p, _, _ => by simp [D.pg] at p
  | _, .exc _ _ _, _, _, p, _, _ => by simp [D.pg] at p
theorem pgs_reads (S : SysD X.K) (I : Inv X pins σ H s) : ∀ (n : Nat) (ds : List D) (vs : List V) (us : List Value), pgs n ds = true → RepVs X.K mg M H ds vs → Vals vs us → (∃ as, ReadsAll s.heap us (pys ds) as ∧ sysModules ∉ as) ∧ PyData.depthAll (pys ds) ≤ n + 1
  | n, [], vs, us, _, r, ru => by
    unfold RepVs at r; subst r; cases ru
    exact ⟨⟨_, ReadsAll.nil, by simp⟩, by simp [pys, PyData.depthAll]⟩
  | n, d :: ds, vs, us, p, r, ru => by
    unfold RepVs at r
    obtain ⟨v, vr, rfl, rv, rs⟩ := r
    have p' : d.pg n = true ∧ pgs n ds = true := by simpa [pgs] using p
    cases ru with
    | cons r1 r2 =>
      obtain ⟨⟨as, q1, h1⟩, l1⟩ := pg_reads S I n d v _ p'.1 rv r1
      obtain ⟨⟨bs, q2, h2⟩, l2⟩ := pgs_reads S I n ds vr _ p'.2 rs r2
      refine ⟨⟨_, ReadsAll.cons q1 q2, fun z => ?_⟩, ?_⟩
      · rcases List.mem_append.mp z with z | z
        · exact h1 z
        · exact h2 z
      · simp only [pys, PyData.depthAll]
        omega
end
end
section
variable {X : Cx}
end
/-! sizes -/
mutual
def D.fitG (B : Nat) : D → Prop
  | .non => True
  | .bl _ => True
  | .int i => i.natAbs < 10 ^ (B - 1)
  | .str s => PyData.canLay0 (.str s) = true ∧ ∀ c ∈ s.cps.toList, c < 16 ^ 8
  | .tup xs => fitsG B xs
  | .lst xs => fitsG B xs
  | .dct => True
  | _ => False
def fitsG (B : Nat) : List D → Prop
  | [] => True
  | x :: xs => x.fitG B ∧ fitsG B xs
end
mutual
theorem D.fitG_le (B : Nat) (hB : 2 ≤ B) : ∀ d : D, d.fitG B → d.py.shown.length ≤ d.sz B
  | .non, _ => by show 4 ≤ 5; decide
  | .bl b, _ => by cases b <;> (simp only [D.py, D.sz]; decide)
  | .int i, h => D.sz_le B hB (.int i) (by unfold D.fit; unfold D.fitG at h; exact h)
  | .str x, h => D.sz_le B hB (.str x) (by unfold D.fit; unfold D.fitG at h; exact h)
  | .tup xs, h => by
    have h1 := fitsG_le B hB xs (by simpa only [D.fitG] using h)
    have h2 := tupleText_len_le (PyData.shownAll (pys xs))
    simp only [D.py, PyData.shown, D.sz]
    rw [shownAll_len, pys_length] at h2
    omega
  | .lst xs, h => by
    have h1 := fitsG_le B hB xs (by simpa only [D.fitG] using h)
    have h2 := listText_len_le (PyData.shownAll (pys xs))
    simp only [D.py, PyData.shown, D.sz]
    rw [shownAll_len, pys_length] at h2
    omega
  | .dct, _ => by simp only [D.py, D.sz]; decide
  | .scr _, h => by unfold D.fitG at h; exact h.elim
  | .inst _ _ _, h => by unfold D.fitG at h; exact h.elim
  | .ref _, h => by unfold D.fitG at h; exact h.elim
  | .cls _, h => by unfold D.fitG at h; exact h.elim
  | .ty _, h => by unfold D.fitG at h; exact h.elim
  | .ptp _, h => by unfold D.fitG at h; exact h.elim
  | .ltp _, h => by unfold D.fitG at h; exact h.elim
  | .dcs _ _, h => by unfold D.fitG at h; exact h.elim
  | .dts _ _, h => by unfold D.fitG at h; exact h.elim
  | .exc _ _ _, h => by unfold D.fitG at h; exact h.elim
theorem fitsG_le (B : Nat) (hB : 2 ≤ B) : ∀ xs : List D, fitsG B xs → ((PyData.shownAll (pys xs)).map (·.length)).sum + 2 * xs.length ≤ szs B xs
  | [], _ => by simp [pys, PyData.shownAll, szs]
  | x :: xs, h => by
    have h' : x.fitG B ∧ fitsG B xs := by simpa only [fitsG] using h
    have h1 := D.fitG_le B hB x h'.1
    have h2 := fitsG_le B hB xs h'.2
    simp only [pys, PyData.shownAll, List.map_cons, List.sum_cons, List.length_cons, szs]
    omega
end
mutual
theorem D.fitG_show (B : Nat) (hB : B ≤ 570) : ∀ d : D, d.fitG B → d.py.showable = true
  | .non, _ => rfl
  | .bl b, _ => rfl
  | .int i, h => D.fit_show B hB (.int i) (by unfold D.fit; unfold D.fitG at h; exact h)
  | .str x, h => rfl
  | .tup xs, h => by simp only [D.py, PyData.showable]; exact fitsG_show B hB xs (by simpa only [D.fitG] using h)
  | .lst xs, h => by simp only [D.py, PyData.showable]; exact fitsG_show B hB xs (by simpa only [D.fitG] using h)
  | .dct, _ => rfl
  | .scr _, h => by unfold D.fitG at h; exact h.elim
  | .inst _ _ _, h => by unfold D.fitG at h; exact h.elim
  | .ref _, h => by unfold D.fitG at h; exact h.elim
  | .cls _, h => by unfold D.fitG at h; exact h.elim
  | .ty _, h => by unfold D.fitG at h; exact h.elim
  | .ptp _, h => by unfold D.fitG at h; exact h.elim
  | .ltp _, h => by unfold D.fitG at h; exact h.elim
  | .dcs _ _, h => by unfold D.fitG at h; exact h.elim
  | .dts _ _, h => by unfold D.fitG at h; exact h.elim
  | .exc _ _ _, h => by unfold D.fitG at h; exact h.elim
theorem fitsG_show (B : Nat) (hB : B ≤ 570) : ∀ xs : List D, fitsG B xs → PyData.showableAll (pys xs) = true
  | [], _ => rfl
  | x :: xs, h => by
    have h' : x.fitG B ∧ fitsG B xs := by simpa only [fitsG] using h
    simp only [pys, PyData.showableAll, Bool.and_eq_true]
    exact ⟨D.fitG_show B hB x h'.1, fitsG_show B hB xs h'.2⟩
end
mutual
theorem D.fitG_pg (B : Nat) : ∀ (d : D) (n : Nat), d.fitG B → d.dp ≤ n → d.pg n = true
  | .non, n, _, _ => by cases n <;> rfl
  | .bl b, n, _, _ => by cases n <;> rfl
  | .int i, n, _, _ => by cases n <;> rfl
  | .dct, n, _, _ => by cases n <;> rfl
  | .str x, n, h, _ => by
    have h' : PyData.canLay0 (.str x) = true ∧ ∀ c ∈ x.cps.toList, c < 16 ^ 8 := by simpa only [D.fitG] using h
    cases n <;> exact h'.1
  | .tup xs, n, h, k => by
    simp only [D.dp] at k
    obtain ⟨n, rfl⟩ : ∃ m, n = m + 1 := ⟨n - 1, by omega⟩
    exact fitsG_pg B xs n (by simpa only [D.fitG] using h) (by omega)
  | .lst xs, n, h, k => by
    simp only [D.dp] at k
    obtain ⟨n, rfl⟩ : ∃ m, n = m + 1 := ⟨n - 1, by omega⟩
    exact fitsG_pg B xs n (by simpa only [D.fitG] using h) (by omega)
  | .scr _, _, h, _ => by unfold D.fitG at h; exact h.elim
  | .inst _ _ _, _, h, _ => by unfold D.fitG at h; exact h.elim
  | .ref _, _, h, _ => by unfold D.fitG at h; exact h.elim
  | .cls _, _, h, _ => by unfold D.fitG at h; exact h.elim
  | .ty _, _, h, _ => by unfold D.fitG at h; exact h.elim
  | .ptp _, _, h, _ => by unfold D.fitG at h; exact h.elim
  | .ltp _, _, h, _ => by unfold D.fitG at h; exact h.elim
  | .dcs _ _, _, h, _ => by unfold D.fitG at h; exact h.elim
  | .dts _ _, _, h, _ => by unfold D.fitG at h; exact h.elim
  | .exc _ _ _, _, h, _ => by unfold D.fitG at h; exact h.elim
theorem fitsG_pg (B : Nat) : ∀ (xs : List D) (n : Nat), fitsG B xs → dps xs ≤ n → pgs n xs = true
  | [], n, _, _ => by simp [pgs]
  | x :: xs, n, h, k => by
    have h' : x.fitG B ∧ fitsG B xs := by simpa only [fitsG] using h
    simp only [dps] at k
    simp only [pgs, Bool.and_eq_true]
    exact ⟨D.fitG_pg B x n h'.1 (by omega), fitsG_pg B xs n h'.2 (by omega)⟩
end
end DL
set_option maxHeartbeats 4000000
/-! DLzzy: with c as y: .., c of an own class, no exception in the suite. -/
namespace DL
open PySem PySem.Spec L2
section
variable {X : Cx} {B : At}
/-- the ends of the suite: __exit__ is called ahead of each -/
def endsW (a : Addr) (spX : DSp) (E : DEnds) : DEnds where
  nx := fun ρ M => spX [.ref a, .non, .non, .non] M (fun _ M' => E.nx ρ M') (fun _ _ => False)
  rt := fun d M => spX [.ref a, .non, .non, .non] M (fun _ M' => E.rt d M') (fun _ _ => False)
end
end DL
set_option maxHeartbeats 4000000
/-! DLzzz: a lambda with one parameter handed to a method. -/
namespace DL
open PySem PySem.Spec PyProof.Rows L2 LamX
/-- one parameter y; captured names and globals -/
structure LamS1 (sc scope : Scope) (y : Str) : Prop where
  kind : scope.kind = .function
  co : scope.isCoroutine = false
  gen : scope.isGenerator = false
  own : ∀ z ∈ scope.names, (z.2 = .local → z.1 = y) ∧ z.2 ≠ .cell
  par : scope.names.lookup y = some .local
  free : ∀ z ∈ scope.names, z.2 = .free → sc.names.lookup z.1 = some .cell ∨ sc.names.lookup z.1 = some .free
theorem LamS1.has {X : Cx} {scope : Scope} {y : Str} (L : LamS1 X.env.scope scope y) (ok : X.Ok) : ∀ z ∈ scope.names, z.2 = .free → ∃ c, X.env.cells.lookup z.1 = some c := fun z hz e => by
  rcases L.free z hz e with k | k
  · exact ok.has _ (.inl k)
  · exact ok.has _ (.inr k)
section
variable {X : Cx} {pins : List (Addr × Obj)} {σ : L2.St} {H HZ : Hp} {s s1 : Shared}
end
abbrev TLam1 := D → DW' → Mp → DK → Prop
/-- what a method makes of the lambda's reading; the first one is self -/
abbrev TTm := D → TLam1 → Mp → DK → XE' → Prop
theorem RepS.snoc {K : PySem.W.Frag} {mg : Str → Option Value} {M : Mp} {H : Hp} {ρ : Rho} {σ : L2.St} {d : D} {v : V} (r : RepS K mg M H ρ σ) (rv : RepV K mg M H d v) : RepS K mg M H (ρ ++ [some d]) (σ ++ [some v]) := by
  obtain ⟨h1, h2⟩ := r
  refine ⟨by simp [h1], fun i d' e => ?_⟩
  by_cases hi : i < ρ.length
  · rw [List.getElem?_append_left hi] at e
    obtain ⟨w, e1, e2⟩ := h2 i d' e
    exact ⟨w, by rw [List.getElem?_append_left (by omega)]; exact e1, e2⟩
  · rw [List.getElem?_append_right (by omega)] at e
    have i0 : i - ρ.length = 0 := by
      have := (List.getElem?_eq_some_iff.mp e).1
      simp only [List.length_cons, List.length_nil] at this
      omega
    rw [i0] at e
    have e : d = d' := by simpa using e
    subst e
    exact ⟨v, by rw [List.getElem?_append_right (by omega), show i - σ.length = 0 by omega]; rfl, rv⟩
section
variable {X : Cx} {pins : List (Addr × Obj)} {σ : L2.St} {H : Hp} {s : Shared} {B : At}
/-- the method c.m, which calls its one argument -/
def GMthL (P : Program) (w : World) (K : PySem.W.Frag) (mg : Str → Option Value) (base : Heap) (k : Nat) (c m a : Str) (TT : TTm) : Prop :=
  ∃ (C g : Addr) (fd : FuncData) (st : Stmt) (N : List Str) (qual : Str), mg c = some (.ref C) ∧ Cls K C ∧ Meth K C m g ∧ FunP K m qual st g fd ∧ Binds K fd ["self", a] [] ∧ FnScope N ["self", a] (defScope st) ∧ N[1]? = some a ∧ Vis (defScope st) a ∧
    ∀ (cdv : Value) (A : Around) (outer : List Env) (s : Shared) (H : Hp) (M : Mp) (f : Addr) (d : D) (tl : TLam1) (Q : DK) (E : XE'), Cy (A.deeper (envOfC qual (defScope st) s.heap.objs.size g cdv)) k →
      (∀ (B' : At) (W : DW') (pn : List (Addr × Obj)) (xe : Value → Shared → Prop) (p1 p2 : Pos) (e : Expr) (te : TD), Keep M H B'.M B'.H → DTk ((cxD P w K mg base N qual st g cdv A outer s H M E).tr pn xe) B' W → DE ((cxD P w K mg base N qual st g cdv A outer s H M E).tr pn xe) B' e te →
        starEach [e] (cxD P w K mg base N qual st g cdv A outer s H M E).env = (false, eval e (cxD P w K mg base N qual st g cdv A outer s H M E).env) :: [] →
        DE ((cxD P w K mg base N qual st g cdv A outer s H M E).tr pn xe) B' (.Call (.Name a p1) [e] [] p2) (fun ρZ MZ R => ρZ[1]? = some (some (.ref f)) ∧ te ρZ MZ fun da M1 => tl da (fun y _ M' => W y ρZ M') M1 R)) →
      TT d tl M Q E → ∃ t, DSs (cxD P w K mg base N qual st g cdv A outer s H M E) ⟨M, H⟩ (defBody st) t ∧ t { nx := fun _ M' => Wk (Q .non) M', rt := fun d M' => Wk (Q d) M' } (startD N [d, .ref f]) M
theorem GMthL.mono {P : Program} {w : World} {K : PySem.W.Frag} {mg : Str → Option Value} {base : Heap} {j k : Nat} {c m a : Str} {TT : TTm} (G : GMthL P w K mg base j c m a TT) (h : j ≤ k) : GMthL P w K mg base k c m a TT := by
  obtain ⟨C, g, fd, st, N, qual, h1, h2, h3, h4, h5, h6, h7, h8, h9⟩ := G
  exact ⟨C, g, fd, st, N, qual, h1, h2, h3, h4, h5, h6, h7, h8, fun cdv A outer s H M f d tl Q E c => h9 cdv A outer s H M f d tl Q E (c.mono h)⟩
end
end DL
set_option maxHeartbeats 4000000
/-! DLzzza: tuples as keys (.ltp), settled tuples (.ptp) read as tuples, made by a display or a cut; t.index(number). -/
namespace DL
open PySem PySem.Spec PyProof.Rows L2
section
variable {X : Cx} {B : At}
/-- as a tuple, no more -/
def D.wk : D → D
  | .ptp xs => .tup xs
  | .ltp xs => .tup xs
  | d => d
theorem RepV.wk {K : PySem.W.Frag} {mg : Str → Option Value} {M : Mp} {H : Hp} {d : D} {v : V} (r : RepV K mg M H d v) : RepV K mg M H d.wk v := by
  cases d with
  | ptp xs =>
    unfold RepV at r
    obtain ⟨a, vs, o, e, n, h, hd, rs⟩ := r
    unfold D.wk RepV
    exact ⟨a, vs, e, n, .inr ⟨o, h, hd⟩, rs⟩
  | ltp xs =>
    unfold RepV at r
    obtain ⟨a, vs, e, n, h, rs⟩ := r
    unfold D.wk RepV
    exact ⟨a, vs, e, n, .inl h, rs⟩
  | _ => exact r
/-! ### a display, a cut -/
/-! ### t.index(number) -/
end
end DL
set_option maxHeartbeats 4000000
/-! DLzzzb: dict(row of pairs) with numbers as keys, as a dict that may change; sorted(set(t)). -/
namespace DL
open PySem PySem.Spec PyProof.Rows L2
section
variable {X : Cx}
end
end DL
set_option maxHeartbeats 4000000
/-! DLzzzc: a call of a def out of a list; xs.index(True) of a list of truths. -/
namespace DL
open PySem PySem.Spec PyProof.Rows L2
section
variable {X : Cx} {B : At}
/-- the defs that may be called -/
def FnL (P : Program) (w : World) (K : PySem.W.Frag) (mg : Str → Option Value) (base : Heap) (k : Nat) (L : List (Str × DSp)) : Prop := ∀ x sp, L.lookup x = some sp → GFn P w K mg base k x sp
theorem FnL.nil {P : Program} {w : World} {K : PySem.W.Frag} {mg : Str → Option Value} {base : Heap} {k : Nat} : FnL P w K mg base k [] := fun x sp h => by cases h
theorem FnL.cons {P : Program} {w : World} {K : PySem.W.Frag} {mg : Str → Option Value} {base : Heap} {k : Nat} {x : Str} {sp : DSp} {L : List (Str × DSp)} (g : GFn P w K mg base k x sp) (h : FnL P w K mg base k L) : FnL P w K mg base k ((x, sp) :: L) := fun y sp' e => by
  rw [List.lookup_cons] at e
  split at e
  · rename_i c
    have : y = x := by simpa using c
    subst this
    cases e
    exact g
  · exact h y sp' e
end
end DL
set_option maxHeartbeats 4000000
/-! DLzzzd: try with several clauses, each of several classes. -/
namespace L2
open PySem PySem.Spec PyProof.Rows
/-- a clause: the classes, the slot of its name, the suite -/
structure ClsT where
  cs : List Value
  i : Option Nat
  ts : Addr → Value → Option Addr → TS
inductive HdsT (X : Cx) : List ExceptHandler → List ClsT → Prop
  | nil : HdsT X [] []
  | cons {tst : Expr} {nm : Option Str} {i : Option Nat} {cs : List Value} {ts : Addr → Value → Option Addr → TS} {b₀ : Stmt} {suite : List Stmt} {pos' : Pos} {hds : List ExceptHandler} {l : List ClsT} (ht : TstOk X tst cs) (hnm : NmOk X nm i)
      (hsu : ∀ (a : Addr) (oe : Obj) (cls : Value) (d : Option Addr) (pn : List (Addr × Obj)), L2N.Zn cls d oe → (∃ vs, oe.data = .fields vs) → PSs (X.suite a ((a, oe) :: pn)) (b₀ :: suite) (ts a cls d)) (r : HdsT X hds l) :
      HdsT X (.ExceptHandler (some tst) nm (b₀ :: suite) pos' :: hds) (⟨cs, i, ts⟩ :: l)
section
variable {X : Cx} {body : List Stmt} {h₀ : ExceptHandler} {hds : List ExceptHandler} {l : List ClsT} {pos : Pos} {tb : WX → TS} {Wout : WX}
end
end L2
namespace DL
open PySem PySem.Spec L2
section
variable {X : Cx} {B : At}
inductive HdsM (X : Cx) : List ExceptHandler → List DCl → List ClsT → Prop
  | nil : HdsM X [] [] []
  | cons {tst : Expr} {nm : Option Str} {i : Option Nat} {cs : List Value} {lk : List (Str × Bool)} {ts : Addr → XD → TDS} {b₀ : Stmt} {suite : List Stmt} {pos' : Pos} {hds : List ExceptHandler} {l : List DCl} {l' : List ClsT} (ht : TstOk X tst cs) (hnm : NmOk X nm i) (hlk : ∀ c b, lk.lookup c = some b → ExmTN X.K X.mg c cs b)
      (hsu : ∀ (a : Addr) (oe : Obj) (cls : Value) (d : Option Addr) (pn : List (Addr × Obj)) (B' : At) (x' : XD), L2N.Zn cls d oe → (∃ vs, oe.data = .fields vs) → RepX X.K X.mg B'.M B'.H x' cls d → DSs (X.suite a ((a, oe) :: pn)) B' (b₀ :: suite) (ts a x')) (r : HdsM X hds l l') :
      HdsM X (.ExceptHandler (some tst) nm (b₀ :: suite) pos' :: hds) (⟨lk, i, ts⟩ :: l) (⟨cs, i, tsD X ts⟩ :: l')
theorem HdsM.g {hds : List ExceptHandler} {l : List DCl} {l' : List ClsT} (h : HdsM X hds l l') : HdsT X hds l' := by
  induction h with
  | nil => exact .nil
  | cons ht hnm hlk hsu r ih =>
    refine .cons ht hnm (fun a oe cls d pn hz hf => ⟨fun pins s σ H D I h => ?_⟩) ih
    obtain ⟨C, x, rx, h⟩ := h
    exact (hsu a oe cls d pn C x hz hf rx).run pins s σ H D I h
end
/-! ### KeyError among the classes -/
end DL
set_option maxHeartbeats 4000000
/-! DLzzze: with x() as y: suite, whose block may end with a return or an error. -/
namespace DL
open PySem PySem.W PySem.Spec PySem.Calls PyProof.Rows
section
variable {prog : Program} {w : World} {A : Around} {E : Value → Shared → Prop} {s : Shared} {env : Env} {K : Frag} {x C fe fx : Addr} {ox : Obj} {od : Option Obj} {pos : Pos}
end
end DL
namespace DL
open PySem PySem.Spec L2
section
variable {X : Cx}
end
end DL
namespace DL
open PySem PySem.Spec L2
/-! ### the exit, called with the error -/
abbrev TTx := Addr → XD → List D → Mp → DK → Prop
/-- the method c.m, called while the error is handled: self, the class, the error, the traceback -/
def GMthE (P : Program) (w : World) (K : PySem.W.Frag) (mg : Str → Option Value) (base : Heap) (k : Nat) (c m : Str) (ps : List Str) (TT : TTx) : Prop :=
  ∃ (C g : Addr) (fd : FuncData) (st : Stmt) (N : List Str) (qual : Str), mg c = some (.ref C) ∧ Meth K C m g ∧ FunP K m qual st g fd ∧ Binds K fd ps [] ∧ FnScope N ps (defScope st) ∧ ps.length = 4 ∧
    ∀ (cdv : Value) (A : Around) (outer : List Env) (s : Shared) (H : Hp) (M : Mp) (e : Addr) (oe : Obj) (cls : Value) (d : Option Addr) (y : XD) (ds : List D) (Q : DK), L2H.Hot1 A (e, oe) → L2N.Zn cls d oe → (∃ vs, oe.data = .fields vs) →
      CyH (A.deeper (PyProof.Rows.envOfC qual (defScope st) s.heap.objs.size g cdv)) k → RepX K mg M H y cls d → TT e y ds M Q →
      ∃ t, DSs (cxHD P w K mg base N qual st g cdv A outer s H (e, oe)) ⟨M, H⟩ (defBody st) t ∧ t { nx := fun _ M' => Wk (Q .non) M', rt := fun d M' => Wk (Q d) M' } (startD N ds) M
theorem GMthE.mono {P : Program} {w : World} {K : PySem.W.Frag} {mg : Str → Option Value} {base : Heap} {j k : Nat} {c m : Str} {ps : List Str} {TT : TTx} (G : GMthE P w K mg base j c m ps TT) (h : j ≤ k) : GMthE P w K mg base k c m ps TT := by
  obtain ⟨C, g, fd, st, N, qual, h1, h2, h3, h4, h5, h6, h7⟩ := G
  exact ⟨C, g, fd, st, N, qual, h1, h2, h3, h4, h5, h6, fun cdv A outer s H M e oe cls d y ds Q a1 a2 a3 c => h7 cdv A outer s H M e oe cls d y ds Q a1 a2 a3 (c.le h)⟩
section
variable {X : Cx} {B : At}
end
end DL
set_option maxHeartbeats 4000000
/-! DLzzzf: {}[i], which raises KeyError; o.m(a = lambda y: body). -/
namespace DL
open PySem PySem.Spec PyProof.Rows L2 LamX
section
variable {X : Cx}
end
/-- (a, b, ..) = a settled list -/
def dgLs (u : TDGs) : TDG := fun d ρ M Q => match d with | .lst xs => u xs ρ M Q | _ => False
/-- the method c.m, which calls its one argument, got by its name -/
def GMthLK (P : Program) (w : World) (K : PySem.W.Frag) (mg : Str → Option Value) (base : Heap) (k : Nat) (c m a : Str) (TT : TTm) : Prop :=
  ∃ (C g : Addr) (fd : FuncData) (st : Stmt) (N : List Str) (qual : Str), mg c = some (.ref C) ∧ Cls K C ∧ Meth K C m g ∧ FunP K m qual st g fd ∧ KwB K fd ["self", a] 1 [a] [0, 1] ∧ FnScope N ["self", a] (defScope st) ∧ N[1]? = some a ∧ Vis (defScope st) a ∧
    ∀ (cdv : Value) (A : Around) (outer : List Env) (s : Shared) (H : Hp) (M : Mp) (f : Addr) (d : D) (tl : TLam1) (Q : DK) (E : XE'), Cy (A.deeper (envOfC qual (defScope st) s.heap.objs.size g cdv)) k →
      (∀ (B' : At) (W : DW') (pn : List (Addr × Obj)) (xe : Value → Shared → Prop) (p1 p2 : Pos) (e : Expr) (te : TD), Keep M H B'.M B'.H → DTk ((cxD P w K mg base N qual st g cdv A outer s H M E).tr pn xe) B' W → DE ((cxD P w K mg base N qual st g cdv A outer s H M E).tr pn xe) B' e te →
        starEach [e] (cxD P w K mg base N qual st g cdv A outer s H M E).env = (false, eval e (cxD P w K mg base N qual st g cdv A outer s H M E).env) :: [] →
        DE ((cxD P w K mg base N qual st g cdv A outer s H M E).tr pn xe) B' (.Call (.Name a p1) [e] [] p2) (fun ρZ MZ R => ρZ[1]? = some (some (.ref f)) ∧ te ρZ MZ fun da M1 => tl da (fun y _ M' => W y ρZ M') M1 R)) →
      TT d tl M Q E → ∃ t, DSs (cxD P w K mg base N qual st g cdv A outer s H M E) ⟨M, H⟩ (defBody st) t ∧ t { nx := fun _ M' => Wk (Q .non) M', rt := fun d M' => Wk (Q d) M' } (startD N [d, .ref f]) M
theorem GMthLK.mono {P : Program} {w : World} {K : PySem.W.Frag} {mg : Str → Option Value} {base : Heap} {j k : Nat} {c m a : Str} {TT : TTm} (G : GMthLK P w K mg base j c m a TT) (h : j ≤ k) : GMthLK P w K mg base k c m a TT := by
  obtain ⟨C, g, fd, st, N, qual, h1, h2, h3, h4, h5, h6, h7, h8, h9⟩ := G
  exact ⟨C, g, fd, st, N, qual, h1, h2, h3, h4, h5, h6, h7, h8, fun cdv A outer s H M f d tl Q E c => h9 cdv A outer s H M f d tl Q E (c.mono h)⟩
section
variable {X : Cx} {B : At}
end
section
variable {X : Cx}
end
end DL
set_option maxHeartbeats 4000000
/-! DLzzzg: a dict with tuple keys that changes no more, settled where it stands; for a, b in d.items() of such a dict. -/
namespace L2
open PySem PySem.Spec PyProof.Rows
section
variable {X : Cx} {pins : List (Addr × Obj)} {σ : St} {H : Hp} {s : Shared} {d : Addr} {o : Obj}
end
section
variable {P : Program} {w : World} {K : PySem.W.Frag} {d : Addr} {o : Obj} {es : Array DictEntry} {ep : Nat}
end
section
variable {X : Cx} {e : Expr} {td : TE} {apos cpos : Pos}
end
end L2

namespace DL
open PySem PySem.Spec PyProof.Rows L2
section
variable {X : Cx} {B : At}
end
end DL
set_option maxHeartbeats 4000000
/-! DLzzzh: zip of a list with a tuple and of a tuple with a list: the steps of zip over two iterators, each of a list or of a tuple. -/
namespace RZ
open PySem
open PySem.Sem (wp)
/-- an iterator of a list (false) or of a tuple (true); the thing itself -/
def KIt (k : Bool) (h : Heap) (it l : Addr) (i : Nat) : Prop := match k with
  | true => h.IsTupleIter it l i
  | false => h.IsListIter it l i
def KSq (k : Bool) (h : Heap) (l : Addr) (xs : Array Value) : Prop := match k with
  | true => h.IsTuple l xs
  | false => h.IsList l xs
theorem KIt.at {k : Bool} {h h' : Heap} {a l : Addr} {i : Nat} (x : KIt k h a l i) (e : ∀ o, h.get? a = some o → h'.get? a = some o) : KIt k h' a l i := by
  cases k
  · exact Heap.IsListIter.at x e
  · exact Heap.IsTupleIter.at x e
theorem KSq.at {k : Bool} {h h' : Heap} {a : Addr} {xs : Array Value} (x : KSq k h a xs) (e : ∀ o, h.get? a = some o → h'.get? a = some o) : KSq k h' a xs := by
  cases k
  · exact Heap.IsList.at x e
  · exact Heap.IsTuple.at x e
theorem KIt.ob {k : Bool} {h : Heap} {a l : Addr} {i : Nat} (x : KIt k h a l i) : ∃ o vs, h.get? a = some o ∧ o.data = .fields vs := by
  cases k
  · obtain ⟨o, e, _, d⟩ := x; exact ⟨o, _, e, d⟩
  · obtain ⟨o, e, _, d⟩ := x; exact ⟨o, _, e, d⟩
section
variable {prog : Program} {w : World} {A : Around} {E : Value → Shared → Prop} {s : Shared}
end
section
variable {prog : Program} {w : World} {A : Around} {E : Value → Shared → Prop} {s : Shared}
end
end RZ
namespace L2
open PySem PySem.Spec PyProof.Rows RZ
end L2
namespace DL
open PySem PySem.Spec PyProof.Rows L2
section
variable {X : Cx} {B : At}
end
end DL
set_option maxHeartbeats 4000000
/-! DLzzzi: d[k] as a target among others, d a dict that may change. -/
namespace DL
open PySem PySem.Spec PyProof.Rows L2
section
variable {X : Cx} {B : At}
/-- d[k] = v as a target -/
def dgSubD (to ti : TD) : TDG := fun d ρ M Q => to ρ M fun o M1 => ti ρ M1 fun i M2 => match putM M2 o i d with
  | some M3 => Q ρ M3
  | none => False
end
end DL
set_option maxHeartbeats 4000000
/-! DLzzzj: x == text, x != text, x in (numbers), x a value of any kind. -/
namespace DL
open PySem PySem.Spec PyProof.Rows L2
section
open AutoSeq1 (wpAny_loadPart')
end
section
variable {A : Around} {s : Shared}
end
section
variable {X : Cx} {B : At}
end
section
variable {X : Cx} {B : At}
end
end DL
set_option maxHeartbeats 4000000
/-! DLzzzk: repr of a value in which lists, {} and settled dicts of texts may stand; {k: v} with any text as k; x.replace(y, z) of written texts in a list behind an item that ends with a written text. -/
namespace DL
open PySem PySem.Spec L2
mutual
/-- printable, lists and dicts of texts let -/
def D.ph : Nat → D → Bool
  | _, .non => true
  | _, .bl _ => true
  | _, .int _ => true
  | _, .str s => PyData.canLay0 (.str s)
  | n + 1, .tup xs => phs n xs
  | n + 1, .lst xs => phs n xs
  | _, .dct => true
  | n + 1, .dcs ks xs => decide (ks.length = xs.length) && phs n xs
  | _, _ => false
def phs : Nat → List D → Bool
  | _, [] => true
  | n, x :: xs => x.ph n && phs n xs
end
theorem zip_fstH {α β : Type} : ∀ {as : List α} {bs : List β}, as.length = bs.length → (as.zip bs).map (·.1) = as
  | [], [], _ => rfl
  | a :: as, b :: bs, h => by
    simp only [List.zip_cons_cons, List.map_cons, zip_fstH (as := as) (bs := bs) (by simpa using h)]
  | [], _ :: _, h => by cases h
  | _ :: _, [], h => by cases h
theorem zip_sndH {α β : Type} : ∀ {as : List α} {bs : List β}, as.length = bs.length → (as.zip bs).map (·.2) = bs
  | [], [], _ => rfl
  | a :: as, b :: bs, h => by
    simp only [List.zip_cons_cons, List.map_cons, zip_sndH (as := as) (bs := bs) (by simpa using h)]
  | [], _ :: _, h => by cases h
  | _ :: _, [], h => by cases h
theorem depthKv_le (n : Nat) : ∀ {ks : List Str} {ds : List PyData}, PyData.depthAll ds ≤ n + 1 → PyData.depthKv ((ks.map PyData.str).zip ds) ≤ n + 1
  | [], _, _ => by simp [PyData.depthKv]
  | _ :: _, [], _ => by simp [PyData.depthKv]
  | k :: ks, d :: ds, h => by
    simp only [PyData.depthAll] at h
    have := depthKv_le n (ks := ks) (ds := ds) (by omega)
    simp only [List.map_cons, List.zip_cons_cons, PyData.depthKv, PyData.depth]
    omega
section
variable {X : Cx} {pins : List (Addr × Obj)} {σ : St} {H : Hp} {s : Shared} {mg : Str → Option Value} {M : Mp}
theorem keys_read {h : Heap} {P : Program} {w : World} : ∀ {es : List DictEntry} {prs : List (Key × Value)} {ks : List Str}, Pairs (mixKind P w) es prs → prs.map (·.1) = ks.map Sum.inr → ReadsAll h (es.map (·.key)) (ks.map PyData.str) [] ∧ es.map (·.val) = prs.map (·.2)
  | [], _, ks, p, e => by
    cases p
    cases ks with
    | nil => exact ⟨ReadsAll.nil, rfl⟩
    | cons k ks => cases e
  | en :: es, _, ks, p, e => by
    cases p with
    | @cons _ kv _ prs hk hv hr =>
      cases ks with
      | nil => cases e
      | cons k ks =>
        simp only [List.map_cons, List.cons.injEq] at e
        obtain ⟨e1, e2⟩ := e
        obtain ⟨r1, r2⟩ := keys_read (h := h) hr e2
        rw [e1] at hk
        have : ∃ t, en.key = .str k t := by
          have hk' : keyIs (Sum.inr k) en.key = true := hk
          rcases keyIs_shape hk' with ⟨i, t, e, _⟩ | ⟨x, t, e, e'⟩
          · cases e
          · cases e
            exact ⟨t, e'⟩
        obtain ⟨t, ek⟩ := this
        refine ⟨?_, by simp only [List.map_cons, hv, r2]⟩
        simp only [List.map_cons, ek]
        exact ReadsAll.cons (Reads.str k t) r1
mutual
theorem ph_reads (S : SysD X.K) (I : Inv X pins σ H s) : ∀ (n : Nat) (d : D) (v : V) (u : Value), d.ph n = true → RepV X.K mg M H d v → RelV v u → (∃ as, Reads s.heap u d.py as ∧ sysModules ∉ as) ∧ d.py.depth ≤ n + 1
  | _, .non, v, u, _, r, ru => by
    unfold RepV at r; subst r; cases ru
    exact ⟨⟨_, Reads.none, by simp⟩, by simp [D.py, PyData.depth]⟩
  | _, .bl b, v, u, _, r, ru => by
    unfold RepV at r; subst r; cases ru
    exact ⟨⟨_, Reads.bool b, by simp⟩, by simp [D.py, PyData.depth]⟩
  | _, .int i, v, u, _, r, ru => by
    unfold RepV at r; subst r
    obtain ⟨t, rfl⟩ := ru
    exact ⟨⟨_, Reads.int i t, by simp⟩, by simp [D.py, PyData.depth]⟩
  | _, .str x, v, u, _, r, ru => by
    unfold RepV at r; subst r
    obtain ⟨t, rfl⟩ := ru
    exact ⟨⟨_, Reads.str x t, by simp⟩, by simp [D.py, PyData.depth]⟩
  | 0, .tup xs, v, u, p, _, _ => by simp [D.ph] at p
  | n + 1, .tup xs, v, u, p, r, ru => by
    unfold RepV at r
    obtain ⟨a, vs, rfl, _, h, rs⟩ := r
    cases ru
    obtain ⟨its, rv, ⟨o, ho, hc, m, hd⟩, _⟩ := I.tuple (TupH.sq (K := X.K) h)
    obtain ⟨⟨as, hr, hs⟩, hl⟩ := phs_reads S I n xs vs its (by simpa [D.ph] using p) rs rv
    refine ⟨⟨as, Reads.tuple ho hc hd hr, hs⟩, ?_⟩
    simp only [D.py, PyData.depth]
    omega
  | 0, .lst xs, v, u, p, _, _ => by simp [D.ph] at p
  | n + 1, .lst xs, v, u, p, r, ru => by
    unfold RepV at r
    obtain ⟨a, vs, rfl, _, h, rs⟩ := r
    cases ru
    obtain ⟨its, rv, hl, _⟩ := I.list (SqL.of (K := X.K) h)
    obtain ⟨o, ho, hc, m, hd⟩ := hl.isList
    obtain ⟨⟨as, hr, hs⟩, hl⟩ := phs_reads S I n xs vs its (by simpa [D.ph] using p) rs rv
    refine ⟨⟨_, Reads.list ho hc hd (by simpa using hr), fun z => ?_⟩, ?_⟩
    · rcases List.mem_cons.mp z with z | z
      · exact sys_ne S I.kIn ho hc z
      · exact hs z
    · simp only [D.py, PyData.depth]
      omega
  | n, .dct, v, u, _, r, ru => by
    unfold RepV at r
    obtain ⟨a, rfl, _, h⟩ := r
    cases ru
    obtain ⟨_, hs, vs, kv, o, es, ep, ho, he, hd, _, pr, _⟩ := dk_of I.hok h
    have hv : vs = [] := by cases kv; rfl
    subst hv
    have e := Pairs_nil pr
    refine ⟨⟨_, Reads.dict (kvs := []) (as := []) (bs := []) ho he.1 hd (by rw [e]; exact ReadsAll.nil) (by rw [e]; exact ReadsAll.nil), ?_⟩, by simp [D.py, PyData.depth, PyData.depthKv]⟩
    intro z
    have : sysModules = a := by simpa using z
    rw [this] at hs
    simp at hs
  | 0, .dcs _ _, _, _, p, _, _ => by simp [D.ph] at p
  | n + 1, .dcs ks xs, v, u, p, r, ru => by
    unfold RepV at r
    obtain ⟨a, kvs, o, rfl, _, h, ek, rs⟩ := r
    cases ru
    obtain ⟨ho, hl, hm, prs, kv, hd⟩ := I.hok a _ h
    obtain ⟨o', es, ep, ho', he, hdt, _, pr, _⟩ := id hd
    have p' : ks.length = xs.length ∧ phs n xs = true := by simpa [D.ph] using p
    have kp : ∀ {as : List (Key × V)} {bs : List (Key × Value)}, KV as bs → bs.map (·.1) = as.map (·.1) ∧ Vals (as.map (·.2)) (bs.map (·.2)) := by
      intro as bs q
      induction q with
      | nil => exact ⟨rfl, .nil⟩
      | cons hq _ ih => exact ⟨by simp only [List.map_cons, hq.1, ih.1], .cons hq.2 ih.2⟩
    obtain ⟨k1, k2⟩ := kp kv
    obtain ⟨⟨as, hr, hs⟩, hl2⟩ := phs_reads S I n xs _ _ p'.2 rs k2
    obtain ⟨r1, r2⟩ := keys_read (h := s.heap) pr (k1.trans ek)
    have ln : (ks.map PyData.str).length = (pys xs).length := by rw [List.length_map, pys_length, p'.1]
    refine ⟨⟨_, Reads.dict (kvs := (ks.map PyData.str).zip (pys xs)) (as := []) (bs := as) ho' he.1 hdt (by rw [zip_fstH ln]; exact r1) (by rw [zip_sndH ln, r2]; exact hr), ?_⟩, ?_⟩
    · intro z
      simp only [List.append_nil, List.cons_append, List.nil_append, List.mem_cons] at z
      rcases z with z | z
      · rw [← z] at hm
        simp at hm
      · exact hs z
    · have := depthKv_le n (ks := ks) hl2
      simp only [D.py, PyData.depth]
      omega
  | _, .scr _, _, _, p, _, _ => by simp [D.ph] at p
  | _, .inst _ _ _, _, _, p, _, _ => by simp [D.ph] at p
  | _, .ref _, _, _, p, _, _ => by simp [D.ph] at p
  | _, .cls _, _, _, p, _, _ => by simp [D.ph] at p
  | _, .ty _, _, _, p, _, _ => by simp [D.ph] at p
  | _, .ptp _, _, _, p, _, _ => by simp [D.ph] at p
  | _, .ltp _, _, _, p, _, _ => by simp [D.ph] at p
  | _, .dts _ _, _, _, p, _, _ => by simp [D.ph] at p
  | _, .exc _ _ _, _, _, p, _, _ => by simp [D.ph] at p
theorem phs_reads (S : SysD X.K) (I : Inv X pins σ H s) : ∀ (n : Nat) (ds : List D) (vs : List V) (us : List Value), phs n ds = true → RepVs X.K mg M H ds vs → Vals vs us → (∃ as, ReadsAll s.heap us (pys ds) as ∧ sysModules ∉ as) ∧ PyData.depthAll (pys ds) ≤ n + 1
  | n, [], vs, us, _, r, ru => by
    unfold RepVs at r; subst r; cases ru
    exact ⟨⟨_, ReadsAll.nil, by simp⟩, by simp [pys, PyData.depthAll]⟩
  | n, d :: ds, vs, us, p, r, ru => by
    unfold RepVs at r
    obtain ⟨v, vr, rfl, rv, rs⟩ := r
    have p' : d.ph n = true ∧ phs n ds = true := by simpa [phs] using p
    cases ru with
    | cons r1 r2 =>
      obtain ⟨⟨as, q1, h1⟩, l1⟩ := ph_reads S I n d v _ p'.1 rv r1
      obtain ⟨⟨bs, q2, h2⟩, l2⟩ := phs_reads S I n ds vr _ p'.2 rs r2
      refine ⟨⟨_, ReadsAll.cons q1 q2, fun z => ?_⟩, ?_⟩
      · rcases List.mem_append.mp z with z | z
        · exact h1 z
        · exact h2 z
      · simp only [pys, PyData.depthAll]
        omega
end
end
section
variable {X : Cx}
def rReprH (X : Cx) : List V → Hp → VK → Prop := fun xs H Q => ∃ v mg M d, xs = [v] ∧ RepV X.K mg M H d v ∧ d.ph 12 = true ∧ d.py.showable = true ∧ d.py.shown.length ≤ sizeLine ∧ Q (.str d.py.shown) H
theorem cr_reprH (S : SysD X.K) (hg : X.A.guards = some []) (hu : X.A.units + 64 < cLine) : CallR X (.builtin "repr") (rReprH X) := by
  intro pins s σ H xs us Q I r h
  obtain ⟨v, mg, M, d, rfl, hd, hp, hs, hz, q⟩ := h
  cases r with
  | @cons _ u _ _ r1 rr =>
    cases rr
    obtain ⟨⟨as, hr, hsm⟩, hl⟩ := ph_reads S I 12 d v _ hp hd r1
    have go : ∀ a, v = .ref a → wpAny (model X.prog X.w) X.A (call (.builtin "repr") [u]) (EP X pins σ Q) X.xe s := fun a e => by
      subst e
      cases r1
      refine PySem.repr_of_reads' hr hs (fun _ => hsm) hg (by omega) (fun b o e => e) (fun h' u tk hk => ?_) hz
      exact ⟨.str _, H, I.kept (t' := tk) hk, ⟨_, rfl⟩, q⟩
    cases d with
    | non => unfold RepV at hd; subst hd; cases r1; exact PySem.P.repr_of_none ⟨.str _, H, I.tok _, ⟨_, rfl⟩, q⟩
    | bl b => unfold RepV at hd; subst hd; cases r1; exact PySem.P.repr_of_bool ⟨.str _, H, I.tok _, ⟨_, rfl⟩, by cases b <;> exact q⟩
    | int i => unfold RepV at hd; subst hd; obtain ⟨t, rfl⟩ := r1; exact PySem.P.repr_of_int (by simpa [D.py, PyData.showable] using hs) ⟨.str _, H, I.tok _, ⟨_, rfl⟩, q⟩
    | str x => unfold RepV at hd; subst hd; obtain ⟨t, rfl⟩ := r1; exact PySem.P.repr_of_str ⟨.str _, H, I.tok _, ⟨_, rfl⟩, q⟩ hz
    | tup xs =>
      unfold RepV at hd
      obtain ⟨a, vs, e, _, _, _⟩ := hd
      exact go a e
    | lst xs =>
      unfold RepV at hd
      obtain ⟨a, vs, e, _, _, _⟩ := hd
      exact go a e
    | dct =>
      unfold RepV at hd
      obtain ⟨a, e, _, _⟩ := hd
      exact go a e
    | dcs ks xs =>
      unfold RepV at hd
      obtain ⟨a, kvs, o, e, _, _, _, _⟩ := hd
      exact go a e
    | _ => simp [D.ph] at hp
/-- repr of plain data in which lists and dicts of texts may stand -/
def gReprH : DCall := fun ds M Q => match ds with
  | [d] => (((rsv M d).pl 12 = true ∨ d.ph 12 = true) ∧ (rsv M d).py.showable = true ∧ (rsv M d).py.shown.length ≤ sizeLine) ∧ Q (.str (rsv M d).py.shown) M
  | _ => False
theorem rsv_ph {n : Nat} {M : Mp} {d : D} (h : d.ph n = true) : rsv M d = d := by
  cases d with
  | ref a => simp [D.ph] at h
  | _ => rfl
theorem c_reprH (S : SysD X.K) (hg : X.A.guards = some []) (hu : X.A.units + 64 < cLine) : CallD X (.builtin "repr") gReprH := by
  refine ⟨_, (cr_reprA hg hu).or (cr_reprH S hg hu), ?_⟩
  intro M H ds vs R Q m r g q
  unfold gReprH at g
  split at g
  · rename_i d
    obtain ⟨v, rfl, r0⟩ := r.one
    obtain ⟨⟨g2, g3, g4⟩, g⟩ := g
    rcases g2 with g2 | g2
    · obtain ⟨c1, c2⟩ := pl_shape 12 _ g2
      exact .inl ⟨v, _, rfl, rsv_dp m r0 g2, c1, c2, g3, g4, q _ _ _ _ g .rfl' m (by unfold RepV; rfl)⟩
    · rw [rsv_ph g2] at g3 g4 g
      exact .inr ⟨v, _, _, d, rfl, r0, g2, g3, g4, q _ _ _ _ g .rfl' m (by unfold RepV; rfl)⟩
  · exact g.elim
end
/-! sizes -/
mutual
def D.hz : D → Nat
  | .int _ => 200
  | .str s => 10 * s.cps.size + 2
  | .tup xs => hzs xs + 3
  | .lst xs => hzs xs + 3
  | .dcs ks xs => (ks.map fun k => 10 * k.cps.size + 6).sum + hzs xs + 3
  | _ => 5
def hzs : List D → Nat
  | [] => 0
  | x :: xs => x.hz + 2 + hzs xs
end
mutual
def D.hp : D → Nat
  | .tup xs => hps xs + 1
  | .lst xs => hps xs + 1
  | .dcs _ xs => hps xs + 1
  | _ => 0
def hps : List D → Nat
  | [] => 0
  | x :: xs => max x.hp (hps xs)
end
mutual
def D.fitH : D → Prop
  | .non => True
  | .bl _ => True
  | .int i => i.natAbs < 10 ^ 199
  | .str s => PyData.canLay0 (.str s) = true ∧ ∀ c ∈ s.cps.toList, c < 16 ^ 8
  | .tup xs => fitsH xs
  | .lst xs => fitsH xs
  | .dct => True
  | .dcs ks xs => (ks.length = xs.length ∧ ∀ k ∈ ks, PyData.canLay0 (.str k) = true ∧ ∀ c ∈ k.cps.toList, c < 16 ^ 8) ∧ fitsH xs
  | _ => False
def fitsH : List D → Prop
  | [] => True
  | x :: xs => x.fitH ∧ fitsH xs
end
theorem joinL_leS (S : List Nat) : ∀ L : List (List Nat), (TL.joinL S L).length ≤ (L.map (·.length)).sum + S.length * L.length
  | [] => by simp [TL.joinL]
  | [a] => by simp [TL.joinL]
  | a :: b :: r => by
    have := joinL_leS S (b :: r)
    show (a ++ (S ++ TL.joinL S (b :: r))).length ≤ _
    simp only [List.length_append, List.map_cons, List.sum_cons, List.length_cons, Nat.mul_add, Nat.mul_one] at this ⊢
    omega
theorem dictText_le (ps : List Str) : (PySem.dictText ps).length ≤ (ps.map (·.length)).sum + 2 * ps.length + 2 := by
  have h := joinL_leS [44, 32] (ps.map TL.tl)
  have e : (ps.map TL.tl).map (·.length) = ps.map (·.length) := by
    rw [List.map_map]
    exact List.map_congr_left fun x _ => (TL.len_tl x).symm
  rw [e, List.length_map] at h
  unfold PySem.dictText
  rw [TL.len_tl, TL.tl_append, TL.tl_append, TL.tl_join, show TL.tl (", " : Str) = [44, 32] by decide]
  simp only [List.length_append, show (TL.tl ("{" : Str)).length = 1 by decide, show (TL.tl ("}" : Str)).length = 1 by decide, List.length_cons, List.length_nil] at h ⊢
  omega
theorem shownKv_le : ∀ {ks : List Str} {ds : List PyData}, ks.length = ds.length → (∀ k ∈ ks, (PyData.shown (.str k)).length ≤ 10 * k.cps.size + 2) →
    ((PyData.shownKv ((ks.map PyData.str).zip ds)).map (·.length)).sum + 2 * (PyData.shownKv ((ks.map PyData.str).zip ds)).length ≤ (ks.map fun k => 10 * k.cps.size + 6).sum + ((PyData.shownAll ds).map (·.length)).sum
  | [], [], _, _ => by simp [PyData.shownKv, PyData.shownAll]
  | k :: ks, d :: ds, e, h => by
    have ih := shownKv_le (ks := ks) (ds := ds) (by simpa using e) fun x hx => h x (List.mem_cons_of_mem _ hx)
    have h1 := h k (List.mem_cons_self ..)
    have el : (PyData.shown (.str k) ++ ": " ++ PyData.shown d).length = (PyData.shown (.str k)).length + 2 + (PyData.shown d).length := by
      rw [TL.len_tl, TL.tl_append, TL.tl_append, List.length_append, List.length_append, TL.len_tl (PyData.shown (.str k)), TL.len_tl (PyData.shown d), show (TL.tl (": " : Str)).length = 2 by decide]
    simp only [List.map_cons, List.zip_cons_cons, PyData.shownKv, PyData.shownAll, List.sum_cons, List.length_cons, el]
    omega
  | [], _ :: _, e, _ => by cases e
  | _ :: _, [], e, _ => by cases e
mutual
theorem D.fitH_le : ∀ d : D, d.fitH → d.py.shown.length ≤ d.hz
  | .non, _ => by show 4 ≤ 5; decide
  | .bl b, _ => by cases b <;> (simp only [D.py, D.hz]; decide)
  | .int i, h => D.sz_le 200 (by decide) (.int i) (by unfold D.fit; unfold D.fitH at h; exact h)
  | .str x, h => D.sz_le 200 (by decide) (.str x) (by unfold D.fit; unfold D.fitH at h; exact h)
  | .tup xs, h => by
    have h1 := fitsH_le xs (by simpa only [D.fitH] using h)
    have h2 := tupleText_len_le (PyData.shownAll (pys xs))
    simp only [D.py, PyData.shown, D.hz]
    rw [shownAll_len, pys_length] at h2
    omega
  | .lst xs, h => by
    have h1 := fitsH_le xs (by simpa only [D.fitH] using h)
    have h2 := listText_len_le (PyData.shownAll (pys xs))
    simp only [D.py, PyData.shown, D.hz]
    rw [shownAll_len, pys_length] at h2
    omega
  | .dct, _ => by simp only [D.py, D.hz]; decide
  | .dcs ks xs, h => by
    have h' : (ks.length = xs.length ∧ ∀ k ∈ ks, PyData.canLay0 (.str k) = true ∧ ∀ c ∈ k.cps.toList, c < 16 ^ 8) ∧ fitsH xs := by simpa only [D.fitH] using h
    have h1 := fitsH_le xs h'.2
    have h2 := shownKv_le (ks := ks) (ds := pys xs) (by rw [pys_length]; exact h'.1.1) fun k hk => D.sz_le 200 (by decide) (.str k) (by unfold D.fit; exact h'.1.2 k hk)
    have h3 := dictText_le (PyData.shownKv ((ks.map PyData.str).zip (pys xs)))
    simp only [D.py, PyData.shown, D.hz]
    omega
  | .scr _, h => by unfold D.fitH at h; exact h.elim
  | .inst _ _ _, h => by unfold D.fitH at h; exact h.elim
  | .ref _, h => by unfold D.fitH at h; exact h.elim
  | .cls _, h => by unfold D.fitH at h; exact h.elim
  | .ty _, h => by unfold D.fitH at h; exact h.elim
  | .ptp _, h => by unfold D.fitH at h; exact h.elim
  | .ltp _, h => by unfold D.fitH at h; exact h.elim
  | .dts _ _, h => by unfold D.fitH at h; exact h.elim
  | .exc _ _ _, h => by unfold D.fitH at h; exact h.elim
theorem fitsH_le : ∀ xs : List D, fitsH xs → ((PyData.shownAll (pys xs)).map (·.length)).sum + 2 * xs.length ≤ hzs xs
  | [], _ => by simp [pys, PyData.shownAll, hzs]
  | x :: xs, h => by
    have h' : x.fitH ∧ fitsH xs := by simpa only [fitsH] using h
    have h1 := D.fitH_le x h'.1
    have h2 := fitsH_le xs h'.2
    simp only [pys, PyData.shownAll, List.map_cons, List.sum_cons, List.length_cons, hzs]
    omega
end
theorem showableKv_of : ∀ {ks : List Str} {ds : List PyData}, PyData.showableAll ds = true → PyData.showableKv ((ks.map PyData.str).zip ds) = true
  | [], _, _ => by simp [PyData.showableKv]
  | _ :: _, [], _ => by simp [PyData.showableKv]
  | k :: ks, d :: ds, h => by
    simp only [PyData.showableAll, Bool.and_eq_true] at h
    simp only [List.map_cons, List.zip_cons_cons, PyData.showableKv, Bool.and_eq_true]
    exact ⟨⟨rfl, h.1⟩, showableKv_of h.2⟩
mutual
theorem D.fitH_show : ∀ d : D, d.fitH → d.py.showable = true
  | .non, _ => rfl
  | .bl b, _ => rfl
  | .int i, h => D.fit_show 200 (by decide) (.int i) (by unfold D.fit; unfold D.fitH at h; exact h)
  | .str x, h => rfl
  | .tup xs, h => by simp only [D.py, PyData.showable]; exact fitsH_show xs (by simpa only [D.fitH] using h)
  | .lst xs, h => by simp only [D.py, PyData.showable]; exact fitsH_show xs (by simpa only [D.fitH] using h)
  | .dct, _ => rfl
  | .dcs ks xs, h => by
    have h' : (ks.length = xs.length ∧ ∀ k ∈ ks, PyData.canLay0 (.str k) = true ∧ ∀ c ∈ k.cps.toList, c < 16 ^ 8) ∧ fitsH xs := by simpa only [D.fitH] using h
    simp only [D.py, PyData.showable]
    exact showableKv_of (fitsH_show xs h'.2)
  | .scr _, h => by unfold D.fitH at h; exact h.elim
  | .inst _ _ _, h => by unfold D.fitH at h; exact h.elim
  | .ref _, h => by unfold D.fitH at h; exact h.elim
  | .cls _, h => by unfold D.fitH at h; exact h.elim
  | .ty _, h => by unfold D.fitH at h; exact h.elim
  | .ptp _, h => by unfold D.fitH at h; exact h.elim
  | .ltp _, h => by unfold D.fitH at h; exact h.elim
  | .dts _ _, h => by unfold D.fitH at h; exact h.elim
  | .exc _ _ _, h => by unfold D.fitH at h; exact h.elim
theorem fitsH_show : ∀ xs : List D, fitsH xs → PyData.showableAll (pys xs) = true
  | [], _ => rfl
  | x :: xs, h => by
    have h' : x.fitH ∧ fitsH xs := by simpa only [fitsH] using h
    simp only [pys, PyData.showableAll, Bool.and_eq_true]
    exact ⟨D.fitH_show x h'.1, fitsH_show xs h'.2⟩
end
mutual
theorem D.fitH_ph : ∀ (d : D) (n : Nat), d.fitH → d.hp ≤ n → d.ph n = true
  | .non, n, _, _ => by cases n <;> rfl
  | .bl b, n, _, _ => by cases n <;> rfl
  | .int i, n, _, _ => by cases n <;> rfl
  | .dct, n, _, _ => by cases n <;> rfl
  | .str x, n, h, _ => by
    have h' : PyData.canLay0 (.str x) = true ∧ ∀ c ∈ x.cps.toList, c < 16 ^ 8 := by simpa only [D.fitH] using h
    cases n <;> exact h'.1
  | .tup xs, n, h, k => by
    simp only [D.hp] at k
    obtain ⟨n, rfl⟩ : ∃ m, n = m + 1 := ⟨n - 1, by omega⟩
    exact fitsH_ph xs n (by simpa only [D.fitH] using h) (by omega)
  | .lst xs, n, h, k => by
    simp only [D.hp] at k
    obtain ⟨n, rfl⟩ : ∃ m, n = m + 1 := ⟨n - 1, by omega⟩
    exact fitsH_ph xs n (by simpa only [D.fitH] using h) (by omega)
  | .dcs ks xs, n, h, k => by
    have h' : (ks.length = xs.length ∧ ∀ k ∈ ks, PyData.canLay0 (.str k) = true ∧ ∀ c ∈ k.cps.toList, c < 16 ^ 8) ∧ fitsH xs := by simpa only [D.fitH] using h
    simp only [D.hp] at k
    obtain ⟨n, rfl⟩ : ∃ m, n = m + 1 := ⟨n - 1, by omega⟩
    simp only [D.ph, Bool.and_eq_true, decide_eq_true_eq]
    exact ⟨h'.1.1, fitsH_ph xs n h'.2 (by omega)⟩
  | .scr _, _, h, _ => by unfold D.fitH at h; exact h.elim
  | .inst _ _ _, _, h, _ => by unfold D.fitH at h; exact h.elim
  | .ref _, _, h, _ => by unfold D.fitH at h; exact h.elim
  | .cls _, _, h, _ => by unfold D.fitH at h; exact h.elim
  | .ty _, _, h, _ => by unfold D.fitH at h; exact h.elim
  | .ptp _, _, h, _ => by unfold D.fitH at h; exact h.elim
  | .ltp _, _, h, _ => by unfold D.fitH at h; exact h.elim
  | .dts _ _, _, h, _ => by unfold D.fitH at h; exact h.elim
  | .exc _ _ _, _, h, _ => by unfold D.fitH at h; exact h.elim
theorem fitsH_ph : ∀ (xs : List D) (n : Nat), fitsH xs → hps xs ≤ n → phs n xs = true
  | [], n, _, _ => by simp [phs]
  | x :: xs, n, h, k => by
    have h' : x.fitH ∧ fitsH xs := by simpa only [fitsH] using h
    simp only [hps] at k
    simp only [phs, Bool.and_eq_true]
    exact ⟨D.fitH_ph x n h'.1 (by omega), fitsH_ph xs n h'.2 (by omega)⟩
end
/-- what repr asks of it -/
theorem fitH_ok {d : D} {M : Mp} (f : d.fitH) (k : d.hp ≤ 10) (z : d.hz ≤ 16777216) : rsv M d = d ∧ d.ph 12 = true ∧ d.py.showable = true ∧ d.py.shown.length ≤ sizeLine := by
  have p := D.fitH_ph d 12 f (by omega)
  exact ⟨rsv_ph p, p, D.fitH_show d f, by rw [sizeLine_eq]; exact Nat.le_trans (D.fitH_le d f) z⟩
section
variable {X : Cx} {B : At}
/-- {k: v}, k any text -/
def dDsp1 (tk tv : TD) : TD := fun ρ M Q => ∀ p, M p = none → tk ρ (um M p (.dK [])) fun d M1 => ∃ z, d = .str z ∧ tv ρ M1 fun x M2 => M2 p = some (.dK []) ∧ Q (.dcs [z] [x]) (dm M2 p)
theorem de_dsp1 {k v : Expr} {tk tv : TD} {pos : Pos} (hk : DE X B k tk) (hv : DE X B v tv) : DE X B (.Dict [some k] [v] pos) (dDsp1 tk tv) := by
  constructor
  intro pins s σ H Q I h
  obtain ⟨ρ, M, R, hh, h, q⟩ := h
  have hf : H s.heap.objs.size = none := I.hok.fresh (Nat.le_refl _)
  have hm : (s.heap.objs.size == sysModules) = false := beq_eq_false_iff_ne.mpr (Nat.ne_of_gt I.big)
  have hM := hh.m.free hf
  have I0 : L2.Inv X pins σ (upd H s.heap.objs.size (.dK [])) { s with heap := s.heap.push { cls := .type "dict", data := .dict #[] } } := I.laid (t' := s.toks) (fun b u e => Heap.get?_push_of_some _ e) (Nat.le_refl _) (show ObjOk X.prog X.w _ _ _ (.dK []) from ⟨Nat.zero_le _, hm, [], .nil, Heap.DictOf.new s.heap⟩)
  have k0 : Keep M H (um M s.heap.objs.size (.dK [])) (upd H s.heap.objs.size (.dK [])) := Keep.newM hh.m hf
  have m0 : RepM X.K X.mg (um M s.heap.objs.size (.dK [])) (upd H s.heap.objs.size (.dK [])) := hh.m.newM hf ⟨_, upd_same, repK_nil⟩
  have h := h _ hM
  have hh0 := hh.step k0 m0
  refine wpAny_Dict_walk (knd := mixKind X.prog X.w) (by rfl) (by rfl) (List.cons_ne_nil _ _) (Nat.le_of_ble_eq_true rfl) ?_
  refine pairTrees_cons_walk (thn (hk.run pins _ σ _ (fun u H1 => ∃ z M1, u = V.str z ∧ Keep (um M s.heap.objs.size (.dK [])) (upd H s.heap.objs.size (.dK [])) M1 H1 ∧ RepM X.K X.mg M1 H1 ∧ tv ρ M1 fun x M2 => M2 s.heap.objs.size = some (.dK []) ∧ R (.dcs [z] [x]) (dm M2 s.heap.objs.size)) I0
    ⟨ρ, _, _, hh0, h, fun d M1 u H1 h1 k1 m1 r1 => ?_⟩) fun u0 s1 hs => ?_)
  · obtain ⟨z, rfl, h1⟩ := h1
    exact ⟨z, M1, by unfold RepV at r1; exact r1, k1, m1, h1⟩
  obtain ⟨u, H1, I1, r0, z, M1, rfl, k1, m1, h1⟩ := hs
  have hh1 : Here X B ρ σ M1 H1 := hh0.step k1 m1
  refine thn (hv.run pins s1 σ H1 (fun w H2 => ∃ d M2, Keep M1 H1 M2 H2 ∧ RepM X.K X.mg M2 H2 ∧ RepV X.K X.mg M2 H2 d w ∧ M2 s.heap.objs.size = some (.dK []) ∧ R (.dcs [z] [d]) (dm M2 s.heap.objs.size)) I1
    ⟨ρ, M1, _, hh1, h1, fun d M2 w H2 h2 k2 m2 r2 => ⟨d, M2, k2, m2, r2, h2.1, h2.2⟩⟩) fun w0 s2 hs => ?_
  obtain ⟨w, H2, I2, rw', d, M2, k2, m2, r2, hM2, hR⟩ := hs
  obtain ⟨tk', rfl⟩ := r0
  refine pairTrees_nil_walk ?_
  obtain ⟨ws, hw, rw0⟩ := m2 _ _ hM2
  have : ws = [] := rw0.nil
  subst this
  obtain ⟨_, _, prs0, kv0, hd⟩ := I2.hok _ _ hw
  cases kv0
  refine ⟨[(Sum.inr z, w0)], ?_, hd, fun h' hd' sb => ?_⟩
  · unfold Carries
    exact ⟨by show (z == z) = true; exact beq_self_eq_true z, rfl, by unfold Carries; trivial⟩
  obtain ⟨o, e1, ep, ho, hrest⟩ := id hd'
  have I3 := I2.write (x := s.heap.objs.size) (e := s.heap.objs.size) (o := .frz o (.dK [(Sum.inr z, w)])) (h' := h') (t' := s2.toks + 1) (by rw [hw]; trivial) (.inl rfl) (fun b u n e => by rw [sb.2 b n]; exact e) ⟨o, ho⟩ (show ObjOk X.prog X.w _ _ _ (.frz o (.dK [(Sum.inr z, w)])) from ⟨ho, by simp [sizeLine_eq], hm, [(Sum.inr z, w0)], .cons ⟨rfl, rw'⟩ .nil, hd'⟩)
  obtain ⟨k3, m3⟩ := settleK (o := o) (es := [(Sum.inr z, w)]) m2 hM2
  refine ⟨.ref s.heap.objs.size, _, I3, rfl, q _ _ _ _ hR ((k0.trans (k1.trans k2)).trans k3) m3 ?_⟩
  unfold RepV
  exact ⟨s.heap.objs.size, [(Sum.inr z, w)], o, rfl, dm_same _ _, upd_same, rfl, RepVs.cons (RepV.keep k3 _ _ r2) (by unfold RepVs; rfl)⟩
end
/-! isinstance(x, T) of a value that may be a settled dict of texts -/
def D.tynH (M : Mp) : D → Option String
  | .dcs _ _ => some "dict"
  | d => d.tyn M
theorem tynH_of {d : D} {v : V} {T : String} {M : Mp} {H : Hp} {K : PySem.W.Frag} {mg : Str → Option Value} (m : RepM K mg M H) (r : RepV K mg M H d v) (e : d.tynH M = some T) : TyX K H v (.type T) := by
  by_cases c : ∃ ks xs, d = .dcs ks xs
  · obtain ⟨ks, xs, rfl⟩ := c
    unfold RepV at r
    obtain ⟨a, kvs, o, rfl, _, h, _, _⟩ := r
    cases e
    exact .fDict h
  · have : d.tynH M = d.tyn M := by
      cases d with
      | dcs ks xs => exact absurd ⟨ks, xs, rfl⟩ c
      | _ => rfl
    rw [this] at e
    exact tyn_of m r e
def gIsTyH : DCall := fun ds M Q => match ds with
  | [d, .ty T] => match (d.tynH M).bind fun a => kitB a T with
    | some b => Q (.bl b) M
    | none => False
  | _ => False
theorem c_isTyH {X : Cx} : CallD X (.builtin "isinstance") gIsTyH := by
  refine ⟨_, call_isi, ?_⟩
  intro M H ds vs R Q m r g q
  unfold gIsTyH at g
  split at g
  · rename_i d T
    obtain ⟨v, w, rfl, r1, r2⟩ := r.two
    unfold RepV at r2
    subst r2
    split at g
    · rename_i b e
      cases e1 : d.tynH M with
      | none => rw [e1] at e; cases e
      | some a =>
        rw [e1] at e
        exact ⟨v, _, _, _, b, rfl, .ty T, tynH_of m r1 e1, kit_ty e, q _ _ _ _ g .rfl' m rBl⟩
    · exact g.elim
  · exact g.elim
theorem okC_kv : ∀ (ks : List Str) (ds : List PyData), (∀ k ∈ ks, okC k.cps.toList) → (∀ t ∈ PyData.shownAll ds, okC t.cps.toList) → ∀ t ∈ PyData.shownKv ((ks.map PyData.str).zip ds), okC t.cps.toList
  | [], _, _, _, t, ht => by simp [PyData.shownKv] at ht
  | _ :: _, [], _, _, t, ht => by simp [PyData.shownKv] at ht
  | k :: ks, d :: ds, h1, h2, t, ht => by
    simp only [List.map_cons, List.zip_cons_cons, PyData.shownKv] at ht
    simp only [PyData.shownAll] at h2
    rcases List.mem_cons.mp ht with rfl | ht
    · refine okC_append (okC_append ?_ (okC_string _)) (h2 _ (List.mem_cons_self ..))
      unfold PyData.shown
      exact okC_repr k (h1 k (List.mem_cons_self ..))
    · exact okC_kv ks ds (fun x hx => h1 x (List.mem_cons_of_mem _ hx)) (fun x hx => h2 x (List.mem_cons_of_mem _ hx)) t ht
mutual
theorem okH_shown : ∀ d : D, d.fitH → okC d.py.shown.cps.toList
  | .non, _ => okC_string _
  | .bl true, _ => okC_string _
  | .bl false, _ => okC_string _
  | .int i, _ => okC_string _
  | .str x, h => by
    have h' : PyData.canLay0 (.str x) = true ∧ ∀ c ∈ x.cps.toList, c < 16 ^ 8 := by simpa only [D.fitH] using h
    simp only [D.py]
    unfold PyData.shown
    exact okC_repr x ((strOk_iff x).mp (by simpa only [PyData.canLay0] using h'.1))
  | .lst xs, h => by
    simp only [D.py]
    unfold PyData.shown
    unfold listText
    exact okC_append (okC_from _ _ _ (okC_string _) (okHs_shown xs (by simpa only [D.fitH] using h))) (okC_string _)
  | .tup xs, h => by
    simp only [D.py]
    unfold PyData.shown
    unfold tupleText
    exact okC_append (okC_append (okC_string _) (okC_join _ (okC_string _) _ (okHs_shown xs (by simpa only [D.fitH] using h)))) (okC_string _)
  | .dct, _ => okC_append (okC_append (okC_string _) fun c hc => nomatch hc) (okC_string _)
  | .dcs ks xs, h => by
    have h' : (ks.length = xs.length ∧ ∀ k ∈ ks, PyData.canLay0 (.str k) = true ∧ ∀ c ∈ k.cps.toList, c < 16 ^ 8) ∧ fitsH xs := by simpa only [D.fitH] using h
    simp only [D.py]
    unfold PyData.shown
    unfold PySem.dictText
    exact okC_append (okC_append (okC_string _) (okC_join _ (okC_string _) _ (okC_kv ks _ (fun k hk => (strOk_iff k).mp (by simpa only [PyData.canLay0] using (h'.1.2 k hk).1)) (okHs_shown xs h'.2)))) (okC_string _)
  | .scr _, h => by unfold D.fitH at h; exact h.elim
  | .inst _ _ _, h => by unfold D.fitH at h; exact h.elim
  | .ref _, h => by unfold D.fitH at h; exact h.elim
  | .cls _, h => by unfold D.fitH at h; exact h.elim
  | .ty _, h => by unfold D.fitH at h; exact h.elim
  | .ptp _, h => by unfold D.fitH at h; exact h.elim
  | .ltp _, h => by unfold D.fitH at h; exact h.elim
  | .dts _ _, h => by unfold D.fitH at h; exact h.elim
  | .exc _ _ _, h => by unfold D.fitH at h; exact h.elim
theorem okHs_shown : ∀ xs : List D, fitsH xs → ∀ t ∈ PyData.shownAll (pys xs), okC t.cps.toList
  | [], _, t, ht => by simp [pys, PyData.shownAll] at ht
  | x :: xs, h, t, ht => by
    have h' : x.fitH ∧ fitsH xs := by simpa only [fitsH] using h
    simp only [pys, PyData.shownAll] at ht
    rcases List.mem_cons.mp ht with rfl | ht
    · exact okH_shown x h'.1
    · exact okHs_shown xs h'.2 t ht
end
theorem lay_H {d : D} (h : d.fitH) (k : Nat) : D.pl k (.str d.py.shown) = true := by
  have := (strOk_iff _).mpr (okH_shown d h)
  cases k <;> simpa only [D.pl, PyData.canLay0] using this
end DL
set_option maxHeartbeats 4000000
/-! DLzzzl: x.replace(y, z) of written texts y, z, within a list whose first item ends with a written text (the rule asks that a text has been made). -/
namespace DL
open PySem PySem.Spec L2 CwR
section
variable {X : Cx} {B : At}
/-- an expression behind which a text has been made -/
def PEP (X : Cx) (e : Expr) (t : TE) : Prop := ∀ (pins : List (Addr × Obj)) (s : Shared) (σ : L2.St) (H : Hp) (Q : VK), L2.Inv X pins σ H s → t σ H Q → wpAny (model X.prog X.w) X.A (eval e X.env) (fun v s1 => 1 ≤ s1.toks ∧ EP X pins σ Q v s1) X.xe s
theorem dep_op {a : Expr} {op : Operator} {c : Str} {r : R2} {g : DR2} {ta : TD} {j : Nat} {p pos : Pos} (ho : OpR X (binaryOp op) r) (hc : OpC X r g) (ha : DE X B a ta) : PEP X (.BinOp a op (.Constant (.str c) j p) pos) (lft X B (dOp g ta (dC (.str c)))) := by
  intro pins s σ H Q I h
  have h' := lft_op hc h
  refine wpAny_BinOp (thn (ha.run pins s σ H _ I h') fun v s1 q => ?_)
  obtain ⟨x, H1, I1, r1, q1⟩ := q
  obtain ⟨ρ, M, R, hh, h, q⟩ := q1
  refine Calls.Constant_str ?_
  have q2 := q _ M (.str c) H1 h .rfl' hh.m (by unfold RepV; rfl)
  exact wpAny_mono (wpAny_toks (ho pins { s1 with toks := s1.toks + 1 } σ H1 x (.str c) v (.str c s1.toks) Q (I1.tok _) r1 ⟨_, rfl⟩ q2)) (fun v s3 z => ⟨Nat.le_trans (by show 1 ≤ s1.toks + 1; omega) z.1, z.2⟩) fun _ _ z => z.2
/-- + of two texts -/
def gAddS : DR2 := fun x y M Q => match x, y with
  | .str i, .str j => i.length + j.length ≤ sizeLine ∧ Q (.str (i ++ j)) M
  | _, _ => False
theorem oc_addS : OpC X (fun x y H Q => ∃ i j, x = .str i ∧ y = .str j ∧ i.length + j.length ≤ sizeLine ∧ Q (.str (i ++ j)) H) gAddS := by
  intro M H d1 d2 v1 v2 R Q m r1 r2 g q
  unfold gAddS at g
  split at g
  · rename_i i j
    unfold RepV at r1 r2
    exact ⟨i, j, r1, r2, g.1, q _ _ _ _ g.2 .rfl' m rStr⟩
  · exact g.elim
/-- x.replace(y, z) -/
def dRepl (to : TD) (y z : Str) : TD := fun ρ M Q => to ρ M fun d M1 => match d with
  | .str x => x.length + (x.length + 1) * z.length ≤ 16777216 ∧ Q (.str (Txt.replace x y z)) M1
  | _ => False
theorem det_repl {o : Expr} {to : TD} {y z : Str} {j k : Nat} {c0 c1 apos pos : Pos} (ho : DE X B o to) (hyz : (y == z) = false := by decide)
    (hst : starEach [.Constant (.str y) j c0, .Constant (.str z) k c1] X.env = [(false, eval (.Constant (.str y) j c0) X.env), (false, eval (.Constant (.str z) k c1) X.env)] := by rfl)
    (hbase : attributeBase o "replace" X.env (eval o X.env) = eval o X.env := by rfl) (hline : (apos.endLine == pos.line) = true := by rfl) :
    PET X (.Call (.Attribute o "replace" apos) [.Constant (.str y) j c0, .Constant (.str z) k c1] [] pos) (lft X B (dRepl to y z)) := by
  intro pins s σ H Q h0 I h
  refine pet_replC ho hyz hst hbase hline pins s σ H Q h0 I ?_
  obtain ⟨ρ, M, R, hh, h, q⟩ := h
  refine ⟨ρ, M, _, hh, h, fun d M1 v H1 h1 k1 m1 r1 => ?_⟩
  cases d with
  | str x =>
    unfold RepV at r1
    subst r1
    exact ⟨x, rfl, h1.1, q _ _ _ _ h1.2 k1 m1 (by unfold RepV; rfl)⟩
  | _ => exact h1.elim
theorem det_op {a b : Expr} {op : Operator} {r : R2} {g : DR2} {ta tb : TD} {pos : Pos} (ho : OpR X (binaryOp op) r) (hc : OpC X r g) (ha : PET X a (lft X B ta)) (hb : DE X B b tb) : PET X (.BinOp a op b pos) (lft X B (dOp g ta tb)) :=
  fun pins s σ H Q h0 I h => pet_op ho ha (PET.of hb) pins s σ H Q h0 I (lft_op hc h)
/-- a list's items: the first one makes a text, the second one wants it -/
theorem da_consT {e e2 : Expr} {es : List Expr} {te te2 : TD} {t : TDs} (h1 : PEP X e (lft X B te)) (h2 : PET X e2 (lft X B te2)) (hr : DA X B es t)
    (hs : starEach (e :: e2 :: es) X.env = (false, eval e X.env) :: (false, eval e2 X.env) :: starEach es X.env := by rfl) : DA X B (e :: e2 :: es) (dCons te (dCons te2 t)) := by
  refine ⟨fun pos pins s σ H Q I h => ?_⟩
  obtain ⟨ρ, M, R, hh, h, q⟩ := h
  rw [hs]
  show wpAny _ _ (spliced ((false, eval e X.env) :: (false, eval e2 X.env) :: backTo pos (starEach es X.env))) _ _ s
  refine Calls.spliced_cons (thn (h1 pins s σ H (fun v H1 => ∃ d M1, Keep M H M1 H1 ∧ RepM X.K X.mg M1 H1 ∧ RepV X.K X.mg M1 H1 d v ∧ dCons te2 t ρ M1 fun ds M2 => R (d :: ds) M2) I
    ⟨ρ, M, _, hh, h, fun d M1 v H1 a1 k1 m1 r1 => ⟨d, M1, k1, m1, r1, a1⟩⟩) fun u s1 z => ?_)
  obtain ⟨z0, x, H1, I1, r1, d, M1, k1, m1, rv, a1⟩ := z
  have hh1 := hh.step k1 m1
  refine Calls.spliced_cons (thn (h2 pins s1 σ H1 (fun v H2 => ∃ d2 M2, Keep M1 H1 M2 H2 ∧ RepM X.K X.mg M2 H2 ∧ RepV X.K X.mg M2 H2 d2 v ∧ t ρ M2 fun ds M3 => R (d :: d2 :: ds) M3) z0 I1
    ⟨ρ, M1, _, hh1, a1, fun d2 M2 v H2 a2 k2 m2 r2 => ⟨d2, M2, k2, m2, r2, a2⟩⟩) fun u2 s2 z => ?_)
  obtain ⟨x2, H2, I2, r2, d2, M2, k2, m2, rv2, a2⟩ := z
  have hh2 := hh1.step k2 m2
  refine thn (hr.run pos pins s2 σ H2 (fun vs H3 => ∃ ds M3, Keep M2 H2 M3 H3 ∧ RepM X.K X.mg M3 H3 ∧ RepVs X.K X.mg M3 H3 ds vs ∧ R (d :: d2 :: ds) M3) I2
    ⟨ρ, M2, _, hh2, a2, fun ds M3 vs H3 a3 k3 m3 r3 => ⟨ds, M3, k3, m3, r3, a3⟩⟩) fun us s3 z => ?_
  obtain ⟨xs, H3, I3, r3, ds, M3, k3, m3, rv3, a3⟩ := z
  exact ⟨x :: x2 :: xs, H3, I3, .cons r1 (.cons r2 r3), q _ _ _ _ a3 ((k1.trans k2).trans k3) m3 (.cons (RepV.keep (k2.trans k3) _ _ rv) (.cons (RepV.keep k3 _ _ rv2) rv3))⟩
end
end DL
namespace Law
open PySem PySem.Spec L2 DL

abbrev N_is_integer : List Str := ["value"]
/-- an int, no bool -/
def D.isInt : D → Bool
  | .int _ => true
  | _ => false
def sp_is_integer : DSp := fun ds M Q _ => match ds with
  | [d] => d.tyn M ≠ none ∧ Q (.bl (D.isInt d)) M
  | _ => False
theorem len_is_integer : ∀ ds M Q E, sp_is_integer ds M Q E → ds.length = 1 := fun ds M Q E h => by
  unfold sp_is_integer at h; split at h <;> first | rfl | exact h.elim
def t_is_integer (W : DW') : TDS :=
  dRet (dAndV (dCB gIsTy (dCons (dV 0) (dCons (dC (.ty "int")) (dNil)))) (dNotV (dCB gIsTy (dCons (dV 0) (dCons (dC (.ty "bool")) (dNil))))))
theorem pure_is_integer (ds : List D) (M : Mp) (Q : DK) (E : XE') (h : sp_is_integer ds M Q E) : t_is_integer (fnW E) { nx := fun _ M' => Wk (Q .non) M', rt := fun d M' => Wk (Q d) M' } (startD N_is_integer ds) M := by
  unfold sp_is_integer at h
  split at h
  · rename_i d
    obtain ⟨h0, h⟩ := h
    cases d
    case ref a =>
      simp only [D.tyn] at h0
      split at h0
      · rename_i xs e
        simp (config := { decide := false }) only [dgSubD, dgLs, D.wk, endsW, rowP, dCm, dCmK, dMakeV, rhsE, dRaise, dTry, dHds, dAct, dXf, dIsE, dput, dclr, dEndsC, fnW, pl_lint, pl_tint, eqv_lint, eqv_tint, decide_true, decide_false, djItems, seqJ, dLCG, gMul, dEnum, dLC, dYes, wipeD, dFld, fldOf, dSetF, putD, dMake, mkQ, mkQM, isOf, gIn, gIn2, dDct, gSorted, asI, pick, List.filterMap_cons, List.filterMap_nil, List.getElem?_nil, dSeq, dNext, dRet, dIfS, dAsg, dgName, dgTup, dgCons, dgNil, dgSub, dPar, dAug, dDrop, dNever, dOp, gI, gT, gPlus, gAdd, gEq, gNe, gIs, gIs2, gIx, dV, dC, dB, dAnd, dOr, dNot, dAndV, dNotV, dIf, dNeg, dNil, dCons, dTup, dLst, dLstM, dNoPart, dPart, dSl, dCB, dCall, gLen, gAbs, g2, gStrO, gInt, gInt2, dJoin, dSplit, gStr, gDivmod2, gIsTy, gTuple, gList, gAll, dAppend, dItems, itemsOf, dRange1, dFor, D.onB, D.tyn, D.isNon, asL, rsv, kb_di, kb_db, kb_ds, kb_dt, kb_dl, kb_ii, kb_bi, kb_ni, kb_si, kb_ti, kb_li, kb_ib, kb_bb, kb_nb, kb_sb, kb_tb, kb_lb, kb_is, kb_bs, kb_ns, kb_ss, kb_ts, kb_ls, kb_it, kb_bt, kb_nt, kb_st, kb_tt, kb_lt, startD, List.map_cons, List.map_nil, List.length_cons, List.length_nil, List.cons_append, List.nil_append, List.replicate, List.getElem?_cons_zero, List.getElem?_cons_succ, List.set_cons_zero, List.set_cons_succ, List.zip_cons_cons, List.zip_nil_right, List.foldl_cons, List.foldl_nil, Option.bind_some, Option.bind_none, um_same, um_um, Bool.false_eq_true, reduceCtorEq, false_implies, true_implies, forall_const, true_and, and_true, and_self, Bool.not_true, Bool.not_false, implies_true, decide_eq_true_eq, decide_eq_false_iff_not, Bool.not_eq_true, not_true_eq_false, not_false_eq_true, Bool.not_eq_true', Bool.not_eq_false', D.onB, sizeLine_eq, Nat.reduceAdd, Nat.reduceLeDiff, Nat.zero_add, Nat.reduceLT, t_is_integer, e]
        exact Wk.of h
      · exact absurd rfl h0
    all_goals first
      | exact absurd rfl h0
      | (simp (config := { decide := false }) only [dgSubD, dgLs, D.wk, endsW, rowP, dCm, dCmK, dMakeV, rhsE, dRaise, dTry, dHds, dAct, dXf, dIsE, dput, dclr, dEndsC, fnW, pl_lint, pl_tint, eqv_lint, eqv_tint, decide_true, decide_false, djItems, seqJ, dLCG, gMul, dEnum, dLC, dYes, wipeD, dFld, fldOf, dSetF, putD, dMake, mkQ, mkQM, isOf, gIn, gIn2, dDct, gSorted, asI, pick, List.filterMap_cons, List.filterMap_nil, List.getElem?_nil, dSeq, dNext, dRet, dIfS, dAsg, dgName, dgTup, dgCons, dgNil, dgSub, dPar, dAug, dDrop, dNever, dOp, gI, gT, gPlus, gAdd, gEq, gNe, gIs, gIs2, gIx, dV, dC, dB, dAnd, dOr, dNot, dAndV, dNotV, dIf, dNeg, dNil, dCons, dTup, dLst, dLstM, dNoPart, dPart, dSl, dCB, dCall, gLen, gAbs, g2, gStrO, gInt, gInt2, dJoin, dSplit, gStr, gDivmod2, gIsTy, gTuple, gList, gAll, dAppend, dItems, itemsOf, dRange1, dFor, D.onB, D.tyn, D.isNon, asL, rsv, kb_di, kb_db, kb_ds, kb_dt, kb_dl, kb_ii, kb_bi, kb_ni, kb_si, kb_ti, kb_li, kb_ib, kb_bb, kb_nb, kb_sb, kb_tb, kb_lb, kb_is, kb_bs, kb_ns, kb_ss, kb_ts, kb_ls, kb_it, kb_bt, kb_nt, kb_st, kb_tt, kb_lt, startD, List.map_cons, List.map_nil, List.length_cons, List.length_nil, List.cons_append, List.nil_append, List.replicate, List.getElem?_cons_zero, List.getElem?_cons_succ, List.set_cons_zero, List.set_cons_succ, List.zip_cons_cons, List.zip_nil_right, List.foldl_cons, List.foldl_nil, Option.bind_some, Option.bind_none, um_same, um_um, Bool.false_eq_true, reduceCtorEq, false_implies, true_implies, forall_const, true_and, and_true, and_self, Bool.not_true, Bool.not_false, implies_true, decide_eq_true_eq, decide_eq_false_iff_not, Bool.not_eq_true, not_true_eq_false, not_false_eq_true, Bool.not_eq_true', Bool.not_eq_false', D.onB, sizeLine_eq, Nat.reduceAdd, Nat.reduceLeDiff, Nat.zero_add, Nat.reduceLT, t_is_integer]; exact Wk.of h)
  · exact h.elim
abbrev N_law_gulp : List Str := ["_law_gourd", "_law_top", "_law_got", "_law_base"]
def gO (a b c : Int) : MO := .lst [.int a, .int b, .int c]
/-- a gourd at g, behind some draws -/
def Gs (g : Addr) (M M' : Mp) : Prop := ∃ a b c, 0 ≤ a ∧ 0 ≤ b ∧ M' = um M g (gO a b c)
def Gd (M : Mp) (g : Addr) : Prop := ∃ a b c, 0 ≤ a ∧ 0 ≤ b ∧ M g = some (gO a b c)
theorem Gs.gd {g : Addr} {M M' : Mp} (h : Gs g M M') : Gd M' g := let ⟨a, b, c, h1, h2, e⟩ := h; ⟨a, b, c, h1, h2, by rw [e, um_same]⟩
theorem Gs.tr {g : Addr} {M M1 M2 : Mp} (h : Gs g M M1) (k : Gs g M1 M2) : Gs g M M2 := by
  obtain ⟨a, b, c, h1, h2, rfl⟩ := h
  obtain ⟨a', b', c', k1, k2, rfl⟩ := k
  exact ⟨a', b', c', k1, k2, um_um ..⟩
theorem Gs.ne {g p : Addr} {M M' : Mp} (h : Gs g M M') (n : p ≠ g) : M' p = M p := by
  obtain ⟨a, b, c, h1, h2, rfl⟩ := h
  exact um_ne n
def sp_law_gulp : DSp := fun ds M Q _ => match ds with
  | [.ref g, .int n] => Gd M g ∧ (1 ≤ n ∧ n < 2 ^ 30) ∧ ∀ r M', 0 ≤ r → r < n → Gs g M M' → Q (.int r) M'
  | _ => False
theorem len_law_gulp : ∀ ds M Q E, sp_law_gulp ds M Q E → ds.length = 2 := fun ds M Q E h => by
  unfold sp_law_gulp at h; split at h <;> first | rfl | exact h.elim
def t_law_gulp (W : DW') : TDS :=
  dSeq (dIfS (dB (dOp (gT fun i j => decide (j < i)) (dOp gIx (dV 0) (dC (.int 0))) (dC (.int 0)))) (dSeq (dAsg (dCB gDivmod2 (dCons (dOp gIx (dV 0) (dC (.int 0))) (dCons (dV 1) (dNil)))) (dgTup (dgCons (dgSub (dV 0) (dC (.int 0))) (dgCons (dgName 2) (dgNil))))) <|
  dRet (dV 2)) (dNext)) <|
  dSeq (dAsg (dOp gAdd (dOp gIx (dV 0) (dC (.int 2))) (dC (.int 1))) (dgSub (dV 0) (dC (.int 2)))) <|
  dSeq (dAsg (dOp (gI (fun _ j => 0 < j) fun i j => .int (i % j)) (dCB gInt2 (dCons (dOp gAdd (dOp gIx (dV 0) (dC (.int 1))) (dOp gMul (dC (.int 51031)) (dOp gIx (dV 0) (dC (.int 2))))) (dNil))) (dC (.int 2147482951))) (dgName 3)) <|
  dSeq (dAsg (dOp (gI (fun _ j => 0 < j) fun i j => .int (i % j)) (dCB gInt2 (dCons (dOp gAdd (dOp gAdd (dOp gMul (dV 3) (dOp gAdd (dOp (gI (fun _ j => 0 < j) fun i j => .int (i % j)) (dCB gInt2 (dCons (dV 3) (dNil))) (dC (.int 15013))) (dC (.int 66041)))) (dOp gMul (dC (.int 61)) (dOp gIx (dV 0) (dC (.int 2))))) (dC (.int 23))) (dNil))) (dC (.int 2147482951))) (dgSub (dV 0) (dC (.int 1)))) <|
  dRet (dOp (gI (fun _ j => 0 < j) fun i j => .int (i % j)) (dOp (gI divOk fun i j => .int (i / j)) (dCB gInt2 (dCons (dOp gIx (dV 0) (dC (.int 1))) (dNil))) (dC (.int 181))) (dV 1))
theorem pure_law_gulp (ds : List D) (M : Mp) (Q : DK) (E : XE') (h : sp_law_gulp ds M Q E) : t_law_gulp (fnW E) { nx := fun _ M' => Wk (Q .non) M', rt := fun d M' => Wk (Q d) M' } (startD N_law_gulp ds) M := by
  unfold sp_law_gulp at h
  split at h
  · rename_i g n
    obtain ⟨⟨a, b, c, ha, hb, hg⟩, ⟨n1, n2⟩, h⟩ := h
    unfold gO at hg
    simp (config := { decide := false }) only [dgSubD, dgLs, D.wk, endsW, rowP, dCm, dCmK, dMakeV, rhsE, dRaise, dTry, dHds, dAct, dXf, dIsE, dput, dclr, dEndsC, fnW, pl_lint, pl_tint, eqv_lint, eqv_tint, decide_true, decide_false, djItems, seqJ, dLCG, gMul, dEnum, dLC, dYes, wipeD, dFld, fldOf, dSetF, putD, dMake, mkQ, mkQM, isOf, gIn, gIn2, dDct, gSorted, asI, pick, List.filterMap_cons, List.filterMap_nil, List.getElem?_nil, dSeq, dNext, dRet, dIfS, dAsg, dgName, dgTup, dgCons, dgNil, dgSub, dPar, dAug, dDrop, dNever, dOp, gI, gT, gPlus, gAdd, gEq, gNe, gIs, gIs2, gIx, dV, dC, dB, dAnd, dOr, dNot, dAndV, dNotV, dIf, dNeg, dNil, dCons, dTup, dLst, dLstM, dNoPart, dPart, dSl, dCB, dCall, gLen, gAbs, g2, gStrO, gInt, gInt2, dJoin, dSplit, gStr, gDivmod2, gIsTy, gTuple, gList, gAll, dAppend, dItems, itemsOf, dRange1, dFor, D.onB, D.tyn, D.isNon, asL, rsv, kb_di, kb_db, kb_ds, kb_dt, kb_dl, kb_ii, kb_bi, kb_ni, kb_si, kb_ti, kb_li, kb_ib, kb_bb, kb_nb, kb_sb, kb_tb, kb_lb, kb_is, kb_bs, kb_ns, kb_ss, kb_ts, kb_ls, kb_it, kb_bt, kb_nt, kb_st, kb_tt, kb_lt, startD, List.map_cons, List.map_nil, List.length_cons, List.length_nil, List.cons_append, List.nil_append, List.replicate, List.getElem?_cons_zero, List.getElem?_cons_succ, List.set_cons_zero, List.set_cons_succ, List.zip_cons_cons, List.zip_nil_right, List.foldl_cons, List.foldl_nil, Option.bind_some, Option.bind_none, um_same, um_um, Bool.false_eq_true, reduceCtorEq, false_implies, true_implies, forall_const, true_and, and_true, and_self, Bool.not_true, Bool.not_false, implies_true, decide_eq_true_eq, decide_eq_false_iff_not, Bool.not_eq_true, not_true_eq_false, not_false_eq_true, Bool.not_eq_true', Bool.not_eq_false', D.onB, sizeLine_eq, Nat.reduceAdd, Nat.reduceLeDiff, Nat.zero_add, Nat.reduceLT, t_law_gulp, hg, at0, at1, at2, at3, ix0, ix1, ix2]
    refine ⟨fun c1 => ⟨⟨by omega, by first | omega | exact .inl (by omega)⟩, Wk.of (h _ _ (Int.emod_nonneg _ (by omega)) (Int.emod_lt_of_pos _ (by omega)) ⟨_, _, _, Int.ediv_nonneg ha (by omega), hb, rfl⟩)⟩, fun c1 => ?_⟩
    have e0 := Int.emod_nonneg (b + 51031 * (c + 1)) (show (2147482951 : Int) ≠ 0 by decide)
    have e1 := Int.emod_lt_of_pos (b + 51031 * (c + 1)) (show (0 : Int) < 2147482951 by decide)
    refine ⟨.inl (.inl ⟨by decide, by decide⟩), by decide, by decide, .inl (.inl ⟨by omega, by omega⟩), .inl (.inl ⟨by decide, by decide⟩), by decide, ⟨by decide, .inl (by decide)⟩, by omega, ?_⟩
    exact Wk.of (h _ _ (Int.emod_nonneg _ (by omega)) (Int.emod_lt_of_pos _ (by omega)) ⟨_, _, _, ha, Int.emod_nonneg _ (by decide), rfl⟩)
  · exact h.elim
abbrev N_law_choose : List Str := ["_law_gourd", "_law_menu"]
def sp_law_choose : DSp := fun ds M Q _ => match ds with
  | [.ref g, .lst xs] => Gd M g ∧ (xs ≠ [] ∧ xs.length < 2 ^ 30) ∧ ∀ x M', x ∈ xs → Gs g M M' → Q x M'
  | _ => False
theorem len_law_choose : ∀ ds M Q E, sp_law_choose ds M Q E → ds.length = 2 := fun ds M Q E h => by
  unfold sp_law_choose at h; split at h <;> first | rfl | exact h.elim
def t_law_choose (W : DW') : TDS :=
  dRet (dOp gIx (dV 1) (dCall sp_law_gulp W (dCons (dV 0) (dCons (dCB gLen (dCons (dV 1) (dNil))) (dNil)))))
theorem atI_some {α : Type} {xs : List α} {r : Int} (h0 : 0 ≤ r) (h1 : r < xs.length) : ∃ x, x ∈ xs ∧ atI xs r = some x := by
  have hk : r.toNat < xs.length := by omega
  have e : atI xs ((r.toNat : Nat) : Int) = some xs[r.toNat] := atI_nat (List.getElem?_eq_getElem hk)
  rw [Int.toNat_of_nonneg h0] at e
  exact ⟨_, List.getElem_mem hk, e⟩
theorem pure_law_choose (ds : List D) (M : Mp) (Q : DK) (E : XE') (h : sp_law_choose ds M Q E) : t_law_choose (fnW E) { nx := fun _ M' => Wk (Q .non) M', rt := fun d M' => Wk (Q d) M' } (startD N_law_choose ds) M := by
  unfold sp_law_choose at h
  split at h
  · rename_i g xs
    obtain ⟨hg, ⟨n0, n1⟩, h⟩ := h
    simp (config := { decide := false }) only [dgSubD, dgLs, D.wk, endsW, rowP, dCm, dCmK, dMakeV, rhsE, dRaise, dTry, dHds, dAct, dXf, dIsE, dput, dclr, dEndsC, fnW, pl_lint, pl_tint, eqv_lint, eqv_tint, decide_true, decide_false, djItems, seqJ, dLCG, gMul, dEnum, dLC, dYes, wipeD, dFld, fldOf, dSetF, putD, dMake, mkQ, mkQM, isOf, gIn, gIn2, dDct, gSorted, asI, pick, List.filterMap_cons, List.filterMap_nil, List.getElem?_nil, dSeq, dNext, dRet, dIfS, dAsg, dgName, dgTup, dgCons, dgNil, dgSub, dPar, dAug, dDrop, dNever, dOp, gI, gT, gPlus, gAdd, gEq, gNe, gIs, gIs2, gIx, dV, dC, dB, dAnd, dOr, dNot, dAndV, dNotV, dIf, dNeg, dNil, dCons, dTup, dLst, dLstM, dNoPart, dPart, dSl, dCB, dCall, gLen, gAbs, g2, gStrO, gInt, gInt2, dJoin, dSplit, gStr, gDivmod2, gIsTy, gTuple, gList, gAll, dAppend, dItems, itemsOf, dRange1, dFor, D.onB, D.tyn, D.isNon, asL, rsv, kb_di, kb_db, kb_ds, kb_dt, kb_dl, kb_ii, kb_bi, kb_ni, kb_si, kb_ti, kb_li, kb_ib, kb_bb, kb_nb, kb_sb, kb_tb, kb_lb, kb_is, kb_bs, kb_ns, kb_ss, kb_ts, kb_ls, kb_it, kb_bt, kb_nt, kb_st, kb_tt, kb_lt, startD, List.map_cons, List.map_nil, List.length_cons, List.length_nil, List.cons_append, List.nil_append, List.replicate, List.getElem?_cons_zero, List.getElem?_cons_succ, List.set_cons_zero, List.set_cons_succ, List.zip_cons_cons, List.zip_nil_right, List.foldl_cons, List.foldl_nil, Option.bind_some, Option.bind_none, um_same, um_um, Bool.false_eq_true, reduceCtorEq, false_implies, true_implies, forall_const, true_and, and_true, and_self, Bool.not_true, Bool.not_false, implies_true, decide_eq_true_eq, decide_eq_false_iff_not, Bool.not_eq_true, not_true_eq_false, not_false_eq_true, Bool.not_eq_true', Bool.not_eq_false', D.onB, sizeLine_eq, Nat.reduceAdd, Nat.reduceLeDiff, Nat.zero_add, Nat.reduceLT, t_law_choose, sp_law_gulp]
    have hp : 0 < xs.length := List.length_pos_iff.mpr n0
    refine ⟨hg, ⟨by omega, by omega⟩, fun r M' h0 h1 hs => ?_⟩
    obtain ⟨x, hx, e⟩ := atI_some h0 h1
    rw [e]
    exact Wk.of (h _ _ hx hs)
  · exact h.elim
abbrev N_law_gourd_of : List Str := ["_law_script", "_law_turn", "_law_cell", "_law_churned", "_law_at", "_law_each"]
def sp_law_gourd_of : DSp := fun ds M Q _ => match ds with
  | [.scr ns, .int k] => (0 ≤ k ∧ k < 1000) ∧ ∀ p M', M p = none → Gs p M M' → Q (.ref p) M'
  | _ => False
theorem len_law_gourd_of : ∀ ds M Q E, sp_law_gourd_of ds M Q E → ds.length = 2 := fun ds M Q E h => by
  unfold sp_law_gourd_of at h; split at h <;> first | rfl | exact h.elim
def b1_law_gourd_of (W : DW') : TDS :=
  dAsg (dOp (gI (fun _ j => 0 < j) fun i j => .int (i % j)) (dCB gInt2 (dCons (dOp gAdd (dOp gMul (dV 3) (dOp gAdd (dC (.int 14009)) (dOp gMul (dC (.int 58)) (dV 4)))) (dOp gMul (dC (.int 19)) (dV 5))) (dNil))) (dC (.int 2147482951))) (dgName 3)
def r2_law_gourd_of (W : DW') : TDS :=
  dRet (dLstM (dCons (dIf (dOr (dB (dOp (gT fun i j => decide (i < j)) (dV 2) (dC (.int 0)))) (dB (dOp (gT fun i j => decide (j ≤ i)) (dV 2) (dOp (gI CPow fun i j => .int (i ^ j.toNat)) (dC (.int 10)) (dC (.int 17)))))) (dCB gAbs (dCons (dV 2) (dNil))) (dC (.int 0))) (dCons (dOp (gI (fun _ j => 0 < j) fun i j => .int (i % j)) (dCB gInt2 (dCons (dOp gAdd (dV 3) (dOp gMul (dC (.int 29009)) (dV 2))) (dNil))) (dC (.int 2147482951))) (dCons (dC (.int 0)) (dNil)))))
def r1_law_gourd_of (W : DW') : TDS :=
  dSeq (dFor (dEnum (dCons (dSl (dV 0) (dNoPart) (dPart (dC (.int 6)))) (dNil))) (dgTup (dgCons (dgName 4) (dgCons (dgName 5) (dgNil)))) (b1_law_gourd_of W)) <|
  r2_law_gourd_of W
def t_law_gourd_of (W : DW') : TDS :=
  dSeq (dPar [2, 3] (dCons (dIf (dB (dOp (gT fun i j => decide (i < j)) (dV 1) (dCB gLen (dCons (dV 0) (dNil))))) (dOp gIx (dV 0) (dV 1)) (dC (.int 0))) (dCons (dOp gAdd (dC (.int 10007)) (dOp gMul (dC (.int 60013)) (dV 1))) (dNil)))) <|
  r1_law_gourd_of W
theorem gourd_turn {W : DW'} {E : DEnds} {M : Mp} {a b c y z : Option D} {ns : List Int} {m : Int} (m0 : 0 ≤ m) (m1 : m < 2 ^ 40) (h : ∀ m y z, 0 ≤ m → m < 2 ^ 40 → E.nx [a, b, c, some (.int m), y, z] M) :
    forL (dgTup (dgCons (dgName 4) (dgCons (dgName 5) dgNil))) (b1_law_gourd_of W) E (enD 0 (ns.map .int)) [a, b, c, some (.int m), y, z] M := by
  refine for_by (fun i ρ M' => M' = M ∧ ∃ m y z, ρ = [a, b, c, some (.int m), y, z] ∧ 0 ≤ m ∧ m < 2 ^ 40) ⟨rfl, m, y, z, rfl, m0, m1⟩ ?_ ?_
  · rintro i d ρ M' P hi ⟨rfl, m, y, z, rfl, m0, m1⟩ hP
    obtain ⟨x, hx, rfl⟩ := enD_get _ _ _ _ hi
    rw [List.getElem?_map] at hx
    cases q : ns[i]? with
    | none => rw [q] at hx; cases hx
    | some t =>
      rw [q] at hx
      cases hx
      simp (config := { decide := false }) only [dgSubD, dgLs, D.wk, endsW, rowP, dCm, dCmK, dMakeV, rhsE, dRaise, dTry, dHds, dAct, dXf, dIsE, dput, dclr, dEndsC, fnW, pl_lint, pl_tint, eqv_lint, eqv_tint, decide_true, decide_false, djItems, seqJ, dLCG, gMul, dEnum, dLC, dYes, wipeD, dFld, fldOf, dSetF, putD, dMake, mkQ, mkQM, isOf, gIn, gIn2, dDct, gSorted, asI, pick, List.filterMap_cons, List.filterMap_nil, List.getElem?_nil, dSeq, dNext, dRet, dIfS, dAsg, dgName, dgTup, dgCons, dgNil, dgSub, dPar, dAug, dDrop, dNever, dOp, gI, gT, gPlus, gAdd, gEq, gNe, gIs, gIs2, gIx, dV, dC, dB, dAnd, dOr, dNot, dAndV, dNotV, dIf, dNeg, dNil, dCons, dTup, dLst, dLstM, dNoPart, dPart, dSl, dCB, dCall, gLen, gAbs, g2, gStrO, gInt, gInt2, dJoin, dSplit, gStr, gDivmod2, gIsTy, gTuple, gList, gAll, dAppend, dItems, itemsOf, dRange1, dFor, D.onB, D.tyn, D.isNon, asL, rsv, kb_di, kb_db, kb_ds, kb_dt, kb_dl, kb_ii, kb_bi, kb_ni, kb_si, kb_ti, kb_li, kb_ib, kb_bb, kb_nb, kb_sb, kb_tb, kb_lb, kb_is, kb_bs, kb_ns, kb_ss, kb_ts, kb_ls, kb_it, kb_bt, kb_nt, kb_st, kb_tt, kb_lt, startD, List.map_cons, List.map_nil, List.length_cons, List.length_nil, List.cons_append, List.nil_append, List.replicate, List.getElem?_cons_zero, List.getElem?_cons_succ, List.set_cons_zero, List.set_cons_succ, List.zip_cons_cons, List.zip_nil_right, List.foldl_cons, List.foldl_nil, Option.bind_some, Option.bind_none, um_same, um_um, Bool.false_eq_true, reduceCtorEq, false_implies, true_implies, forall_const, true_and, and_true, and_self, Bool.not_true, Bool.not_false, implies_true, decide_eq_true_eq, decide_eq_false_iff_not, Bool.not_eq_true, not_true_eq_false, not_false_eq_true, Bool.not_eq_true', Bool.not_eq_false', D.onB, sizeLine_eq, Nat.reduceAdd, Nat.reduceLeDiff, Nat.zero_add, Nat.reduceLT, b1_law_gourd_of]
      have e0 := Int.emod_nonneg (m * (14009 + 58 * ((0 + i : Nat) : Int)) + 19 * t) (show (2147482951 : Int) ≠ 0 by decide)
      have e1 := Int.emod_lt_of_pos (m * (14009 + 58 * ((0 + i : Nat) : Int)) + 19 * t) (show (0 : Int) < 2147482951 by decide)
      simp only [Nat.zero_add] at e0 e1 ⊢
      exact ⟨.inl (.inl ⟨by decide, by decide⟩), .inl (.inl ⟨by omega, by omega⟩), .inl (.inl ⟨by decide, by decide⟩), by decide, Wk.of (hP _ _ ⟨rfl, _, _, _, rfl, e0, by omega⟩)⟩
  · rintro ρ M' ⟨rfl, m, y, z, rfl, m0, m1⟩
    exact h _ _ _ m0 m1
theorem pure_law_gourd_of (ds : List D) (M : Mp) (Q : DK) (E : XE') (h : sp_law_gourd_of ds M Q E) : t_law_gourd_of (fnW E) { nx := fun _ M' => Wk (Q .non) M', rt := fun d M' => Wk (Q d) M' } (startD N_law_gourd_of ds) M := by
  unfold sp_law_gourd_of at h
  split at h
  · rename_i ns k
    obtain ⟨⟨k0, k1⟩, h⟩ := h
    have fin : ∀ (x m : Int) (y z : Option D), r2_law_gourd_of (fnW E) { nx := fun x M' => Wk (Q D.non) M', rt := fun d M' => Wk (Q d) M' } [some (.scr ns), some (.int k), some (.int x), some (.int m), y, z] M := by
      intro x m y z
      simp (config := { decide := false }) only [dgSubD, dgLs, D.wk, endsW, rowP, dCm, dCmK, dMakeV, rhsE, dRaise, dTry, dHds, dAct, dXf, dIsE, dput, dclr, dEndsC, fnW, pl_lint, pl_tint, eqv_lint, eqv_tint, decide_true, decide_false, djItems, seqJ, dLCG, gMul, dEnum, dLC, dYes, wipeD, dFld, fldOf, dSetF, putD, dMake, mkQ, mkQM, isOf, gIn, gIn2, dDct, gSorted, asI, pick, List.filterMap_cons, List.filterMap_nil, List.getElem?_nil, dSeq, dNext, dRet, dIfS, dAsg, dgName, dgTup, dgCons, dgNil, dgSub, dPar, dAug, dDrop, dNever, dOp, gI, gT, gPlus, gAdd, gEq, gNe, gIs, gIs2, gIx, dV, dC, dB, dAnd, dOr, dNot, dAndV, dNotV, dIf, dNeg, dNil, dCons, dTup, dLst, dLstM, dNoPart, dPart, dSl, dCB, dCall, gLen, gAbs, g2, gStrO, gInt, gInt2, dJoin, dSplit, gStr, gDivmod2, gIsTy, gTuple, gList, gAll, dAppend, dItems, itemsOf, dRange1, dFor, D.onB, D.tyn, D.isNon, asL, rsv, kb_di, kb_db, kb_ds, kb_dt, kb_dl, kb_ii, kb_bi, kb_ni, kb_si, kb_ti, kb_li, kb_ib, kb_bb, kb_nb, kb_sb, kb_tb, kb_lb, kb_is, kb_bs, kb_ns, kb_ss, kb_ts, kb_ls, kb_it, kb_bt, kb_nt, kb_st, kb_tt, kb_lt, startD, List.map_cons, List.map_nil, List.length_cons, List.length_nil, List.cons_append, List.nil_append, List.replicate, List.getElem?_cons_zero, List.getElem?_cons_succ, List.set_cons_zero, List.set_cons_succ, List.zip_cons_cons, List.zip_nil_right, List.foldl_cons, List.foldl_nil, Option.bind_some, Option.bind_none, um_same, um_um, Bool.false_eq_true, reduceCtorEq, false_implies, true_implies, forall_const, true_and, and_true, and_self, Bool.not_true, Bool.not_false, implies_true, decide_eq_true_eq, decide_eq_false_iff_not, Bool.not_eq_true, not_true_eq_false, not_false_eq_true, Bool.not_eq_true', Bool.not_eq_false', D.onB, sizeLine_eq, Nat.reduceAdd, Nat.reduceLeDiff, Nat.zero_add, Nat.reduceLT, r2_law_gourd_of]
      have e0 := Int.emod_nonneg (m + 29009 * x) (show (2147482951 : Int) ≠ 0 by decide)
      have cp : CPow 10 17 := ⟨by decide, by decide, by decide⟩
      refine ⟨fun c1 => ⟨.inl (.inl ⟨by decide, by decide⟩), by decide, fun p hp => Wk.of (h _ _ hp ⟨_, _, _, by omega, e0, rfl⟩)⟩, fun c1 => ⟨cp, fun c2 => ⟨.inl (.inl ⟨by decide, by decide⟩), by decide, fun p hp => Wk.of (h _ _ hp ⟨_, _, _, by omega, e0, rfl⟩)⟩, fun c2 => ⟨.inl (.inl ⟨by decide, by decide⟩), by decide, fun p hp => Wk.of (h _ _ hp ⟨_, _, _, by omega, e0, rfl⟩)⟩⟩⟩
    have main : ∀ x : Int, r1_law_gourd_of (fnW E) { nx := fun x M' => Wk (Q D.non) M', rt := fun d M' => Wk (Q d) M' } [some (.scr ns), some (.int k), some (.int x), some (.int (10007 + 60013 * k)), none, none] M := by
      intro x
      unfold r1_law_gourd_of
      exact gourd_turn (E := { nx := r2_law_gourd_of (fnW E) { nx := fun x M' => Wk (Q D.non) M', rt := fun d M' => Wk (Q d) M' }, rt := fun d M' => Wk (Q d) M' }) (ns := cutL ns none (some 6)) (by omega) (by omega) fun m y z _ _ => fin x m y z
    simp (config := { decide := false }) only [dgSubD, dgLs, D.wk, endsW, rowP, dCm, dCmK, dMakeV, rhsE, dRaise, dTry, dHds, dAct, dXf, dIsE, dput, dclr, dEndsC, fnW, pl_lint, pl_tint, eqv_lint, eqv_tint, decide_true, decide_false, djItems, seqJ, dLCG, gMul, dEnum, dLC, dYes, wipeD, dFld, fldOf, dSetF, putD, dMake, mkQ, mkQM, isOf, gIn, gIn2, dDct, gSorted, asI, pick, List.filterMap_cons, List.filterMap_nil, List.getElem?_nil, dSeq, dNext, dRet, dIfS, dAsg, dgName, dgTup, dgCons, dgNil, dgSub, dPar, dAug, dDrop, dNever, dOp, gI, gT, gPlus, gAdd, gEq, gNe, gIs, gIs2, gIx, dV, dC, dB, dAnd, dOr, dNot, dAndV, dNotV, dIf, dNeg, dNil, dCons, dTup, dLst, dLstM, dNoPart, dPart, dSl, dCB, dCall, gLen, gAbs, g2, gStrO, gInt, gInt2, dJoin, dSplit, gStr, gDivmod2, gIsTy, gTuple, gList, gAll, dAppend, dItems, itemsOf, dRange1, dFor, D.onB, D.tyn, D.isNon, asL, rsv, kb_di, kb_db, kb_ds, kb_dt, kb_dl, kb_ii, kb_bi, kb_ni, kb_si, kb_ti, kb_li, kb_ib, kb_bb, kb_nb, kb_sb, kb_tb, kb_lb, kb_is, kb_bs, kb_ns, kb_ss, kb_ts, kb_ls, kb_it, kb_bt, kb_nt, kb_st, kb_tt, kb_lt, startD, List.map_cons, List.map_nil, List.length_cons, List.length_nil, List.cons_append, List.nil_append, List.replicate, List.getElem?_cons_zero, List.getElem?_cons_succ, List.set_cons_zero, List.set_cons_succ, List.zip_cons_cons, List.zip_nil_right, List.foldl_cons, List.foldl_nil, Option.bind_some, Option.bind_none, um_same, um_um, Bool.false_eq_true, reduceCtorEq, false_implies, true_implies, forall_const, true_and, and_true, and_self, Bool.not_true, Bool.not_false, implies_true, decide_eq_true_eq, decide_eq_false_iff_not, Bool.not_eq_true, not_true_eq_false, not_false_eq_true, Bool.not_eq_true', Bool.not_eq_false', D.onB, sizeLine_eq, Nat.reduceAdd, Nat.reduceLeDiff, Nat.zero_add, Nat.reduceLT, t_law_gourd_of]
    refine ⟨fun c => ?_, fun c => ⟨.inl (.inl ⟨by decide, by decide⟩), main _⟩⟩
    obtain ⟨x, _, e⟩ := atI_some k0 c
    rw [e]
    exact ⟨.inl (.inl ⟨by decide, by decide⟩), main _⟩
  · exact h.elim
abbrev N_is_prime : List Str := ["value", "at"]
def isP (v : Int) : Prop := 2 ≤ v ∧ v ≤ 30030 ∧ ∀ a : Int, 2 ≤ a → a * a ≤ v → v % a ≠ 0
def okRow : Int → Int → List Int → Prop
  | _, _, [] => True
  | b, w, p :: ps => isP p ∧ b < p ∧ w * p ≤ 30030 ∧ okRow p (w * p) ps
def sp_is_prime : DSp := fun ds M Q _ => match ds with
  | [d] => d.tyn M ≠ none ∧ (match d with
    | .int v => ∀ b : Bool, (b = true ↔ isP v) → Q (.bl b) M
    | _ => Q (.bl false) M)
  | _ => False
theorem len_is_prime : ∀ ds M Q E, sp_is_prime ds M Q E → ds.length = 1 := fun ds M Q E h => by
  unfold sp_is_prime at h; split at h <;> first | rfl | exact h.elim
def b1_is_prime (W : DW') : TDS :=
  dSeq (dIfS (dB (dOp gEq (dOp (gI (fun _ j => 0 < j) fun i j => .int (i % j)) (dV 0) (dV 1)) (dC (.int 0)))) (dRet (dC (.bl false))) (dNext)) <|
  dAug 1 (dC (.int 1)) gPlus
def c2_is_prime (W : DW') : TDb :=
  dB (dOp (gT fun i j => decide (i ≤ j)) (dOp gMul (dV 1) (dV 1)) (dV 0))
def t_is_prime (W : DW') : TDS :=
  dSeq (dIfS (dOr (dNot (dB (dCall sp_is_integer W (dCons (dV 0) (dNil))))) (dOr (dB (dOp (gT fun i j => decide (i < j)) (dV 0) (dC (.int 2)))) (dB (dOp (gT fun i j => decide (j < i)) (dV 0) (dC (.int 30030)))))) (dRet (dC (.bl false))) (dNext)) <|
  dSeq (dAsg (dC (.int 2)) (dgName 1)) <|
  dSeq (dWhile (c2_is_prime W) (b1_is_prime W)) <|
  dRet (dC (.bl true))
theorem sq_lt {a b : Int} (h0 : 0 ≤ a) (h : a ≤ b) : a * a ≤ b * b := Int.mul_le_mul h h h0 (by omega)
theorem pure_is_prime (ds : List D) (M : Mp) (Q : DK) (E : XE') (h : sp_is_prime ds M Q E) : t_is_prime (fnW E) { nx := fun _ M' => Wk (Q .non) M', rt := fun d M' => Wk (Q d) M' } (startD N_is_prime ds) M := by
  unfold sp_is_prime at h
  split at h
  · rename_i d
    obtain ⟨h0, h⟩ := h
    cases d
    case int v =>
      simp (config := { decide := false }) only [dgSubD, dgLs, D.wk, endsW, rowP, dCm, dCmK, dMakeV, rhsE, dRaise, dTry, dHds, dAct, dXf, dIsE, dput, dclr, dEndsC, fnW, pl_lint, pl_tint, eqv_lint, eqv_tint, decide_true, decide_false, djItems, seqJ, dLCG, gMul, dEnum, dLC, dYes, wipeD, dFld, fldOf, dSetF, putD, dMake, mkQ, mkQM, isOf, gIn, gIn2, dDct, gSorted, asI, pick, List.filterMap_cons, List.filterMap_nil, List.getElem?_nil, dSeq, dNext, dRet, dIfS, dAsg, dgName, dgTup, dgCons, dgNil, dgSub, dPar, dAug, dDrop, dNever, dOp, gI, gT, gPlus, gAdd, gEq, gNe, gIs, gIs2, gIx, dV, dC, dB, dAnd, dOr, dNot, dAndV, dNotV, dIf, dNeg, dNil, dCons, dTup, dLst, dLstM, dNoPart, dPart, dSl, dCB, dCall, gLen, gAbs, g2, gStrO, gInt, gInt2, dJoin, dSplit, gStr, gDivmod2, gIsTy, gTuple, gList, gAll, dAppend, dItems, itemsOf, dRange1, dFor, D.onB, D.tyn, D.isNon, asL, rsv, kb_di, kb_db, kb_ds, kb_dt, kb_dl, kb_ii, kb_bi, kb_ni, kb_si, kb_ti, kb_li, kb_ib, kb_bb, kb_nb, kb_sb, kb_tb, kb_lb, kb_is, kb_bs, kb_ns, kb_ss, kb_ts, kb_ls, kb_it, kb_bt, kb_nt, kb_st, kb_tt, kb_lt, startD, List.map_cons, List.map_nil, List.length_cons, List.length_nil, List.cons_append, List.nil_append, List.replicate, List.getElem?_cons_zero, List.getElem?_cons_succ, List.set_cons_zero, List.set_cons_succ, List.zip_cons_cons, List.zip_nil_right, List.foldl_cons, List.foldl_nil, Option.bind_some, Option.bind_none, um_same, um_um, Bool.false_eq_true, reduceCtorEq, false_implies, true_implies, forall_const, true_and, and_true, and_self, Bool.not_true, Bool.not_false, implies_true, decide_eq_true_eq, decide_eq_false_iff_not, Bool.not_eq_true, not_true_eq_false, not_false_eq_true, Bool.not_eq_true', Bool.not_eq_false', D.onB, sizeLine_eq, Nat.reduceAdd, Nat.reduceLeDiff, Nat.zero_add, Nat.reduceLT, t_is_prime, sp_is_integer, D.isInt]
      refine ⟨by simp [D.tyn], fun c1 => ?_, fun c1 => ⟨fun c2 => ?_, fun c2 => ?_⟩⟩
      · exact Wk.of (h false ⟨fun z => absurd z (by decide), fun z => by have := z.1; omega⟩)
      · exact Wk.of (h false ⟨fun z => absurd z (by decide), fun z => by have := z.2.1; omega⟩)
      · refine while_byN (fun n ρ M' => ∃ a : Int, ρ = [some (.int v), some (.int a)] ∧ M' = M ∧ 2 ≤ a ∧ (n : Int) = v + 2 - a ∧ ∀ x : Int, 2 ≤ x → x < a → v % x ≠ 0) v.toNat ⟨2, rfl, rfl, by omega, by omega, fun x _ _ => by omega⟩ ?_
        rintro n ρ M' P ⟨a, rfl, rfl, a2, hn, ha⟩ hP
        simp (config := { decide := false }) only [dgSubD, dgLs, D.wk, endsW, rowP, dCm, dCmK, dMakeV, rhsE, dRaise, dTry, dHds, dAct, dXf, dIsE, dput, dclr, dEndsC, fnW, pl_lint, pl_tint, eqv_lint, eqv_tint, decide_true, decide_false, djItems, seqJ, dLCG, gMul, dEnum, dLC, dYes, wipeD, dFld, fldOf, dSetF, putD, dMake, mkQ, mkQM, isOf, gIn, gIn2, dDct, gSorted, asI, pick, List.filterMap_cons, List.filterMap_nil, List.getElem?_nil, dSeq, dNext, dRet, dIfS, dAsg, dgName, dgTup, dgCons, dgNil, dgSub, dPar, dAug, dDrop, dNever, dOp, gI, gT, gPlus, gAdd, gEq, gNe, gIs, gIs2, gIx, dV, dC, dB, dAnd, dOr, dNot, dAndV, dNotV, dIf, dNeg, dNil, dCons, dTup, dLst, dLstM, dNoPart, dPart, dSl, dCB, dCall, gLen, gAbs, g2, gStrO, gInt, gInt2, dJoin, dSplit, gStr, gDivmod2, gIsTy, gTuple, gList, gAll, dAppend, dItems, itemsOf, dRange1, dFor, D.onB, D.tyn, D.isNon, asL, rsv, kb_di, kb_db, kb_ds, kb_dt, kb_dl, kb_ii, kb_bi, kb_ni, kb_si, kb_ti, kb_li, kb_ib, kb_bb, kb_nb, kb_sb, kb_tb, kb_lb, kb_is, kb_bs, kb_ns, kb_ss, kb_ts, kb_ls, kb_it, kb_bt, kb_nt, kb_st, kb_tt, kb_lt, startD, List.map_cons, List.map_nil, List.length_cons, List.length_nil, List.cons_append, List.nil_append, List.replicate, List.getElem?_cons_zero, List.getElem?_cons_succ, List.set_cons_zero, List.set_cons_succ, List.zip_cons_cons, List.zip_nil_right, List.foldl_cons, List.foldl_nil, Option.bind_some, Option.bind_none, um_same, um_um, Bool.false_eq_true, reduceCtorEq, false_implies, true_implies, forall_const, true_and, and_true, and_self, Bool.not_true, Bool.not_false, implies_true, decide_eq_true_eq, decide_eq_false_iff_not, Bool.not_eq_true, not_true_eq_false, not_false_eq_true, Bool.not_eq_true', Bool.not_eq_false', D.onB, sizeLine_eq, Nat.reduceAdd, Nat.reduceLeDiff, Nat.zero_add, Nat.reduceLT, c2_is_prime, b1_is_prime]
        refine ⟨.inl (.inl ⟨?_, ?_⟩), fun c3 => ⟨by omega, fun c4 => ?_, fun c4 => ?_⟩, fun c3 => ?_⟩
        · omega
        · omega
        · exact Wk.of (h false ⟨fun z => absurd z (by decide), fun z => absurd c4 (z.2.2 a a2 c3)⟩)
        · have := sq_lt (show (0 : Int) ≤ 2 by decide) a2
          have q : a * 2 ≤ a * a := Int.mul_le_mul_of_nonneg_left a2 (by omega)
          refine Wk.of (hP (n - 1) _ _ ⟨a + 1, rfl, rfl, by omega, by omega, fun x h1 h2 => ?_⟩ (by omega))
          by_cases e : x = a
          · rw [e]; exact c4
          · exact ha x h1 (by omega)
        · refine Wk.of (h true ⟨fun _ => ⟨by omega, by omega, fun x h1 h2 => ?_⟩, fun _ => rfl⟩)
          by_cases e : x < a
          · exact ha x h1 e
          · have := sq_lt (show (0 : Int) ≤ a by omega) (show a ≤ x by omega)
            omega
    all_goals
      simp (config := { decide := false }) only [dgSubD, dgLs, D.wk, endsW, rowP, dCm, dCmK, dMakeV, rhsE, dRaise, dTry, dHds, dAct, dXf, dIsE, dput, dclr, dEndsC, fnW, pl_lint, pl_tint, eqv_lint, eqv_tint, decide_true, decide_false, djItems, seqJ, dLCG, gMul, dEnum, dLC, dYes, wipeD, dFld, fldOf, dSetF, putD, dMake, mkQ, mkQM, isOf, gIn, gIn2, dDct, gSorted, asI, pick, List.filterMap_cons, List.filterMap_nil, List.getElem?_nil, dSeq, dNext, dRet, dIfS, dAsg, dgName, dgTup, dgCons, dgNil, dgSub, dPar, dAug, dDrop, dNever, dOp, gI, gT, gPlus, gAdd, gEq, gNe, gIs, gIs2, gIx, dV, dC, dB, dAnd, dOr, dNot, dAndV, dNotV, dIf, dNeg, dNil, dCons, dTup, dLst, dLstM, dNoPart, dPart, dSl, dCB, dCall, gLen, gAbs, g2, gStrO, gInt, gInt2, dJoin, dSplit, gStr, gDivmod2, gIsTy, gTuple, gList, gAll, dAppend, dItems, itemsOf, dRange1, dFor, D.onB, D.tyn, D.isNon, asL, rsv, kb_di, kb_db, kb_ds, kb_dt, kb_dl, kb_ii, kb_bi, kb_ni, kb_si, kb_ti, kb_li, kb_ib, kb_bb, kb_nb, kb_sb, kb_tb, kb_lb, kb_is, kb_bs, kb_ns, kb_ss, kb_ts, kb_ls, kb_it, kb_bt, kb_nt, kb_st, kb_tt, kb_lt, startD, List.map_cons, List.map_nil, List.length_cons, List.length_nil, List.cons_append, List.nil_append, List.replicate, List.getElem?_cons_zero, List.getElem?_cons_succ, List.set_cons_zero, List.set_cons_succ, List.zip_cons_cons, List.zip_nil_right, List.foldl_cons, List.foldl_nil, Option.bind_some, Option.bind_none, um_same, um_um, Bool.false_eq_true, reduceCtorEq, false_implies, true_implies, forall_const, true_and, and_true, and_self, Bool.not_true, Bool.not_false, implies_true, decide_eq_true_eq, decide_eq_false_iff_not, Bool.not_eq_true, not_true_eq_false, not_false_eq_true, Bool.not_eq_true', Bool.not_eq_false', D.onB, sizeLine_eq, Nat.reduceAdd, Nat.reduceLeDiff, Nat.zero_add, Nat.reduceLT, t_is_prime, sp_is_integer, D.isInt]
      exact ⟨h0, Wk.of h⟩
  · exact h.elim
/-- a value of a known kind -/
def knB : D → Bool
  | .non | .bl _ | .int _ | .str _ | .tup _ | .lst _ | .dct => true
  | _ => false
theorem kn_tyn {d : D} (M : Mp) (h : knB d = true) : d.tyn M ≠ none := by
  cases d <;> first | exact absurd h Bool.false_ne_true | (simp [D.tyn]; done)
/-- .. the items of a tuple too -/
def knD (d : D) : Prop := knB d = true ∧ ∀ xs, d = .tup xs → (∀ x ∈ xs, knB x = true) ∧ xs.length ≤ 100
open Classical in
/-- the place of the first item that is no prime as it should be -/
noncomputable def wrP : Nat → Int → Int → List D → Option Nat
  | _, _, _, [] => none
  | k, b, w, .int p :: ds => if isP p ∧ b < p ∧ w * p ≤ 30030 then wrP (k + 1) p (w * p) ds else some k
  | k, _, _, _ :: _ => some k
theorem wrP_int {k : Nat} {b w p : Int} {ds : List D} (h : isP p ∧ b < p ∧ w * p ≤ 30030) : wrP k b w (.int p :: ds) = wrP (k + 1) p (w * p) ds := by
  rw [wrP, if_pos h]
theorem wrP_bad {k : Nat} {b w p : Int} {ds : List D} (h : ¬ (isP p ∧ b < p ∧ w * p ≤ 30030)) : wrP k b w (.int p :: ds) = some k := by
  rw [wrP, if_neg h]
theorem wrP_none : ∀ {xs : List D} {k : Nat} {b w : Int}, wrP k b w xs = none → ∃ ps : List Int, xs = ps.map .int ∧ okRow b w ps
  | [], _, _, _, _ => ⟨[], rfl, trivial⟩
  | .int p :: ds, k, b, w, h => by
    by_cases c : isP p ∧ b < p ∧ w * p ≤ 30030
    · rw [wrP_int c] at h
      obtain ⟨ps, rfl, ho⟩ := wrP_none h
      exact ⟨p :: ps, rfl, c.1, c.2.1, c.2.2, ho⟩
    · rw [wrP_bad c] at h; cases h
  | .non :: _, _, _, _, h => by unfold wrP at h; cases h
  | .bl _ :: _, _, _, _, h => by unfold wrP at h; cases h
  | .str _ :: _, _, _, _, h => by unfold wrP at h; cases h
  | .tup _ :: _, _, _, _, h => by unfold wrP at h; cases h
  | .lst _ :: _, _, _, _, h => by unfold wrP at h; cases h
  | .scr _ :: _, _, _, _, h => by unfold wrP at h; cases h
  | .inst _ _ _ :: _, _, _, _, h => by unfold wrP at h; cases h
  | .ref _ :: _, _, _, _, h => by unfold wrP at h; cases h
  | .cls _ :: _, _, _, _, h => by unfold wrP at h; cases h
  | .ty _ :: _, _, _, _, h => by unfold wrP at h; cases h
  | .dct :: _, _, _, _, h => by unfold wrP at h; cases h
theorem wrP_ok : ∀ {ps : List Int} {k : Nat} {b w : Int}, okRow b w ps → wrP k b w (ps.map .int) = none
  | [], _, _, _, _ => rfl
  | p :: ps, k, b, w, h => by rw [List.map_cons, wrP_int ⟨h.1, h.2.1, h.2.2.1⟩]; exact wrP_ok h.2.2.2
theorem wrP_lt : ∀ {xs : List D} {k j : Nat} {b w : Int}, wrP k b w xs = some j → j < k + xs.length
  | [], _, _, _, _, h => by unfold wrP at h; cases h
  | .int p :: ds, k, j, b, w, h => by
    by_cases c : isP p ∧ b < p ∧ w * p ≤ 30030
    · rw [wrP_int c] at h
      have := wrP_lt h
      simp only [List.length_cons]; omega
    · rw [wrP_bad c] at h; cases h; simp only [List.length_cons]; omega
  | .non :: _, _, _, _, _, h => by unfold wrP at h; cases h; simp only [List.length_cons]; omega
  | .bl _ :: _, _, _, _, _, h => by unfold wrP at h; cases h; simp only [List.length_cons]; omega
  | .str _ :: _, _, _, _, _, h => by unfold wrP at h; cases h; simp only [List.length_cons]; omega
  | .tup _ :: _, _, _, _, _, h => by unfold wrP at h; cases h; simp only [List.length_cons]; omega
  | .lst _ :: _, _, _, _, _, h => by unfold wrP at h; cases h; simp only [List.length_cons]; omega
  | .scr _ :: _, _, _, _, _, h => by unfold wrP at h; cases h; simp only [List.length_cons]; omega
  | .inst _ _ _ :: _, _, _, _, _, h => by unfold wrP at h; cases h; simp only [List.length_cons]; omega
  | .ref _ :: _, _, _, _, _, h => by unfold wrP at h; cases h; simp only [List.length_cons]; omega
  | .cls _ :: _, _, _, _, _, h => by unfold wrP at h; cases h; simp only [List.length_cons]; omega
  | .ty _ :: _, _, _, _, _, h => by unfold wrP at h; cases h; simp only [List.length_cons]; omega
  | .dct :: _, _, _, _, _, h => by unfold wrP at h; cases h; simp only [List.length_cons]; omega
  | .ptp _ :: _, _, _, _, _, h => by unfold wrP at h; cases h; simp only [List.length_cons]; omega
  | .dcs _ _ :: _, _, _, _, _, h => by unfold wrP at h; cases h; simp only [List.length_cons]; omega
  | .dts _ _ :: _, _, _, _, _, h => by unfold wrP at h; cases h; simp only [List.length_cons]; omega
  | .ltp _ :: _, _, _, _, _, h => by unfold wrP at h; cases h; simp only [List.length_cons]; omega
  | .exc _ _ _ :: _, _, _, _, _, h => by unfold wrP at h; cases h; simp only [List.length_cons]; omega
/-- the index that is due, none if all are right -/
noncomputable def dueW : D → Option D
  | .tup [] => some .non
  | .tup (x :: xs) => (wrP 0 1 1 (x :: xs)).map fun k => .int (k : Nat)
  | _ => some .non
theorem dueW_tup {xs : List D} (h : xs ≠ []) : dueW (.tup xs) = (wrP 0 1 1 xs).map fun k => .int (k : Nat) := by
  cases xs with
  | nil => exact absurd rfl h
  | cons => rfl
theorem dueW_none {d : D} (h : dueW d = none) : ∃ ps : List Int, d = .tup (ps.map .int) ∧ okRow 1 1 ps ∧ ps ≠ [] := by
  unfold dueW at h
  split at h
  · cases h
  · rename_i x xs
    rw [Option.map_eq_none_iff] at h
    obtain ⟨ps, e, ho⟩ := wrP_none h
    exact ⟨ps, by rw [e], ho, fun z => by subst z; cases e⟩
  · cases h
theorem dueW_ok {ps : List Int} (h : okRow 1 1 ps) (h0 : ps ≠ []) : dueW (.tup (ps.map .int)) = none := by
  rw [dueW_tup (by simpa using h0), wrP_ok h]; rfl
theorem dueW_some {d x : D} (h : dueW d = some x) : x = .non ∨ ∃ k : Nat, x = .int (k : Nat) ∧ ∃ xs, d = .tup xs ∧ k < xs.length := by
  unfold dueW at h
  split at h
  · cases h; exact .inl rfl
  · rename_i y ys
    rw [Option.map_eq_some_iff] at h
    obtain ⟨k, e, rfl⟩ := h
    exact .inr ⟨k, rfl, _, rfl, by have := wrP_lt e; omega⟩
  · cases h; exact .inl rfl
abbrev N_product_of : List Str := ["primes", "found", "prime"]
def prodL (ps : List Int) : Int := ps.foldl (· * ·) 1
def sp_product_of : DSp := fun ds M Q _ => match ds with
  | [.tup xs] => ∃ ps : List Int, xs = ps.map .int ∧ (∃ b, okRow b 1 ps) ∧ Q (.int (prodL ps)) M
  | _ => False
theorem len_product_of : ∀ ds M Q E, sp_product_of ds M Q E → ds.length = 1 := fun ds M Q E h => by
  unfold sp_product_of at h; split at h <;> first | rfl | exact h.elim
def b1_product_of (W : DW') : TDS :=
  dAug 1 (dV 2) (gI mulOk fun i j => .int (i * j))
def t_product_of (W : DW') : TDS :=
  dSeq (dAsg (dC (.int 1)) (dgName 1)) <|
  dSeq (dFor (dItems (dV 0)) (dgName 2) (b1_product_of W)) <|
  dRet (dV 1)
theorem product_turn {W : DW'} {E : DEnds} {M : Mp} {a : Option D} : ∀ (ps : List Int) (b w : Int) (z : Option D), okRow b w ps → 1 ≤ w → w ≤ 30030 → (∀ z, E.nx [a, some (.int (ps.foldl (· * ·) w)), z] M) →
    forL (dgName 2) (b1_product_of W) E (ps.map .int) [a, some (.int w), z] M
  | [], b, w, z, _, _, _, h => h z
  | p :: ps, b, w, z, ho, w1, w2, h => by
    obtain ⟨o1, o2, o3, o4⟩ := ho
    simp only [List.map_cons, forL]
    simp (config := { decide := false }) only [dgSubD, dgLs, D.wk, endsW, rowP, dCm, dCmK, dMakeV, rhsE, dRaise, dTry, dHds, dAct, dXf, dIsE, dput, dclr, dEndsC, fnW, pl_lint, pl_tint, eqv_lint, eqv_tint, decide_true, decide_false, djItems, seqJ, dLCG, gMul, dEnum, dLC, dYes, wipeD, dFld, fldOf, dSetF, putD, dMake, mkQ, mkQM, isOf, gIn, gIn2, dDct, gSorted, asI, pick, List.filterMap_cons, List.filterMap_nil, List.getElem?_nil, dSeq, dNext, dRet, dIfS, dAsg, dgName, dgTup, dgCons, dgNil, dgSub, dPar, dAug, dDrop, dNever, dOp, gI, gT, gPlus, gAdd, gEq, gNe, gIs, gIs2, gIx, dV, dC, dB, dAnd, dOr, dNot, dAndV, dNotV, dIf, dNeg, dNil, dCons, dTup, dLst, dLstM, dNoPart, dPart, dSl, dCB, dCall, gLen, gAbs, g2, gStrO, gInt, gInt2, dJoin, dSplit, gStr, gDivmod2, gIsTy, gTuple, gList, gAll, dAppend, dItems, itemsOf, dRange1, dFor, D.onB, D.tyn, D.isNon, asL, rsv, kb_di, kb_db, kb_ds, kb_dt, kb_dl, kb_ii, kb_bi, kb_ni, kb_si, kb_ti, kb_li, kb_ib, kb_bb, kb_nb, kb_sb, kb_tb, kb_lb, kb_is, kb_bs, kb_ns, kb_ss, kb_ts, kb_ls, kb_it, kb_bt, kb_nt, kb_st, kb_tt, kb_lt, startD, List.map_cons, List.map_nil, List.length_cons, List.length_nil, List.cons_append, List.nil_append, List.replicate, List.getElem?_cons_zero, List.getElem?_cons_succ, List.set_cons_zero, List.set_cons_succ, List.zip_cons_cons, List.zip_nil_right, List.foldl_cons, List.foldl_nil, Option.bind_some, Option.bind_none, um_same, um_um, Bool.false_eq_true, reduceCtorEq, false_implies, true_implies, forall_const, true_and, and_true, and_self, Bool.not_true, Bool.not_false, implies_true, decide_eq_true_eq, decide_eq_false_iff_not, Bool.not_eq_true, not_true_eq_false, not_false_eq_true, Bool.not_eq_true', Bool.not_eq_false', D.onB, sizeLine_eq, Nat.reduceAdd, Nat.reduceLeDiff, Nat.zero_add, Nat.reduceLT, b1_product_of]
    have p2 := o1.1
    have : w * 1 ≤ w * p := Int.mul_le_mul_of_nonneg_left (by omega) (by omega)
    exact ⟨.inl (.inl ⟨by omega, by omega⟩), Wk.of (product_turn (W := W) ps p (w * p) _ o4 (by omega) o3 h)⟩
theorem pure_product_of (ds : List D) (M : Mp) (Q : DK) (E : XE') (h : sp_product_of ds M Q E) : t_product_of (fnW E) { nx := fun _ M' => Wk (Q .non) M', rt := fun d M' => Wk (Q d) M' } (startD N_product_of ds) M := by
  unfold sp_product_of at h
  split at h
  · obtain ⟨ps, rfl, ⟨b, ho⟩, h⟩ := h
    simp (config := { decide := false }) only [dgSubD, dgLs, D.wk, endsW, rowP, dCm, dCmK, dMakeV, rhsE, dRaise, dTry, dHds, dAct, dXf, dIsE, dput, dclr, dEndsC, fnW, pl_lint, pl_tint, eqv_lint, eqv_tint, decide_true, decide_false, djItems, seqJ, dLCG, gMul, dEnum, dLC, dYes, wipeD, dFld, fldOf, dSetF, putD, dMake, mkQ, mkQM, isOf, gIn, gIn2, dDct, gSorted, asI, pick, List.filterMap_cons, List.filterMap_nil, List.getElem?_nil, dSeq, dNext, dRet, dIfS, dAsg, dgName, dgTup, dgCons, dgNil, dgSub, dPar, dAug, dDrop, dNever, dOp, gI, gT, gPlus, gAdd, gEq, gNe, gIs, gIs2, gIx, dV, dC, dB, dAnd, dOr, dNot, dAndV, dNotV, dIf, dNeg, dNil, dCons, dTup, dLst, dLstM, dNoPart, dPart, dSl, dCB, dCall, gLen, gAbs, g2, gStrO, gInt, gInt2, dJoin, dSplit, gStr, gDivmod2, gIsTy, gTuple, gList, gAll, dAppend, dItems, itemsOf, dRange1, dFor, D.onB, D.tyn, D.isNon, asL, rsv, kb_di, kb_db, kb_ds, kb_dt, kb_dl, kb_ii, kb_bi, kb_ni, kb_si, kb_ti, kb_li, kb_ib, kb_bb, kb_nb, kb_sb, kb_tb, kb_lb, kb_is, kb_bs, kb_ns, kb_ss, kb_ts, kb_ls, kb_it, kb_bt, kb_nt, kb_st, kb_tt, kb_lt, startD, List.map_cons, List.map_nil, List.length_cons, List.length_nil, List.cons_append, List.nil_append, List.replicate, List.getElem?_cons_zero, List.getElem?_cons_succ, List.set_cons_zero, List.set_cons_succ, List.zip_cons_cons, List.zip_nil_right, List.foldl_cons, List.foldl_nil, Option.bind_some, Option.bind_none, um_same, um_um, Bool.false_eq_true, reduceCtorEq, false_implies, true_implies, forall_const, true_and, and_true, and_self, Bool.not_true, Bool.not_false, implies_true, decide_eq_true_eq, decide_eq_false_iff_not, Bool.not_eq_true, not_true_eq_false, not_false_eq_true, Bool.not_eq_true', Bool.not_eq_false', D.onB, sizeLine_eq, Nat.reduceAdd, Nat.reduceLeDiff, Nat.zero_add, Nat.reduceLT, t_product_of]
    refine product_turn ps b 1 _ ho (by decide) (by decide) fun z => ?_
    simp (config := { decide := false }) only [dgSubD, dgLs, D.wk, endsW, rowP, dCm, dCmK, dMakeV, rhsE, dRaise, dTry, dHds, dAct, dXf, dIsE, dput, dclr, dEndsC, fnW, pl_lint, pl_tint, eqv_lint, eqv_tint, decide_true, decide_false, djItems, seqJ, dLCG, gMul, dEnum, dLC, dYes, wipeD, dFld, fldOf, dSetF, putD, dMake, mkQ, mkQM, isOf, gIn, gIn2, dDct, gSorted, asI, pick, List.filterMap_cons, List.filterMap_nil, List.getElem?_nil, dSeq, dNext, dRet, dIfS, dAsg, dgName, dgTup, dgCons, dgNil, dgSub, dPar, dAug, dDrop, dNever, dOp, gI, gT, gPlus, gAdd, gEq, gNe, gIs, gIs2, gIx, dV, dC, dB, dAnd, dOr, dNot, dAndV, dNotV, dIf, dNeg, dNil, dCons, dTup, dLst, dLstM, dNoPart, dPart, dSl, dCB, dCall, gLen, gAbs, g2, gStrO, gInt, gInt2, dJoin, dSplit, gStr, gDivmod2, gIsTy, gTuple, gList, gAll, dAppend, dItems, itemsOf, dRange1, dFor, D.onB, D.tyn, D.isNon, asL, rsv, kb_di, kb_db, kb_ds, kb_dt, kb_dl, kb_ii, kb_bi, kb_ni, kb_si, kb_ti, kb_li, kb_ib, kb_bb, kb_nb, kb_sb, kb_tb, kb_lb, kb_is, kb_bs, kb_ns, kb_ss, kb_ts, kb_ls, kb_it, kb_bt, kb_nt, kb_st, kb_tt, kb_lt, startD, List.map_cons, List.map_nil, List.length_cons, List.length_nil, List.cons_append, List.nil_append, List.replicate, List.getElem?_cons_zero, List.getElem?_cons_succ, List.set_cons_zero, List.set_cons_succ, List.zip_cons_cons, List.zip_nil_right, List.foldl_cons, List.foldl_nil, Option.bind_some, Option.bind_none, um_same, um_um, Bool.false_eq_true, reduceCtorEq, false_implies, true_implies, forall_const, true_and, and_true, and_self, Bool.not_true, Bool.not_false, implies_true, decide_eq_true_eq, decide_eq_false_iff_not, Bool.not_eq_true, not_true_eq_false, not_false_eq_true, Bool.not_eq_true', Bool.not_eq_false', D.onB, sizeLine_eq, Nat.reduceAdd, Nat.reduceLeDiff, Nat.zero_add, Nat.reduceLT]
    exact Wk.of h
  · exact h.elim
def menuL : List Int := [2, 3, 5, 7, 11, 13, 17, 19, 23, 29, 31, 101, 173, 1009, 30029]
def isPB (p : Int) : Bool := decide (2 ≤ p) && decide (p ≤ 30030) && (List.range 174).all fun a => decide (a < 2) || decide (p < (a : Int) * a) || decide (p % (a : Int) ≠ 0)
theorem isP_of {p : Int} (h : isPB p = true) : isP p := by
  simp only [isPB, Bool.and_eq_true, decide_eq_true_eq, List.all_eq_true, List.mem_range, Bool.or_eq_true] at h
  obtain ⟨⟨h1, h2⟩, h3⟩ := h
  refine ⟨h1, h2, fun a a2 ha => ?_⟩
  have h4 : a < 174 := by
    rcases Int.lt_or_le a 174 with q | q
    · exact q
    · have := sq_lt (show (0 : Int) ≤ 174 by decide) q
      omega
  have h5 := h3 a.toNat (by omega)
  have e : ((a.toNat : Nat) : Int) = a := by omega
  rw [e] at h5
  rcases h5 with (h5 | h5) | h5
  · omega
  · omega
  · exact h5
theorem menu_all : (menuL.all isPB) = true := by decide +kernel
theorem menu_isP {p : Int} (h : p ∈ menuL) : isP p := isP_of (List.all_eq_true.mp menu_all p h)
/-- the product -/
def pr : List Int → Int
  | [] => 1
  | p :: ps => p * pr ps
theorem pr_perm {xs ys : List Int} (h : xs.Perm ys) : pr xs = pr ys := by
  induction h with
  | nil => rfl
  | cons x _ ih => simp only [pr, ih]
  | swap x y l => simp only [pr]; rw [← Int.mul_assoc, ← Int.mul_assoc, Int.mul_comm y x]
  | trans _ _ a b => exact a.trans b
theorem pr_snoc (xs : List Int) (y : Int) : pr (xs ++ [y]) = pr xs * y := by
  induction xs with
  | nil => simp [pr]
  | cons x xs ih => simp only [List.cons_append, pr, ih, Int.mul_assoc]
theorem pr_ge : ∀ {xs : List Int}, (∀ p ∈ xs, 2 ≤ p) → 2 ^ xs.length ≤ pr xs
  | [], _ => by simp [pr]
  | x :: xs, h => by
    have h1 := h x (List.mem_cons_self ..)
    have h2 := pr_ge (xs := xs) fun p hp => h p (List.mem_cons_of_mem _ hp)
    have h3 : (0 : Int) ≤ 2 ^ xs.length := Int.le_of_lt (Int.pow_pos (by decide))
    simp only [pr, List.length_cons, Int.pow_succ]
    calc 2 ^ xs.length * 2 = 2 * 2 ^ xs.length := Int.mul_comm _ _
      _ ≤ x * pr xs := Int.mul_le_mul h1 h2 h3 (by omega)
theorem okRow_isP : ∀ {ps : List Int} {b w : Int}, okRow b w ps → ∀ p ∈ ps, isP p
  | [], _, _, _, p, hp => by cases hp
  | q :: qs, b, w, h, p, hp => by
    rcases List.mem_cons.mp hp with rfl | hp
    · exact h.1
    · exact okRow_isP h.2.2.2 p hp
theorem okRow_of : ∀ (ns : List Int) (b w : Int), (∀ p ∈ ns, isP p) → ns.Pairwise (· < ·) → (∀ p ∈ ns, b < p) → 1 ≤ w → w * pr ns ≤ 30030 → okRow b w ns
  | [], _, _, _, _, _, _, _ => True.intro
  | p :: ns, b, w, h1, h2, h3, h4, h5 => by
    have hp := h1 p (List.mem_cons_self ..)
    obtain ⟨h6, h7⟩ := List.pairwise_cons.mp h2
    have g1 := pr_ge (xs := ns) fun q hq => (h1 q (List.mem_cons_of_mem _ hq)).1
    have g2 : (0 : Int) < 2 ^ ns.length := Int.pow_pos (by decide)
    have wp : w * 1 ≤ w * p := Int.mul_le_mul_of_nonneg_left (by have := hp.1; omega) (by omega)
    have g3 : w * p * 1 ≤ w * p * pr ns := Int.mul_le_mul_of_nonneg_left (by omega) (by omega)
    simp only [pr, ← Int.mul_assoc] at h5
    exact ⟨hp, h3 p (List.mem_cons_self ..), by omega, okRow_of ns p (w * p) (fun q hq => h1 q (List.mem_cons_of_mem _ hq)) h7 (fun q hq => h6 q hq) (by omega) h5⟩
/-- a drawn row -/
def rowOk (cap : Int) (ps : List Int) : Prop := okRow 1 1 ps ∧ ps ≠ [] ∧ ps.length ≤ 14 ∧ (∀ p ∈ ps, p ∈ menuL) ∧ ps.Pairwise (· < ·) ∧ pr ps ≤ cap
theorem row_of {cap : Int} {fs ns : List Int} (hc : cap ≤ 30030) (hm : ∀ p ∈ fs, p ∈ menuL) (hn : fs.Nodup) (hw : pr fs ≤ cap) (h0 : fs ≠ []) (hp : ns.Perm fs) (hs : ns.Pairwise (· ≤ ·)) : rowOk cap ns := by
  have hm' : ∀ p ∈ ns, p ∈ menuL := fun p h => hm p (hp.mem_iff.mp h)
  have hn' : ns.Nodup := hp.nodup_iff.mpr hn
  have hst : ns.Pairwise (· < ·) := by
    have := List.Pairwise.and hs hn'
    exact this.imp fun ⟨a, b⟩ => by omega
  have hpr : pr ns = pr fs := pr_perm hp
  have h2 : ∀ p ∈ ns, 2 ≤ p := fun p h => (menu_isP (hm' p h)).1
  have g := pr_ge h2
  refine ⟨okRow_of ns 1 1 (fun p h => menu_isP (hm' p h)) hst (fun p h => by have := h2 p h; omega) (by decide) (by omega), fun z => ?_, ?_, hm', hst, by omega⟩
  · subst z
    exact h0 (List.nil_perm.mp hp)
  · rcases Nat.lt_or_ge ns.length 15 with q | q
    · omega
    · have : (2 : Int) ^ 15 ≤ 2 ^ ns.length := by
        have := Nat.pow_le_pow_right (show 0 < 2 by decide) q
        exact_mod_cast this
      omega
/-- the gourd moves on, nothing else is lost -/
def Gw (g : Addr) (M M' : Mp) : Prop := Gd M' g ∧ ∀ a o, a ≠ g → M a = some o → M' a = some o
theorem Gw.tr {g : Addr} {M M1 M2 : Mp} (h : Gw g M M1) (k : Gw g M1 M2) : Gw g M M2 := ⟨k.1, fun a o n e => k.2 a o n (h.2 a o n e)⟩
theorem Gs.gw {g : Addr} {M M' : Mp} (h : Gs g M M') : Gw g M M' := ⟨h.gd, fun a o n e => by rw [h.ne n]; exact e⟩
theorem Gw.new {g q : Addr} {M M' : Mp} {o : MO} (h : Gw g M M') (n : M' q = none) : Gw g M (um M' q o) := by
  have ng : g ≠ q := fun z => by subst z; obtain ⟨_, _, _, _, _, e⟩ := h.1; rw [n] at e; cases e
  refine ⟨?_, fun a u na e => ?_⟩
  · obtain ⟨a, b, c, h1, h2, e⟩ := h.1
    exact ⟨a, b, c, h1, h2, by rw [um_ne ng]; exact e⟩
  · have := h.2 a u na e
    rw [um_ne fun z => by subst z; rw [n] at this; cases this]
    exact this
theorem Gw.set {g q : Addr} {M M' : Mp} {o : MO} (h : Gw g M M') (n : M q = none) (ng : q ≠ g) : Gw g M (um M' q o) := by
  refine ⟨?_, fun a u na e => ?_⟩
  · obtain ⟨a, b, c, h1, h2, e⟩ := h.1
    exact ⟨a, b, c, h1, h2, by rw [um_ne (Ne.symm ng)]; exact e⟩
  · rw [um_ne fun z => by subst z; rw [n] at e; cases e]
    exact h.2 a u na e
theorem Gd.ne {g q : Addr} {M : Mp} (h : Gd M g) (n : M q = none) : q ≠ g := fun z => by subst z; obtain ⟨_, _, _, _, _, e⟩ := h; rw [n] at e; cases e
theorem Gw.none {g q : Addr} {M M' : Mp} (h : Gw g M M') (n : M' q = none) : M q = none := by
  cases e : M q with
  | none => rfl
  | some o => rw [h.2 q o (h.1.ne n) e] at n; cases n
theorem any_int (fs : List Int) (p : Int) : ((fs.map D.int).any fun z => D.eqv z (.int p)) = decide (p ∈ fs) := by
  induction fs with
  | nil => simp
  | cons x xs ih =>
    simp only [List.map_cons, List.any_cons, ih, List.mem_cons]
    have : D.eqv (.int x) (.int p) = decide (x = p) := by
      by_cases h : x = p <;> simp [D.eqv, D.py, PyData.eqv, h]
    rw [this]
    by_cases h : x = p
    · simp [h]
    · simp [h]
      exact fun z => absurd z.symm h
abbrev N_law_row : List Str := ["_law_gourd", "_law_cap", "_law_menu", "_law_found", "_law_whole", "_law_turn", "_law_prime_here", "_law_each"]
def sp_law_row : DSp := fun ds M Q _ => match ds with
  | [.ref g, .int cap] => Gd M g ∧ (2 ≤ cap ∧ cap ≤ 30030) ∧ ∀ ps M', rowOk cap ps → Gw g M M' → Q (.tup (ps.map .int)) M'
  | _ => False
theorem len_law_row : ∀ ds M Q E, sp_law_row ds M Q E → ds.length = 2 := fun ds M Q E h => by
  unfold sp_law_row at h; split at h <;> first | rfl | exact h.elim
def b1_law_row (W : DW') : TDS :=
  dSeq (dAsg (dCall sp_law_choose W (dCons (dV 0) (dCons (dV 2) (dNil)))) (dgName 6)) <|
  dIfS (dAnd (dB (dOp (gIn2 true) (dV 6) (dV 3))) (dB (dOp (gT fun i j => decide (i ≤ j)) (dOp gMul (dV 4) (dV 6)) (dV 1)))) (dSeq (dDrop (dAppend (dV 3) (dCons (dV 6) (dNil)))) <|
  dAsg (dOp gMul (dV 4) (dV 6)) (dgName 4)) (dNext)
def r3_law_row (W : DW') : TDS :=
  dRet (dCB gTuple (dCons (dCB gSorted (dCons (dV 3) (dNil))) (dNil)))
def r2_law_row (W : DW') : TDS :=
  dSeq (dFor (dRange1 (dCons (dCall sp_law_gulp W (dCons (dV 0) (dCons (dC (.int 9)) (dNil)))) (dNil))) (dgName 5) (b1_law_row W)) <|
  r3_law_row W
def r1_law_row (W : DW') : TDS :=
  dSeq (dIfS (dB (dOp gEq (dCall sp_law_gulp W (dCons (dV 0) (dCons (dC (.int 4)) (dNil)))) (dC (.int 0)))) (dSeq (dAsg (dLstM (dCons (dCall sp_law_choose W (dCons (dV 0) (dCons (dLC [7] 7 (dItems (dV 2)) (dB (dOp (gT fun i j => decide (i ≤ j)) (dV 7) (dV 1))) (dV 7)) (dNil)))) (dNil))) (dgName 3)) <|
  dAsg (dOp gIx (dV 3) (dC (.int 0))) (dgName 4)) (dNext)) <|
  r2_law_row W
def t_law_row (W : DW') : TDS :=
  dSeq (dPar [2, 3, 4] (dCons (dLst (dCons (dC (.int 2)) (dCons (dC (.int 2)) (dCons (dC (.int 2)) (dCons (dC (.int 3)) (dCons (dC (.int 3)) (dCons (dC (.int 5)) (dCons (dC (.int 5)) (dCons (dC (.int 7)) (dCons (dC (.int 11)) (dCons (dC (.int 13)) (dCons (dC (.int 17)) (dCons (dC (.int 19)) (dCons (dC (.int 23)) (dCons (dC (.int 29)) (dCons (dC (.int 31)) (dCons (dC (.int 101)) (dCons (dC (.int 173)) (dCons (dC (.int 1009)) (dCons (dC (.int 30029)) (dNil))))))))))))))))))))) (dCons (dLstM (dCons (dC (.int 2)) (dNil))) (dCons (dC (.int 2)) (dNil))))) <|
  r1_law_row W
def menuD : List Int := [2, 2, 2, 3, 3, 5, 5, 7, 11, 13, 17, 19, 23, 29, 31, 101, 173, 1009, 30029]
theorem menuD_in {p : Int} (h : p ∈ menuD) : p ∈ menuL := by
  simp only [menuD, List.mem_cons, List.not_mem_nil, or_false] at h
  simp only [menuL, List.mem_cons, List.not_mem_nil, or_false]
  omega
theorem row_loop {E : XE'} {Q : DK} {M M' : Mp} {g q : Addr} {cap w : Int} {fs : List Int} {y z x : Option D} (hc : 2 ≤ cap ∧ cap ≤ 30030) (hM : M q = none) (ng : q ≠ g) (hg : Gw g M M') (hq : M' q = some (.lst (fs.map .int)))
    (hm : ∀ p ∈ fs, p ∈ menuL) (hn : fs.Nodup) (hw : pr fs = w) (wc : w ≤ cap) (h0 : fs ≠ []) (h : ∀ ps M', rowOk cap ps → Gw g M M' → Q (.tup (ps.map .int)) M') :
    r2_law_row (fnW E) { nx := fun _ M' => Wk (Q .non) M', rt := fun d M' => Wk (Q d) M' } [some (.ref g), some (.int cap), some (.lst (menuD.map .int)), some (.ref q), some (.int w), x, y, z] M' := by
  simp (config := { decide := false }) only [dgSubD, dgLs, D.wk, endsW, rowP, dCm, dCmK, dMakeV, rhsE, dRaise, dTry, dHds, dAct, dXf, dIsE, dput, dclr, dEndsC, fnW, pl_lint, pl_tint, eqv_lint, eqv_tint, decide_true, decide_false, djItems, seqJ, dLCG, gMul, dEnum, dLC, dYes, wipeD, dFld, fldOf, dSetF, putD, dMake, mkQ, mkQM, isOf, gIn, gIn2, dDct, gSorted, asI, pick, List.filterMap_cons, List.filterMap_nil, List.getElem?_nil, dSeq, dNext, dRet, dIfS, dAsg, dgName, dgTup, dgCons, dgNil, dgSub, dPar, dAug, dDrop, dNever, dOp, gI, gT, gPlus, gAdd, gEq, gNe, gIs, gIs2, gIx, dV, dC, dB, dAnd, dOr, dNot, dAndV, dNotV, dIf, dNeg, dNil, dCons, dTup, dLst, dLstM, dNoPart, dPart, dSl, dCB, dCall, gLen, gAbs, g2, gStrO, gInt, gInt2, dJoin, dSplit, gStr, gDivmod2, gIsTy, gTuple, gList, gAll, dAppend, dItems, itemsOf, dRange1, dFor, D.onB, D.tyn, D.isNon, asL, rsv, kb_di, kb_db, kb_ds, kb_dt, kb_dl, kb_ii, kb_bi, kb_ni, kb_si, kb_ti, kb_li, kb_ib, kb_bb, kb_nb, kb_sb, kb_tb, kb_lb, kb_is, kb_bs, kb_ns, kb_ss, kb_ts, kb_ls, kb_it, kb_bt, kb_nt, kb_st, kb_tt, kb_lt, startD, List.map_cons, List.map_nil, List.length_cons, List.length_nil, List.cons_append, List.nil_append, List.replicate, List.getElem?_cons_zero, List.getElem?_cons_succ, List.set_cons_zero, List.set_cons_succ, List.zip_cons_cons, List.zip_nil_right, List.foldl_cons, List.foldl_nil, Option.bind_some, Option.bind_none, um_same, um_um, Bool.false_eq_true, reduceCtorEq, false_implies, true_implies, forall_const, true_and, and_true, and_self, Bool.not_true, Bool.not_false, implies_true, decide_eq_true_eq, decide_eq_false_iff_not, Bool.not_eq_true, not_true_eq_false, not_false_eq_true, Bool.not_eq_true', Bool.not_eq_false', D.onB, sizeLine_eq, Nat.reduceAdd, Nat.reduceLeDiff, Nat.zero_add, Nat.reduceLT, r2_law_row, sp_law_gulp]
  refine ⟨hg.1, ⟨by decide, by decide⟩, fun r M1 r0 r1 hs => ⟨⟨by omega, by omega⟩, ?_⟩⟩
  have hg1 := hg.tr hs.gw
  have hq1 : M1 q = some (.lst (fs.map .int)) := by rw [hs.ne ng]; exact hq
  clear hg hq hs
  refine for_by (fun _ ρ M2 => ∃ (fs : List Int) (w : Int) (x y : Option D), ρ = [some (.ref g), some (.int cap), some (.lst (menuD.map .int)), some (.ref q), some (.int w), x, y, z] ∧ Gw g M M2 ∧ M2 q = some (.lst (fs.map .int)) ∧ (∀ p ∈ fs, p ∈ menuL) ∧ fs.Nodup ∧ pr fs = w ∧ w ≤ cap ∧ fs ≠ []) ⟨fs, w, x, y, rfl, hg1, hq1, hm, hn, hw, wc, h0⟩ ?_ ?_
  · rintro i d ρ M2 P hi ⟨fs, w, x, y, rfl, hg, hq, hm, hn, hw, wc, h0⟩ hP
    simp (config := { decide := false }) only [dgSubD, dgLs, D.wk, endsW, rowP, dCm, dCmK, dMakeV, rhsE, dRaise, dTry, dHds, dAct, dXf, dIsE, dput, dclr, dEndsC, fnW, pl_lint, pl_tint, eqv_lint, eqv_tint, decide_true, decide_false, djItems, seqJ, dLCG, gMul, dEnum, dLC, dYes, wipeD, dFld, fldOf, dSetF, putD, dMake, mkQ, mkQM, isOf, gIn, gIn2, dDct, gSorted, asI, pick, List.filterMap_cons, List.filterMap_nil, List.getElem?_nil, dSeq, dNext, dRet, dIfS, dAsg, dgName, dgTup, dgCons, dgNil, dgSub, dPar, dAug, dDrop, dNever, dOp, gI, gT, gPlus, gAdd, gEq, gNe, gIs, gIs2, gIx, dV, dC, dB, dAnd, dOr, dNot, dAndV, dNotV, dIf, dNeg, dNil, dCons, dTup, dLst, dLstM, dNoPart, dPart, dSl, dCB, dCall, gLen, gAbs, g2, gStrO, gInt, gInt2, dJoin, dSplit, gStr, gDivmod2, gIsTy, gTuple, gList, gAll, dAppend, dItems, itemsOf, dRange1, dFor, D.onB, D.tyn, D.isNon, asL, rsv, kb_di, kb_db, kb_ds, kb_dt, kb_dl, kb_ii, kb_bi, kb_ni, kb_si, kb_ti, kb_li, kb_ib, kb_bb, kb_nb, kb_sb, kb_tb, kb_lb, kb_is, kb_bs, kb_ns, kb_ss, kb_ts, kb_ls, kb_it, kb_bt, kb_nt, kb_st, kb_tt, kb_lt, startD, List.map_cons, List.map_nil, List.length_cons, List.length_nil, List.cons_append, List.nil_append, List.replicate, List.getElem?_cons_zero, List.getElem?_cons_succ, List.set_cons_zero, List.set_cons_succ, List.zip_cons_cons, List.zip_nil_right, List.foldl_cons, List.foldl_nil, Option.bind_some, Option.bind_none, um_same, um_um, Bool.false_eq_true, reduceCtorEq, false_implies, true_implies, forall_const, true_and, and_true, and_self, Bool.not_true, Bool.not_false, implies_true, decide_eq_true_eq, decide_eq_false_iff_not, Bool.not_eq_true, not_true_eq_false, not_false_eq_true, Bool.not_eq_true', Bool.not_eq_false', D.onB, sizeLine_eq, Nat.reduceAdd, Nat.reduceLeDiff, Nat.zero_add, Nat.reduceLT, b1_law_row, sp_law_choose, List.length_map]
    refine ⟨hg.1, ⟨by decide, by decide⟩, fun v M3 hv hs => ?_⟩
    obtain ⟨p, hp, rfl⟩ := List.mem_map.mp hv
    have hq3 : M3 q = some (.lst (fs.map .int)) := by rw [hs.ne ng]; exact hq
    have hg3 := hg.tr hs.gw
    have pm := menuD_in hp
    have ip := menu_isP pm
    have w1 : 1 ≤ w := by
      have := pr_ge (xs := fs) fun p hp => (menu_isP (hm p hp)).1
      have g2 : (0 : Int) < 2 ^ fs.length := Int.pow_pos (by decide)
      omega
    have ln : fs.length < 15 := by
      rcases Nat.lt_or_ge fs.length 15 with q | q
      · exact q
      · have g1 := pr_ge (xs := fs) fun p hp => (menu_isP (hm p hp)).1
        have : (2 : Int) ^ 15 ≤ 2 ^ fs.length := by
          have := Nat.pow_le_pow_right (show 0 < 2 by decide) q
          exact_mod_cast this
        omega
    have mo : mulOk w p := .inl (.inl ⟨by omega, by omega⟩)
    have stay : ∀ d : D, Wk (P [some (.ref g), some (.int cap), some (.lst (menuD.map .int)), some (.ref q), some (.int w), some d, some (.int p), z]) M3 := fun d => Wk.of (hP _ _ ⟨fs, w, _, _, rfl, hg3, hq3, hm, hn, hw, wc, h0⟩)
    simp (config := { decide := false }) only [dgSubD, dgLs, D.wk, endsW, rowP, dCm, dCmK, dMakeV, rhsE, dRaise, dTry, dHds, dAct, dXf, dIsE, dput, dclr, dEndsC, fnW, pl_lint, pl_tint, eqv_lint, eqv_tint, decide_true, decide_false, djItems, seqJ, dLCG, gMul, dEnum, dLC, dYes, wipeD, dFld, fldOf, dSetF, putD, dMake, mkQ, mkQM, isOf, gIn, gIn2, dDct, gSorted, asI, pick, List.filterMap_cons, List.filterMap_nil, List.getElem?_nil, dSeq, dNext, dRet, dIfS, dAsg, dgName, dgTup, dgCons, dgNil, dgSub, dPar, dAug, dDrop, dNever, dOp, gI, gT, gPlus, gAdd, gEq, gNe, gIs, gIs2, gIx, dV, dC, dB, dAnd, dOr, dNot, dAndV, dNotV, dIf, dNeg, dNil, dCons, dTup, dLst, dLstM, dNoPart, dPart, dSl, dCB, dCall, gLen, gAbs, g2, gStrO, gInt, gInt2, dJoin, dSplit, gStr, gDivmod2, gIsTy, gTuple, gList, gAll, dAppend, dItems, itemsOf, dRange1, dFor, D.onB, D.tyn, D.isNon, asL, rsv, kb_di, kb_db, kb_ds, kb_dt, kb_dl, kb_ii, kb_bi, kb_ni, kb_si, kb_ti, kb_li, kb_ib, kb_bb, kb_nb, kb_sb, kb_tb, kb_lb, kb_is, kb_bs, kb_ns, kb_ss, kb_ts, kb_ls, kb_it, kb_bt, kb_nt, kb_st, kb_tt, kb_lt, startD, List.map_cons, List.map_nil, List.length_cons, List.length_nil, List.cons_append, List.nil_append, List.replicate, List.getElem?_cons_zero, List.getElem?_cons_succ, List.set_cons_zero, List.set_cons_succ, List.zip_cons_cons, List.zip_nil_right, List.foldl_cons, List.foldl_nil, Option.bind_some, Option.bind_none, um_same, um_um, Bool.false_eq_true, reduceCtorEq, false_implies, true_implies, forall_const, true_and, and_true, and_self, Bool.not_true, Bool.not_false, implies_true, decide_eq_true_eq, decide_eq_false_iff_not, Bool.not_eq_true, not_true_eq_false, not_false_eq_true, Bool.not_eq_true', Bool.not_eq_false', D.onB, sizeLine_eq, Nat.reduceAdd, Nat.reduceLeDiff, Nat.zero_add, Nat.reduceLT, hq3, any_int, pls_ints, rsv, if_true]
    refine ⟨by simp [D.pl], fun c1 => ⟨mo, fun c2 => ⟨⟨_, rfl⟩, by rw [List.length_map]; omega, mo, Wk.of (hP _ _ ⟨fs ++ [p], w * p, _, _, rfl, hg3.set hM ng, by rw [um_same]; simp, ?_, ?_, by rw [pr_snoc, hw], c2, by simp⟩)⟩, fun _ => stay _⟩, fun _ => stay _⟩
    · intro x hx
      rcases List.mem_append.mp hx with hx | hx
      · exact hm x hx
      · rw [List.mem_singleton.mp hx]; exact pm
    · have np : p ∉ fs := by simpa using c1
      refine List.nodup_append.mpr ⟨hn, by simp, fun a ha b hb => ?_⟩
      rw [List.mem_singleton.mp hb]
      exact fun e => np (e ▸ ha)
  · rintro ρ M2 ⟨fs, w, x, y, rfl, hg, hq, hm, hn, hw, wc, h0⟩
    simp (config := { decide := false }) only [dgSubD, dgLs, D.wk, endsW, rowP, dCm, dCmK, dMakeV, rhsE, dRaise, dTry, dHds, dAct, dXf, dIsE, dput, dclr, dEndsC, fnW, pl_lint, pl_tint, eqv_lint, eqv_tint, decide_true, decide_false, djItems, seqJ, dLCG, gMul, dEnum, dLC, dYes, wipeD, dFld, fldOf, dSetF, putD, dMake, mkQ, mkQM, isOf, gIn, gIn2, dDct, gSorted, asI, pick, List.filterMap_cons, List.filterMap_nil, List.getElem?_nil, dSeq, dNext, dRet, dIfS, dAsg, dgName, dgTup, dgCons, dgNil, dgSub, dPar, dAug, dDrop, dNever, dOp, gI, gT, gPlus, gAdd, gEq, gNe, gIs, gIs2, gIx, dV, dC, dB, dAnd, dOr, dNot, dAndV, dNotV, dIf, dNeg, dNil, dCons, dTup, dLst, dLstM, dNoPart, dPart, dSl, dCB, dCall, gLen, gAbs, g2, gStrO, gInt, gInt2, dJoin, dSplit, gStr, gDivmod2, gIsTy, gTuple, gList, gAll, dAppend, dItems, itemsOf, dRange1, dFor, D.onB, D.tyn, D.isNon, asL, rsv, kb_di, kb_db, kb_ds, kb_dt, kb_dl, kb_ii, kb_bi, kb_ni, kb_si, kb_ti, kb_li, kb_ib, kb_bb, kb_nb, kb_sb, kb_tb, kb_lb, kb_is, kb_bs, kb_ns, kb_ss, kb_ts, kb_ls, kb_it, kb_bt, kb_nt, kb_st, kb_tt, kb_lt, startD, List.map_cons, List.map_nil, List.length_cons, List.length_nil, List.cons_append, List.nil_append, List.replicate, List.getElem?_cons_zero, List.getElem?_cons_succ, List.set_cons_zero, List.set_cons_succ, List.zip_cons_cons, List.zip_nil_right, List.foldl_cons, List.foldl_nil, Option.bind_some, Option.bind_none, um_same, um_um, Bool.false_eq_true, reduceCtorEq, false_implies, true_implies, forall_const, true_and, and_true, and_self, Bool.not_true, Bool.not_false, implies_true, decide_eq_true_eq, decide_eq_false_iff_not, Bool.not_eq_true, not_true_eq_false, not_false_eq_true, Bool.not_eq_true', Bool.not_eq_false', D.onB, sizeLine_eq, Nat.reduceAdd, Nat.reduceLeDiff, Nat.zero_add, Nat.reduceLT, r3_law_row, hq, ints_map]
    intro ns hp hs
    exact Wk.of (h ns M2 (row_of hc.2 hm hn (by omega) h0 hp hs) hg)
theorem pure_law_row (ds : List D) (M : Mp) (Q : DK) (E : XE') (h : sp_law_row ds M Q E) : t_law_row (fnW E) { nx := fun _ M' => Wk (Q .non) M', rt := fun d M' => Wk (Q d) M' } (startD N_law_row ds) M := by
  unfold sp_law_row at h
  split at h
  · rename_i g cap
    obtain ⟨hg, hc, h⟩ := h
    simp (config := { decide := false }) only [dgSubD, dgLs, D.wk, endsW, rowP, dCm, dCmK, dMakeV, rhsE, dRaise, dTry, dHds, dAct, dXf, dIsE, dput, dclr, dEndsC, fnW, pl_lint, pl_tint, eqv_lint, eqv_tint, decide_true, decide_false, djItems, seqJ, dLCG, gMul, dEnum, dLC, dYes, wipeD, dFld, fldOf, dSetF, putD, dMake, mkQ, mkQM, isOf, gIn, gIn2, dDct, gSorted, asI, pick, List.filterMap_cons, List.filterMap_nil, List.getElem?_nil, dSeq, dNext, dRet, dIfS, dAsg, dgName, dgTup, dgCons, dgNil, dgSub, dPar, dAug, dDrop, dNever, dOp, gI, gT, gPlus, gAdd, gEq, gNe, gIs, gIs2, gIx, dV, dC, dB, dAnd, dOr, dNot, dAndV, dNotV, dIf, dNeg, dNil, dCons, dTup, dLst, dLstM, dNoPart, dPart, dSl, dCB, dCall, gLen, gAbs, g2, gStrO, gInt, gInt2, dJoin, dSplit, gStr, gDivmod2, gIsTy, gTuple, gList, gAll, dAppend, dItems, itemsOf, dRange1, dFor, D.onB, D.tyn, D.isNon, asL, rsv, kb_di, kb_db, kb_ds, kb_dt, kb_dl, kb_ii, kb_bi, kb_ni, kb_si, kb_ti, kb_li, kb_ib, kb_bb, kb_nb, kb_sb, kb_tb, kb_lb, kb_is, kb_bs, kb_ns, kb_ss, kb_ts, kb_ls, kb_it, kb_bt, kb_nt, kb_st, kb_tt, kb_lt, startD, List.map_cons, List.map_nil, List.length_cons, List.length_nil, List.cons_append, List.nil_append, List.replicate, List.getElem?_cons_zero, List.getElem?_cons_succ, List.set_cons_zero, List.set_cons_succ, List.zip_cons_cons, List.zip_nil_right, List.foldl_cons, List.foldl_nil, Option.bind_some, Option.bind_none, um_same, um_um, Bool.false_eq_true, reduceCtorEq, false_implies, true_implies, forall_const, true_and, and_true, and_self, Bool.not_true, Bool.not_false, implies_true, decide_eq_true_eq, decide_eq_false_iff_not, Bool.not_eq_true, not_true_eq_false, not_false_eq_true, Bool.not_eq_true', Bool.not_eq_false', D.onB, sizeLine_eq, Nat.reduceAdd, Nat.reduceLeDiff, Nat.zero_add, Nat.reduceLT, t_law_row]
    intro q hq
    have ng := hg.ne hq
    have hg0 : Gw g M M := ⟨hg, fun a o _ e => e⟩
    simp (config := { decide := false }) only [dgSubD, dgLs, D.wk, endsW, rowP, dCm, dCmK, dMakeV, rhsE, dRaise, dTry, dHds, dAct, dXf, dIsE, dput, dclr, dEndsC, fnW, pl_lint, pl_tint, eqv_lint, eqv_tint, decide_true, decide_false, djItems, seqJ, dLCG, gMul, dEnum, dLC, dYes, wipeD, dFld, fldOf, dSetF, putD, dMake, mkQ, mkQM, isOf, gIn, gIn2, dDct, gSorted, asI, pick, List.filterMap_cons, List.filterMap_nil, List.getElem?_nil, dSeq, dNext, dRet, dIfS, dAsg, dgName, dgTup, dgCons, dgNil, dgSub, dPar, dAug, dDrop, dNever, dOp, gI, gT, gPlus, gAdd, gEq, gNe, gIs, gIs2, gIx, dV, dC, dB, dAnd, dOr, dNot, dAndV, dNotV, dIf, dNeg, dNil, dCons, dTup, dLst, dLstM, dNoPart, dPart, dSl, dCB, dCall, gLen, gAbs, g2, gStrO, gInt, gInt2, dJoin, dSplit, gStr, gDivmod2, gIsTy, gTuple, gList, gAll, dAppend, dItems, itemsOf, dRange1, dFor, D.onB, D.tyn, D.isNon, asL, rsv, kb_di, kb_db, kb_ds, kb_dt, kb_dl, kb_ii, kb_bi, kb_ni, kb_si, kb_ti, kb_li, kb_ib, kb_bb, kb_nb, kb_sb, kb_tb, kb_lb, kb_is, kb_bs, kb_ns, kb_ss, kb_ts, kb_ls, kb_it, kb_bt, kb_nt, kb_st, kb_tt, kb_lt, startD, List.map_cons, List.map_nil, List.length_cons, List.length_nil, List.cons_append, List.nil_append, List.replicate, List.getElem?_cons_zero, List.getElem?_cons_succ, List.set_cons_zero, List.set_cons_succ, List.zip_cons_cons, List.zip_nil_right, List.foldl_cons, List.foldl_nil, Option.bind_some, Option.bind_none, um_same, um_um, Bool.false_eq_true, reduceCtorEq, false_implies, true_implies, forall_const, true_and, and_true, and_self, Bool.not_true, Bool.not_false, implies_true, decide_eq_true_eq, decide_eq_false_iff_not, Bool.not_eq_true, not_true_eq_false, not_false_eq_true, Bool.not_eq_true', Bool.not_eq_false', D.onB, sizeLine_eq, Nat.reduceAdd, Nat.reduceLeDiff, Nat.zero_add, Nat.reduceLT, r1_law_row, sp_law_gulp, sp_law_choose]
    refine ⟨(hg0.set (o := .lst [D.int 2]) hq ng).1, ⟨by decide, by decide⟩, fun r M1 r0 r1 hs => ⟨fun c => ?_, fun c => ?_⟩⟩
    · have hg1 := (hg0.set (o := .lst [D.int 2]) hq ng).tr hs.gw
      intro p hp
      have np := hg1.1.ne hp
      refine lc_by (fun d => match d with | .int i => if i ≤ cap then some (.int i) else none | _ => none) (menuD.map .int) [] (by simp only [List.length_map, List.length_nil, menuD, sizeLine_eq]; decide) ?_ ?_
      · intro d hd xs Kk N h1 h2
        obtain ⟨i, hi, rfl⟩ := List.mem_map.mp hd
        simp (config := { decide := false }) only [dgSubD, dgLs, D.wk, endsW, rowP, dCm, dCmK, dMakeV, rhsE, dRaise, dTry, dHds, dAct, dXf, dIsE, dput, dclr, dEndsC, fnW, pl_lint, pl_tint, eqv_lint, eqv_tint, decide_true, decide_false, djItems, seqJ, dLCG, gMul, dEnum, dLC, dYes, wipeD, dFld, fldOf, dSetF, putD, dMake, mkQ, mkQM, isOf, gIn, gIn2, dDct, gSorted, asI, pick, List.filterMap_cons, List.filterMap_nil, List.getElem?_nil, dSeq, dNext, dRet, dIfS, dAsg, dgName, dgTup, dgCons, dgNil, dgSub, dPar, dAug, dDrop, dNever, dOp, gI, gT, gPlus, gAdd, gEq, gNe, gIs, gIs2, gIx, dV, dC, dB, dAnd, dOr, dNot, dAndV, dNotV, dIf, dNeg, dNil, dCons, dTup, dLst, dLstM, dNoPart, dPart, dSl, dCB, dCall, gLen, gAbs, g2, gStrO, gInt, gInt2, dJoin, dSplit, gStr, gDivmod2, gIsTy, gTuple, gList, gAll, dAppend, dItems, itemsOf, dRange1, dFor, D.onB, D.tyn, D.isNon, asL, rsv, kb_di, kb_db, kb_ds, kb_dt, kb_dl, kb_ii, kb_bi, kb_ni, kb_si, kb_ti, kb_li, kb_ib, kb_bb, kb_nb, kb_sb, kb_tb, kb_lb, kb_is, kb_bs, kb_ns, kb_ss, kb_ts, kb_ls, kb_it, kb_bt, kb_nt, kb_st, kb_tt, kb_lt, startD, List.map_cons, List.map_nil, List.length_cons, List.length_nil, List.cons_append, List.nil_append, List.replicate, List.getElem?_cons_zero, List.getElem?_cons_succ, List.set_cons_zero, List.set_cons_succ, List.zip_cons_cons, List.zip_nil_right, List.foldl_cons, List.foldl_nil, Option.bind_some, Option.bind_none, um_same, um_um, Bool.false_eq_true, reduceCtorEq, false_implies, true_implies, forall_const, true_and, and_true, and_self, Bool.not_true, Bool.not_false, implies_true, decide_eq_true_eq, decide_eq_false_iff_not, Bool.not_eq_true, not_true_eq_false, not_false_eq_true, Bool.not_eq_true', Bool.not_eq_false', D.onB, sizeLine_eq, Nat.reduceAdd, Nat.reduceLeDiff, Nat.zero_add, Nat.reduceLT]
        refine ⟨fun c => h1 _ (if_pos c), fun c => h2 (if_neg c)⟩
      · refine ⟨_, um_same _ _ _, ?_⟩
        rw [dm_um hp, List.nil_append]
        have mem : ∀ x, x ∈ (menuD.map D.int).filterMap (fun d => match d with | .int i => if i ≤ cap then some (D.int i) else none | _ => none) → ∃ i ∈ menuD, i ≤ cap ∧ x = .int i := by
          intro x hx
          obtain ⟨d, hd, e⟩ := List.mem_filterMap.mp hx
          obtain ⟨i, hi, rfl⟩ := List.mem_map.mp hd
          simp only at e
          split at e
          · rename_i c
            cases e
            exact ⟨i, hi, c, rfl⟩
          · cases e
        refine ⟨hg1.1, ⟨fun z => ?_, ?_⟩, fun x M2 hx hs2 q2 hq2 => ?_⟩
        · have : D.int 2 ∈ (menuD.map D.int).filterMap (fun d => match d with | .int i => if i ≤ cap then some (D.int i) else none | _ => none) := List.mem_filterMap.mpr ⟨.int 2, List.mem_map.mpr ⟨2, by decide, rfl⟩, if_pos hc.1⟩
          rw [z] at this
          cases this
        · exact Nat.lt_of_le_of_lt (List.length_filterMap_le ..) (by simp only [List.length_map, menuD]; decide)
        · obtain ⟨i, hi, ic, rfl⟩ := mem x hx
          have hg2 := hg1.tr hs2.gw
          simp only [at0]
          exact row_loop hc (hg2.none hq2) (hg2.1.ne hq2) (hg2.new hq2) (fs := [i]) (by rw [um_same]; rfl) (fun p hp => by rw [List.mem_singleton.mp hp]; exact menuD_in hi) (by simp) (by simp [pr]) ic (by simp) h
    · have hg1 := (hg0.set (o := .lst [D.int 2]) hq ng).tr hs.gw
      exact row_loop hc hq ng hg1 (fs := [2]) (by rw [hs.ne ng, um_same]; rfl) (by decide) (by decide) rfl hc.1 (by decide) h
  · exact h.elim
open TL
/-- a number's text -/
def nT (n : Nat) : Str := Str.ofString (toString ((n : Nat) : Int))
theorem tl_nT (n : Nat) : (nT n).cps.toList = numL n := tl_num n
theorem nT_len {n : Nat} (h : n < 10 ^ 60) : (nT n).length ≤ 60 := by
  rw [len_tl]
  show (nT n).cps.toList.length ≤ 60
  rw [tl_nT]
  exact numL_len (by decide) h
theorem nT_ne (n : Nat) : nT n ≠ "" := fun e => by
  have := congrArg (fun s : Str => s.cps.toList) e
  simp only [tl_nT] at this
  exact numL_ne n (this.trans (by decide))
theorem nT_log {n : Nat} (h : n < 10 ^ 60) : ((n : Nat) : Int).natAbs.log2 < 1920 := by
  rw [Int.natAbs_natCast]
  rcases Nat.eq_zero_or_pos n with e | e
  · rw [e]; decide
  · exact (Nat.log2_lt (by omega)).mpr (Nat.lt_of_lt_of_le h (by decide))
theorem nT_int {n : Nat} (h : n < 10 ^ 60) : PySem.intText? (nT n) = some (n : Int) := int_num (Nat.le_trans (numL_len (by decide) h) (by decide))
theorem dig_in : ∀ c : Nat, 48 ≤ c ∧ c ≤ 57 → hasT "0123456789" ⟨#[c]⟩ = true := by
  intro c h
  have : c = 48 ∨ c = 49 ∨ c = 50 ∨ c = 51 ∨ c = 52 ∨ c = 53 ∨ c = 54 ∨ c = 55 ∨ c = 56 ∨ c = 57 := by omega
  rcases this with rfl | rfl | rfl | rfl | rfl | rfl | rfl | rfl | rfl | rfl <;> decide +kernel
theorem bls_true' {α : Type} : ∀ L : List α, bls? (L.map fun _ => D.bl true) = some (L.map fun _ => true)
  | [] => rfl
  | x :: L => by simp [bls?, bls_true' L]
/-- the text of a row of numbers -/
def rowT (ps : List Nat) : Str := Txt.join " " (ps.map nT)
theorem rowT_split {ps : List Nat} (h : ps ≠ []) : Txt.split (rowT ps) " " = ps.map nT := by
  refine split_join (s := 32) (S := []) (by decide) (by decide +kernel) (fun e => h (List.map_eq_nil_iff.mp e)) fun p hp => ?_
  obtain ⟨n, _, rfl⟩ := List.mem_map.mp hp
  show 32 ∉ (nT n).cps.toList
  rw [tl_nT]
  exact numL_free (.inl (by decide))
open TL
theorem okRow_P : ∀ (b w : Int) (ps : List Int), okRow b w ps → ∀ p ∈ ps, isP p
  | _, _, [], _, _, h => by cases h
  | b, w, q :: ps, h, p, m => by
    obtain ⟨h1, h2, h3, h4⟩ := h
    rcases List.mem_cons.mp m with rfl | m
    · exact h1
    · exact okRow_P _ _ ps h4 p m
/-- the text of a row -/
def rowS (ps : List Int) : Str := rowT (ps.map Int.toNat)
theorem row_back {ps : List Int} (h : ∀ p ∈ ps, 0 ≤ p) : (ps.map Int.toNat).map (fun n : Nat => D.int (n : Int)) = ps.map D.int := by
  rw [List.map_map]
  refine List.map_congr_left fun p hp => ?_
  show D.int ((p.toNat : Nat) : Int) = D.int p
  rw [Int.toNat_of_nonneg (h p hp)]
theorem joinL_len (S : List Nat) : ∀ L : List (List Nat), (∀ l ∈ L, l.length ≤ 60) → (joinL S L).length ≤ (60 + S.length) * L.length
  | [], _ => Nat.zero_le _
  | [p], h => by
    have := h p (List.mem_singleton.mpr rfl)
    show p.length ≤ _
    simp only [List.length_cons, List.length_nil]
    omega
  | p :: q :: r, h => by
    have h1 := h p (List.mem_cons_self ..)
    have h2 := joinL_len S (q :: r) fun l hl => h l (List.mem_cons_of_mem _ hl)
    show (p ++ (S ++ joinL S (q :: r))).length ≤ _
    rw [List.length_append, List.length_append, show (p :: q :: r).length = (q :: r).length + 1 from rfl, Nat.mul_add]
    omega
theorem small_of_isP {p : Int} (h : isP p) : p.toNat < 10 ^ 60 := Nat.lt_of_le_of_lt (show p.toNat ≤ 30030 by have := h.2.1; omega) (by decide)
theorem rowS_len {ps : List Int} (al : ∀ p ∈ ps, isP p) (hl : ps.length ≤ 1000) : (rowS ps).length + 2 ≤ 16777216 := by
  have k : (rowS ps).length ≤ 61 * ps.length := by
    rw [len_tl]
    unfold rowS rowT
    rw [join_eq, tl_join]
    refine Nat.le_trans (joinL_len _ _ fun l hl => ?_) (Nat.le_of_eq ?_)
    · simp only [List.map_map, List.mem_map] at hl
      obtain ⟨p, hp, rfl⟩ := hl
      show (tl (nT p.toNat)).length ≤ 60
      rw [← len_tl]
      exact nT_len (small_of_isP (al p hp))
    · rw [show (tl (" " : Str)).length = 1 by decide]
      simp
  omega
theorem isP_euclid {q a b : Int} (hq : isP q) (h : q ∣ a * b) : q ∣ a ∨ q ∣ b := by
  have q2 := hq.1
  have hg : Int.gcd q a = 1 ∨ (Int.gcd q a : Int) = q := by
    rcases Nat.lt_or_ge (Int.gcd q a) 2 with g | g
    · have : Int.gcd q a ≠ 0 := fun z => by have := (Int.gcd_eq_zero_iff.mp z).1; omega
      left; omega
    · right
      obtain ⟨k, hk⟩ := Int.gcd_dvd_left q a
      generalize hG : (Int.gcd q a : Int) = G at hk
      have G2 : 2 ≤ G := by omega
      have k1 : 1 ≤ k := by
        rcases Int.lt_or_le k 1 with z | z
        · have : G * k ≤ G * 0 := Int.mul_le_mul_of_nonneg_left (by omega) (by omega)
          omega
        · exact z
      rcases Int.lt_or_le k 2 with z | z
      · have : k = 1 := by omega
        subst this
        omega
      · exfalso
        rcases Int.le_total G k with y | y
        · have : G * G ≤ G * k := Int.mul_le_mul_of_nonneg_left y (by omega)
          exact hq.2.2 G G2 (by omega) (Int.emod_eq_zero_of_dvd ⟨k, hk⟩)
        · have : k * k ≤ G * k := Int.mul_le_mul_of_nonneg_right y (by omega)
          exact hq.2.2 k z (by omega) (Int.emod_eq_zero_of_dvd ⟨G, by rw [Int.mul_comm]; exact hk⟩)
  rcases hg with g | g
  · right
    have h' := Int.natAbs_dvd_natAbs.mpr h
    rw [Int.natAbs_mul] at h'
    exact Int.natAbs_dvd_natAbs.mp (Nat.Coprime.dvd_of_dvd_mul_left (k := q.natAbs) (n := b.natAbs) (m := a.natAbs) g h')
  · exact .inl (g ▸ Int.gcd_dvd_right q a)
theorem isP_ndvd {p q : Int} (hp : isP p) (hq : isP q) (n : p ≠ q) : ¬ q ∣ p := by
  rintro ⟨k, hk⟩
  have p2 := hp.1
  have q2 := hq.1
  have k1 : 1 ≤ k := by
    rcases Int.lt_or_le k 1 with z | z
    · have : q * k ≤ q * 0 := Int.mul_le_mul_of_nonneg_left (by omega) (by omega)
      omega
    · exact z
  rcases Int.lt_or_le k 2 with z | z
  · have : k = 1 := by omega
    subst this
    omega
  · rcases Int.le_total q k with y | y
    · have : q * q ≤ q * k := Int.mul_le_mul_of_nonneg_left y (by omega)
      exact hp.2.2 q q2 (by omega) (Int.emod_eq_zero_of_dvd ⟨k, hk⟩)
    · have : k * k ≤ q * k := Int.mul_le_mul_of_nonneg_right y (by omega)
      exact hp.2.2 k z (by omega) (Int.emod_eq_zero_of_dvd ⟨q, by rw [Int.mul_comm]; exact hk⟩)
/-- y is made of the primes -/
def Rich : List Int → Int → Prop
  | [], y => y = 1
  | p :: ps, y => ∃ (x : Int) (i : Nat), Rich ps x ∧ y = x * p ^ i
theorem Rich.one : ∀ ps : List Int, Rich ps 1
  | [] => rfl
  | _ :: ps => ⟨1, 0, Rich.one ps, by simp⟩
theorem Rich.pos : ∀ {ps : List Int} {y : Int}, (∀ p ∈ ps, 2 ≤ p) → Rich ps y → 1 ≤ y
  | [], y, _, h => by have : y = 1 := h; omega
  | p :: ps, y, hp, ⟨x, i, hx, e⟩ => by
    have h1 := Rich.pos (fun q hq => hp q (List.mem_cons_of_mem _ hq)) hx
    have h2 : (1 : Int) ≤ p ^ i := Int.pow_pos (by have := hp p (List.mem_cons_self ..); omega)
    have := Int.mul_le_mul h1 h2 (by decide) (by omega)
    omega
/-- r is the least from n on; the last prime stands first in the list -/
def leastR (ps : List Int) (n r : Int) : Prop := Rich ps r ∧ n ≤ r ∧ ∀ y, Rich ps y → n ≤ y → r ≤ y
/-- r is the greatest up to n -/
def greatR (ps : List Int) (n r : Int) : Prop := Rich ps r ∧ r ≤ n ∧ ∀ y, Rich ps y → y ≤ n → y ≤ r
theorem leastR.uniq {ps : List Int} {n r s : Int} (a : leastR ps n r) (b : leastR ps n s) : r = s := by
  have := a.2.2 s b.1 b.2.1
  have := b.2.2 r a.1 a.2.1
  omega
theorem pow_ge {p : Int} (hp : 2 ≤ p) : ∀ i : Nat, (i : Int) + 1 ≤ p ^ i
  | 0 => by simp
  | i + 1 => by
    have ih := pow_ge hp i
    rw [Int.pow_succ]
    have : p ^ i * 2 ≤ p ^ i * p := Int.mul_le_mul_of_nonneg_left hp (by omega)
    omega
theorem pow_mono {p : Int} (hp : 1 ≤ p) {i j : Nat} (h : i ≤ j) : p ^ i ≤ p ^ j := by
  obtain ⟨d, rfl⟩ := Nat.exists_eq_add_of_le h
  rw [Int.pow_add]
  have h1 : (0 : Int) < p ^ i := Int.pow_pos (by omega)
  have h2 : (0 : Int) < p ^ d := Int.pow_pos (by omega)
  have : p ^ i * 1 ≤ p ^ i * p ^ d := Int.mul_le_mul_of_nonneg_left (by omega) (by omega)
  omega
theorem leastR.ex {p : Int} {ps : List Int} (hp : 2 ≤ p) (n : Int) : ∃ r, leastR (p :: ps) n r := by
  have key : ∀ (k : Nat), (∃ y, Rich (p :: ps) y ∧ n ≤ y ∧ y ≤ n + k) → ∃ r, leastR (p :: ps) n r := by
    intro k
    induction k with
    | zero =>
      rintro ⟨y, h1, h2, h3⟩
      exact ⟨y, h1, h2, fun z _ hz => by omega⟩
    | succ k ih =>
      rintro ⟨y, h1, h2, h3⟩
      by_cases c : ∃ y, Rich (p :: ps) y ∧ n ≤ y ∧ y ≤ n + k
      · exact ih c
      · refine ⟨y, h1, h2, fun z hz1 hz2 => ?_⟩
        rcases Int.lt_or_le z y with q | q
        · exact absurd ⟨z, hz1, hz2, by omega⟩ c
        · exact q
  have hr : Rich (p :: ps) (p ^ n.toNat) := ⟨1, n.toNat, Rich.one ps, by simp⟩
  have hge := pow_ge hp n.toNat
  exact key (p ^ n.toNat - n).toNat ⟨_, hr, by omega, by omega⟩
/-- rounded up -/
def cdiv (n w : Int) : Int := -(-n / w)
theorem cdiv_le {n w x : Int} (hw : 0 < w) : cdiv n w ≤ x ↔ n ≤ x * w := by
  unfold cdiv
  have : -x ≤ -n / w ↔ -x * w ≤ -n := Int.le_ediv_iff_mul_le hw
  rw [Int.neg_mul] at this
  constructor
  · intro h
    have := this.mp (by omega)
    omega
  · intro h
    have := this.mpr (by omega)
    omega
/-- how often p is in n, and what is left -/
def vlR : Nat → Int → Int → Nat × Int
  | 0, _, n => (0, n)
  | f + 1, p, n => if n % p = 0 then ((vlR f p (n / p)).1 + 1, (vlR f p (n / p)).2) else (0, n)
def vl (p n : Int) : Nat := (vlR n.toNat p n).1
def rm (p n : Int) : Int := (vlR n.toNat p n).2
theorem vlR_ok {p : Int} (hp : 2 ≤ p) : ∀ (f : Nat) (n : Int), 1 ≤ n → n ≤ f → n = (vlR f p n).2 * p ^ (vlR f p n).1 ∧ (vlR f p n).2 % p ≠ 0 ∧ 1 ≤ (vlR f p n).2
  | 0, n, h1, h2 => by omega
  | f + 1, n, h1, h2 => by
    unfold vlR
    by_cases c : n % p = 0
    · rw [if_pos c]
      obtain ⟨q, e⟩ := Int.dvd_of_emod_eq_zero c
      have e2 : n / p = q := by rw [e]; exact Int.mul_ediv_cancel_left _ (by omega)
      have q1 : 1 ≤ q := by
        rcases Int.lt_or_le q 1 with z | z
        · have : p * q ≤ p * 0 := Int.mul_le_mul_of_nonneg_left (by omega) (by omega)
          omega
        · exact z
      have q2 : q * 2 ≤ q * p := Int.mul_le_mul_of_nonneg_left hp (by omega)
      rw [Int.mul_comm] at e
      obtain ⟨a1, a2, a3⟩ := vlR_ok hp f q q1 (by omega)
      rw [e2]
      refine ⟨?_, a2, a3⟩
      show n = (vlR f p q).2 * p ^ ((vlR f p q).1 + 1)
      rw [Int.pow_succ, ← Int.mul_assoc, ← a1, e]
    · rw [if_neg c]
      exact ⟨by simp, c, h1⟩
section
variable {p : Int}
theorem vl_eq (hp : 2 ≤ p) {n : Int} (hn : 1 ≤ n) : n = rm p n * p ^ vl p n := (vlR_ok hp n.toNat n hn (by omega)).1
theorem rm_nd (hp : 2 ≤ p) {n : Int} (hn : 1 ≤ n) : rm p n % p ≠ 0 := (vlR_ok hp n.toNat n hn (by omega)).2.1
theorem rm_pos (hp : 2 ≤ p) {n : Int} (hn : 1 ≤ n) : 1 ≤ rm p n := (vlR_ok hp n.toNat n hn (by omega)).2.2
theorem vl_uniqR (hp : 2 ≤ p) : ∀ (m k : Nat) (r s : Int), r % p ≠ 0 → s % p ≠ 0 → r * p ^ m = s * p ^ k → m = k ∧ r = s
  | 0, 0, r, s, _, _, e => ⟨rfl, by simpa using e⟩
  | 0, k + 1, r, s, hr, _, e => by
    exfalso; apply hr
    rw [Int.pow_succ, ← Int.mul_assoc] at e
    simp only [Int.pow_zero, Int.mul_one] at e
    rw [e]; exact Int.mul_emod_left ..
  | m + 1, 0, r, s, _, hs, e => by
    exfalso; apply hs
    rw [Int.pow_succ, ← Int.mul_assoc] at e
    simp only [Int.pow_zero, Int.mul_one] at e
    rw [← e]; exact Int.mul_emod_left ..
  | m + 1, k + 1, r, s, hr, hs, e => by
    rw [Int.pow_succ, Int.pow_succ, ← Int.mul_assoc, ← Int.mul_assoc] at e
    obtain ⟨h1, h2⟩ := vl_uniqR hp m k r s hr hs (Int.eq_of_mul_eq_mul_right (by omega) e)
    exact ⟨by omega, h2⟩
theorem vl_uniq (hp : 2 ≤ p) {n r : Int} {m : Nat} (hn : 1 ≤ n) (hr : r % p ≠ 0) (e : n = r * p ^ m) : m = vl p n ∧ r = rm p n :=
  vl_uniqR hp m (vl p n) r (rm p n) hr (rm_nd hp hn) (by rw [← e]; exact vl_eq hp hn)
theorem isP_nd {a b : Int} (hp : isP p) (ha : a % p ≠ 0) (hb : b % p ≠ 0) : (a * b) % p ≠ 0 := fun z => by
  rcases isP_euclid hp (Int.dvd_of_emod_eq_zero z) with d | d
  · exact ha (Int.emod_eq_zero_of_dvd d)
  · exact hb (Int.emod_eq_zero_of_dvd d)
theorem mul_pos1 {a b : Int} (ha : 1 ≤ a) (hb : 1 ≤ b) : 1 ≤ a * b := by
  have : 1 * 1 ≤ a * b := Int.mul_le_mul ha hb (by decide) (by omega)
  omega
theorem vl_mul (hp : isP p) {a b : Int} (ha : 1 ≤ a) (hb : 1 ≤ b) : vl p (a * b) = vl p a + vl p b ∧ rm p (a * b) = rm p a * rm p b := by
  have h := vl_uniq (n := a * b) (r := rm p a * rm p b) (m := vl p a + vl p b) hp.1 (mul_pos1 ha hb) (isP_nd hp (rm_nd hp.1 ha) (rm_nd hp.1 hb)) (by
    rw [Int.pow_add]
    have e : rm p a * rm p b * (p ^ vl p a * p ^ vl p b) = (rm p a * p ^ vl p a) * (rm p b * p ^ vl p b) := by
      rw [Int.mul_assoc, Int.mul_assoc, ← Int.mul_assoc (rm p b), Int.mul_comm (rm p b) (p ^ vl p a), Int.mul_assoc]
    rw [e, ← vl_eq hp.1 ha, ← vl_eq hp.1 hb])
  exact ⟨h.1.symm, h.2.symm⟩
end
def exF : List Int → Int → List Nat
  | [], _ => []
  | p :: ps, n => vl p n :: exF ps (rm p n)
def prF : List Int → Int → Int
  | [], n => n
  | p :: ps, n => prF ps (rm p n)
/-- the product of the powers -/
def pwE : List Int → List Nat → Int
  | p :: ps, e :: es => p ^ e * pwE ps es
  | _, _ => 1
def AllP (ps : List Int) : Prop := ∀ p ∈ ps, isP p
theorem AllP.tl {p : Int} {ps : List Int} (h : AllP (p :: ps)) : AllP ps := fun q hq => h q (List.mem_cons_of_mem _ hq)
theorem AllP.hd {p : Int} {ps : List Int} (h : AllP (p :: ps)) : isP p := h p (List.mem_cons_self ..)
theorem exF_len : ∀ (ps : List Int) (n : Int), (exF ps n).length = ps.length
  | [], _ => rfl
  | p :: ps, n => by simp [exF, exF_len ps]
theorem pwE_pos : ∀ {ps : List Int} {es : List Nat}, AllP ps → 1 ≤ pwE ps es
  | [], _, _ => by simp [pwE]
  | _ :: _, [], _ => by simp [pwE]
  | p :: ps, e :: es, h => mul_pos1 (Int.pow_pos (by have := h.hd.1; omega)) (pwE_pos h.tl)
theorem parts_eq : ∀ {ps : List Int} {n : Int}, AllP ps → 1 ≤ n → n = pwE ps (exF ps n) * prF ps n ∧ 1 ≤ prF ps n
  | [], n, _, hn => by simp [pwE, exF, prF, hn]
  | p :: ps, n, h, hn => by
    have hp := h.hd.1
    obtain ⟨e, h1⟩ := parts_eq (n := rm p n) h.tl (rm_pos hp hn)
    refine ⟨?_, h1⟩
    show n = p ^ vl p n * pwE ps (exF ps (rm p n)) * prF ps (rm p n)
    rw [Int.mul_assoc, ← e, Int.mul_comm]
    exact vl_eq hp hn
theorem prF_pos {ps : List Int} {n : Int} (h : AllP ps) (hn : 1 ≤ n) : 1 ≤ prF ps n := (parts_eq h hn).2
theorem parts_mul : ∀ {ps : List Int} {a b : Int}, AllP ps → 1 ≤ a → 1 ≤ b → prF ps (a * b) = prF ps a * prF ps b ∧ exF ps (a * b) = List.zipWith (· + ·) (exF ps a) (exF ps b)
  | [], a, b, _, _, _ => ⟨rfl, rfl⟩
  | p :: ps, a, b, h, ha, hb => by
    obtain ⟨e1, e2⟩ := vl_mul h.hd ha hb
    obtain ⟨i1, i2⟩ := parts_mul h.tl (rm_pos h.hd.1 ha) (rm_pos h.hd.1 hb)
    refine ⟨?_, ?_⟩
    · show prF ps (rm p (a * b)) = _
      rw [e2]; exact i1
    · show vl p (a * b) :: exF ps (rm p (a * b)) = _
      rw [e1, e2, i2]; rfl
theorem prF_dvd {ps : List Int} {n : Int} (h : AllP ps) (hn : 1 ≤ n) : prF ps n ∣ n := ⟨pwE ps (exF ps n), by rw [Int.mul_comm]; exact (parts_eq h hn).1⟩
theorem prF_nd : ∀ {ps : List Int} {n : Int}, AllP ps → 1 ≤ n → ∀ p ∈ ps, prF ps n % p ≠ 0
  | q :: ps, n, h, hn, p, hp => by
    rcases List.mem_cons.mp hp with rfl | hp
    · intro z
      have z : prF ps (rm p n) % p = 0 := z
      have d := Int.dvd_trans (Int.dvd_of_emod_eq_zero z) (prF_dvd h.tl (rm_pos h.hd.1 hn))
      exact rm_nd h.hd.1 hn (Int.emod_eq_zero_of_dvd d)
    · exact prF_nd h.tl (rm_pos h.hd.1 hn) p hp
theorem parts_nd : ∀ {ps : List Int} {n : Int}, AllP ps → 1 ≤ n → (∀ p ∈ ps, n % p ≠ 0) → prF ps n = n ∧ exF ps n = ps.map fun _ => 0
  | [], n, _, _, _ => ⟨rfl, rfl⟩
  | p :: ps, n, h, hn, hd => by
    obtain ⟨e1, e2⟩ := vl_uniq (p := p) (n := n) (r := n) (m := 0) h.hd.1 hn (hd p (List.mem_cons_self ..)) (by simp)
    obtain ⟨i1, i2⟩ := parts_nd h.tl hn fun q hq => hd q (List.mem_cons_of_mem _ hq)
    refine ⟨?_, ?_⟩
    · show prF ps (rm p n) = n
      rw [← e2]; exact i1
    · show vl p n :: exF ps (rm p n) = _
      rw [← e1, ← e2, i2]; rfl
theorem prF_prF {ps : List Int} {n : Int} (h : AllP ps) (hn : 1 ≤ n) : prF ps (prF ps n) = prF ps n := (parts_nd h (prF_pos h hn) (prF_nd h hn)).1
theorem prF_of {ps : List Int} {p : Int} (h : AllP ps) (hp : p ∈ ps) : prF ps p = 1 := by
  have p2 := (h p hp).1
  obtain ⟨e, h1⟩ := parts_eq (n := p) h (by omega)
  have nd := prF_nd (n := p) h (by omega) p hp
  have pw : 1 ≤ pwE ps (exF ps p) := pwE_pos h
  have d : p ∣ pwE ps (exF ps p) * prF ps p := ⟨1, by omega⟩
  rcases isP_euclid (h p hp) d with d | d
  · have := Int.le_of_dvd (by omega) d
    rcases Int.lt_or_le 1 (prF ps p) with c | c
    · have : pwE ps (exF ps p) * 2 ≤ pwE ps (exF ps p) * prF ps p := Int.mul_le_mul_of_nonneg_left (by omega) (by omega)
      omega
    · omega
  · exact absurd (Int.emod_eq_zero_of_dvd d) nd
theorem prF_one {ps : List Int} (h : AllP ps) : prF ps 1 = 1 := by
  have e := (parts_eq (n := 1) h (by decide))
  have pw : 1 ≤ pwE ps (exF ps 1) := pwE_pos h
  have : pwE ps (exF ps 1) * 1 ≤ pwE ps (exF ps 1) * prF ps 1 := Int.mul_le_mul_of_nonneg_left e.2 (by omega)
  have : 1 * prF ps 1 ≤ pwE ps (exF ps 1) * prF ps 1 := Int.mul_le_mul_of_nonneg_right pw (by omega)
  have := e.1
  omega
theorem prF_quot {ps : List Int} {n : Int} (h : AllP ps) (hn : 1 ≤ n) : 1 ≤ n / prF ps n ∧ prF ps (n / prF ps n) = 1 ∧ n = n / prF ps n * prF ps n := by
  have l1 := prF_pos h hn
  have e : n = n / prF ps n * prF ps n := (Int.ediv_mul_cancel (prF_dvd h hn)).symm
  have q1 : 1 ≤ n / prF ps n := by
    rcases Int.lt_or_le (n / prF ps n) 1 with z | z
    · have : n / prF ps n * prF ps n ≤ 0 * prF ps n := Int.mul_le_mul_of_nonneg_right (by omega) (by omega)
      omega
    · exact z
  refine ⟨q1, ?_, e⟩
  have m := (parts_mul (ps := ps) h q1 l1).1
  rw [← e, prF_prF h hn] at m
  have : 1 * prF ps n = prF ps (n / prF ps n) * prF ps n := by rw [Int.one_mul]; exact m
  exact (Int.eq_of_mul_eq_mul_right (by omega) this).symm
theorem prF_div {ps : List Int} {a p : Int} (h : AllP ps) (ha : 1 ≤ a) (h1 : prF ps a = 1) (hp : p ∈ ps) (hd : a % p = 0) : 1 ≤ a / p ∧ prF ps (a / p) = 1 := by
  have p2 := (h p hp).1
  have e : a = a / p * p := (Int.ediv_mul_cancel (Int.dvd_of_emod_eq_zero hd)).symm
  have q1 : 1 ≤ a / p := by
    rcases Int.lt_or_le (a / p) 1 with z | z
    · have : a / p * p ≤ 0 * p := Int.mul_le_mul_of_nonneg_right (by omega) (by omega)
      omega
    · exact z
  have m := (parts_mul (ps := ps) (a := a / p) (b := p) h q1 (by omega)).1
  rw [← e, h1, prF_of h hp, Int.mul_one] at m
  exact ⟨q1, m.symm⟩
theorem mul_one_iff {a b : Int} (ha : 1 ≤ a) (hb : 1 ≤ b) : a * b = 1 ↔ a = 1 ∧ b = 1 := by
  constructor
  · intro e
    have h1 : a * 1 ≤ a * b := Int.mul_le_mul_of_nonneg_left hb (by omega)
    have h2 : 1 * b ≤ a * b := Int.mul_le_mul_of_nonneg_right ha (by omega)
    omega
  · rintro ⟨rfl, rfl⟩; rfl
theorem vl_le {p : Int} (hp : 2 ≤ p) {n : Int} (hn : 1 ≤ n) : (vl p n : Int) ≤ n := by
  have e := vl_eq hp hn
  have r1 := rm_pos hp hn
  have g := pow_ge hp (vl p n)
  have : 1 * p ^ vl p n ≤ rm p n * p ^ vl p n := Int.mul_le_mul_of_nonneg_right r1 (by omega)
  omega
theorem exF_le : ∀ {ps : List Int} {n : Int}, AllP ps → 1 ≤ n → ∀ e ∈ exF ps n, (e : Int) ≤ n
  | [], n, _, _, e, he => by cases he
  | p :: ps, n, h, hn, e, he => by
    rcases List.mem_cons.mp he with rfl | he
    · exact vl_le h.hd.1 hn
    · have := exF_le h.tl (rm_pos h.hd.1 hn) e he
      have e2 := vl_eq h.hd.1 hn
      have g : (1 : Int) ≤ p ^ vl p n := Int.pow_pos (by have := h.hd.1; omega)
      have : rm p n * 1 ≤ rm p n * p ^ vl p n := Int.mul_le_mul_of_nonneg_left g (by have := rm_pos h.hd.1 hn; omega)
      omega
abbrev natD (e : Nat) : D := .int (e : Int)
theorem natD_map (es : List Nat) : es.map natD = (es.map fun e : Nat => (e : Int)).map D.int := by rw [List.map_map]; rfl
theorem pl_nats (n : Nat) (es : List Nat) : D.pl (n + 1) (.tup (es.map natD)) = true := by rw [natD_map]; exact pl_tint _ _
theorem natD_inj (es fs : List Nat) : (es.map natD = fs.map natD) = (es = fs) := by
  rw [natD_map, natD_map, ints_inj]
  refine propext ⟨fun h => ?_, fun h => by rw [h]⟩
  exact (List.map_inj_right fun a b h => by omega).mp h
theorem eqv_nats (es fs : List Nat) : D.eqv (.tup (es.map natD)) (.tup (fs.map natD)) = decide (es = fs) := by
  rw [natD_map, natD_map, eqv_tint, decide_eq_decide, ← ints_inj, ← natD_map, ← natD_map, natD_inj]
theorem nT_of {p : Int} (h : 0 ≤ p) : Str.ofString (toString p) = nT p.toNat := by
  unfold nT
  rw [Int.toNat_of_nonneg h]
theorem sum_le (L : List Str) (h : ∀ x ∈ L, x.length ≤ 60) : (L.map (·.length)).sum ≤ 60 * L.length := by
  induction L with
  | nil => simp
  | cons x L ih =>
    have h1 := h x (List.mem_cons_self ..)
    have h2 := ih fun y hy => h y (List.mem_cons_of_mem _ hy)
    simp only [List.map_cons, List.sum_cons, List.length_cons]
    omega
theorem join_go {ps : List Int} (al : AllP ps) (hl : ps.length ≤ 1000) : textsOf M (.lst ((ps.map fun p => nT p.toNat).map D.str)) = some (ps.map fun p => nT p.toNat) ∧ ((ps.map fun p => nT p.toNat).map (·.length)).sum + (ps.map fun p => nT p.toNat).length * (" " : Str).length ≤ 16777216 ∧ Txt.join " " (ps.map fun p => nT p.toNat) = rowS ps := by
  refine ⟨?_, ?_, ?_⟩
  · unfold textsOf
    simp only [asL, Option.bind_some]
    exact strs_map _
  · have := sum_le (ps.map fun p => nT p.toNat) fun x hx => by
      obtain ⟨p, hp, rfl⟩ := List.mem_map.mp hx
      exact nT_len (small_of_isP (al p hp))
    rw [show (" " : Str).length = 1 by decide]
    simp only [List.length_map] at this ⊢
    omega
  · unfold rowS rowT
    rw [List.map_map]
    rfl
section
open TL
theorem join_mem (S : List Nat) {c : Nat} : ∀ {L : List (List Nat)}, c ∈ joinL S L → c ∈ S ∨ ∃ l ∈ L, c ∈ l
  | [], h => by cases h
  | [p], h => .inr ⟨p, List.mem_singleton.mpr rfl, h⟩
  | p :: q :: r, h => by
    rcases List.mem_append.mp (show c ∈ p ++ (S ++ joinL S (q :: r)) from h) with h | h
    · exact .inr ⟨p, List.mem_cons_self .., h⟩
    · rcases List.mem_append.mp h with h | h
      · exact .inl h
      · rcases join_mem S h with h | ⟨l, hl, h⟩
        · exact .inl h
        · exact .inr ⟨l, List.mem_cons_of_mem _ hl, h⟩
theorem fit_low {x : Str} {B : Nat} (h : ∀ c ∈ x.cps.toList, c < 128) : (D.str x).fit B := by
  unfold D.fit
  refine ⟨?_, fun c hc => Nat.lt_of_lt_of_le (h c hc) (by decide)⟩
  show x.cps.all (· < 0x110000) = true
  rw [Array.all_eq_true_iff_forall_mem]
  intro c hc
  have := h c (Array.mem_toList_iff.mpr hc)
  exact decide_eq_true (by omega)
theorem rowS_low (ps : List Int) : ∀ c ∈ (rowS ps).cps.toList, c < 128 := by
  intro c hc
  have e : (rowS ps).cps.toList = tl (rowS ps) := rfl
  rw [e] at hc
  unfold rowS rowT at hc
  rw [join_eq, tl_join] at hc
  rcases join_mem _ hc with h | ⟨l, hl, h⟩
  · have : c = 32 := by simpa [show tl (" " : Str) = [32] by decide] using h
    omega
  · obtain ⟨x, hx, rfl⟩ := List.mem_map.mp hl
    obtain ⟨k, _, rfl⟩ := List.mem_map.mp hx
    have h' : c ∈ (nT k).cps.toList := h
    rw [tl_nT] at h'
    have := numL_digits k c h'
    omega
end
open TL
theorem nT_len80 {n : Nat} (h : n < 10 ^ 80) : (nT n).length ≤ 80 := by
  rw [len_tl]
  show (nT n).cps.toList.length ≤ 80
  rw [tl_nT]
  exact numL_len (by decide) h
theorem nT_eq {a b : Nat} (h : nT a = nT b) : a = b := by
  have := congrArg (fun s : Str => s.cps.toList) h
  simp only [tl_nT] at this
  exact numL_inj this
/-- a word tells a number -/
def NumW (w : Str) (n : Nat) : Prop := n < 10 ^ 80 ∧ w = nT n
def IsNumW (w : Str) : Prop := ∃ n : Nat, NumW w n
open Classical in
/-- the number that a word tells -/
noncomputable def wordV (w : Str) : Option Nat := if h : IsNumW w then some (Exists.choose h) else none
theorem wordV_nT {n : Nat} (h : n < 10 ^ 80) : wordV (nT n) = some n := by
  have ex : IsNumW (nT n) := ⟨n, h, rfl⟩
  unfold wordV
  rw [dif_pos ex]
  exact congrArg some (nT_eq (Exists.choose_spec ex).2).symm
theorem wordV_some {w : Str} {n : Nat} (h : wordV w = some n) : w = nT n ∧ n < 10 ^ 80 := by
  unfold wordV at h
  split at h
  · rename_i ex
    cases h
    exact ⟨(Exists.choose_spec ex).2, (Exists.choose_spec ex).1⟩
  · cases h
theorem wordV_none {w : Str} (h : ∀ n : Nat, n < 10 ^ 80 → w ≠ nT n) : wordV w = none := by
  unfold wordV
  rw [dif_neg fun ⟨n, a, b⟩ => h n a b]
noncomputable def wordD (w : Str) : D := match wordV w with
  | some n => .int (n : Nat)
  | none => .non
theorem wordD_nT {n : Nat} (h : n < 10 ^ 80) : wordD (nT n) = .int (n : Nat) := by unfold wordD; rw [wordV_nT h]
theorem wordD_none {w : Str} (h : ∀ n : Nat, n < 10 ^ 80 → w ≠ nT n) : wordD w = .non := by unfold wordD; rw [wordV_none h]
theorem wordD_int {w : Str} {p : Int} (h : wordD w = .int p) : 0 ≤ p ∧ w = nT p.toNat := by
  unfold wordD at h
  split at h
  · rename_i n e
    cases h
    exact ⟨Int.natCast_nonneg n, (wordV_some e).1⟩
  · cases h
theorem wordD_kn (w : Str) : knB (wordD w) = true := by
  unfold wordD
  split <;> rfl
theorem char_back : ∀ c : Nat, 48 ≤ c ∧ c ≤ 57 → (Char.ofNat c).toNat = c := by
  intro c h
  have : c = 48 ∨ c = 49 ∨ c = 50 ∨ c = 51 ∨ c = 52 ∨ c = 53 ∨ c = 54 ∨ c = 55 ∨ c = 56 ∨ c = 57 := by omega
  rcases this with rfl | rfl | rfl | rfl | rfl | rfl | rfl | rfl | rfl | rfl <;> decide
theorem digits_num {l : List Nat} (h : NumText.AllDigits l) (hn : l ≠ []) (h0 : l.head? ≠ some 48) : numL (NumText.digitsVal l) = l := by
  unfold numL
  rw [NumText.toDigits_all l h]
  cases l with
  | nil => exact absurd rfl hn
  | cons c r =>
    have hc : (c == 48) = false := by
      simp only [List.head?_cons, ne_eq, Option.some.injEq] at h0
      simpa using h0
    rw [List.dropWhile_cons, hc]
    show List.map Char.toNat (List.map Char.ofNat (c :: r)) = c :: r
    rw [List.map_map]
    have : ∀ x ∈ c :: r, (Char.toNat ∘ Char.ofNat) x = id x := fun x hx => char_back x (h x hx)
    rw [List.map_congr_left this, List.map_id]
theorem dv_lt : ∀ (l : List Nat) (a b : Nat), NumText.AllDigits l → a < b → l.foldl (fun acc c => acc * 10 + (c - 48)) a < b * 10 ^ l.length
  | [], a, b, _, h => by simpa using h
  | c :: l, a, b, hd, h => by
    have hc := hd c (List.mem_cons_self ..)
    have k := dv_lt l (a * 10 + (c - 48)) (b * 10) (fun x hx => hd x (List.mem_cons_of_mem _ hx)) (by omega)
    rw [List.foldl_cons, List.length_cons, Nat.pow_succ, Nat.mul_comm (10 ^ l.length) 10, ← Nat.mul_assoc]
    exact k
theorem dval_lt {l : List Nat} (h : NumText.AllDigits l) : NumText.digitsVal l < 10 ^ l.length := by
  have := dv_lt l 0 1 h (by decide)
  rw [Nat.one_mul] at this
  exact this
theorem hasT_one (z : Str) (c : Nat) : hasT z ⟨#[c]⟩ = decide (c ∈ z.cps.toList) := StrLaws.found_one z c
def digB (c : Nat) : Bool := decide (48 ≤ c ∧ c ≤ 57)
theorem dig_has (c : Nat) : hasT "0123456789" ⟨#[c]⟩ = digB c := by
  rw [hasT_one, show ("0123456789" : Str).cps.toList = [48, 49, 50, 51, 52, 53, 54, 55, 56, 57] by decide]
  unfold digB
  refine decide_eq_decide.mpr ?_
  simp only [List.mem_cons, List.not_mem_nil, or_false]
  omega
theorem bls_all : ∀ bs : List Bool, bls? (bs.map D.bl) = some bs
  | [] => rfl
  | x :: L => by simp [bls?, bls_all L]
theorem digs_all {l : List Nat} : (l.map digB).all id = true ↔ NumText.AllDigits l := by
  simp [digB, NumText.AllDigits]
theorem join_back (s : Str) : Txt.join " " (Txt.split s " ") = s := by rw [join_eq]; exact StrLaws.join_split s " "
theorem joinL_mem_len {S : List Nat} : ∀ {L : List (List Nat)} {l : List Nat}, l ∈ L → l.length ≤ (joinL S L).length
  | [], _, h => by cases h
  | [p], l, h => by rw [List.mem_singleton.mp h]; exact Nat.le_refl _
  | p :: q :: r, l, h => by
    show _ ≤ (p ++ (S ++ joinL S (q :: r))).length
    rw [List.length_append, List.length_append]
    rcases List.mem_cons.mp h with rfl | h
    · omega
    · have := joinL_mem_len (S := S) h
      omega
theorem word_len {s w : Str} (h : w ∈ Txt.split s " ") : w.length ≤ s.length := by
  have e : tl s = joinL (tl " ") ((Txt.split s " ").map tl) := by rw [← tl_join, ← join_eq, join_back]
  rw [len_tl, len_tl, e]
  exact joinL_mem_len (List.mem_map.mpr ⟨w, h, rfl⟩)
theorem words_count : ∀ (L : List (List Nat)), L ≠ [] → (joinL [32] L).length + 1 = (L.map (·.length)).sum + L.length
  | [], h => absurd rfl h
  | [p], _ => by simp [joinL]
  | p :: q :: r, _ => by
    have k := words_count (q :: r) (by simp)
    show (p ++ ([32] ++ joinL [32] (q :: r))).length + 1 = _
    rw [List.length_append, List.length_append, List.map_cons, List.sum_cons, List.length_cons (a := p)]
    simp only [List.length_cons, List.length_nil] at k ⊢
    omega
theorem tl_sp : tl (" " : Str) = [32] := by decide
theorem split_ne (s : Str) : Txt.split s " " ≠ [] := fun e => by
  have h := join_back s
  rw [e] at h
  have : s = "" := by rw [← h]; decide
  subst this
  revert e
  decide +kernel
theorem map_len (L : List Str) : (L.map tl).map (·.length) = L.map (·.length) := by
  rw [List.map_map]
  exact List.map_congr_left fun x _ => (len_tl x).symm
/-- how long the words are -/
theorem split_sum (s : Str) : ((Txt.split s " ").map (·.length)).sum + (Txt.split s " ").length = s.length + 1 := by
  have k := words_count ((Txt.split s " ").map tl) (by simpa using split_ne s)
  have e : tl s = joinL [32] ((Txt.split s " ").map tl) := by rw [← tl_sp, ← tl_join, ← join_eq, join_back]
  rw [← e, map_len, List.length_map] at k
  rw [len_tl s]
  omega
/-- the words of a page tell these primes -/
theorem words_of : ∀ {ws : List Str} {ps : List Int}, ws.map wordD = ps.map .int → ws = (ps.map Int.toNat).map nT
  | [], [], _ => rfl
  | [], _ :: _, h => by simp at h
  | _ :: _, [], h => by simp at h
  | w :: ws, p :: ps, h => by
    simp only [List.map_cons, List.cons.injEq] at h
    rw [List.map_cons, List.map_cons, ← (wordD_int h.1).2, ← words_of h.2]
theorem of_words {ps : List Int} (al : ∀ p ∈ ps, isP p) : ((ps.map Int.toNat).map nT).map wordD = ps.map .int := by
  rw [List.map_map, List.map_map]
  refine List.map_congr_left fun p hp => ?_
  have := small_of_isP (al p hp)
  show wordD (nT p.toNat) = _
  rw [wordD_nT (Nat.lt_of_lt_of_le this (by decide)), Int.toNat_of_nonneg (by have := (al p hp).1; omega)]
/-- a value is the text of these primes -/
def pgOk (d : D) (ps : List Int) : Prop := okRow 1 1 ps ∧ ps ≠ [] ∧ d = .str (rowS ps)
theorem rows_split {ps : List Int} (hne : ps ≠ []) : Txt.split (rowS ps) " " = (ps.map Int.toNat).map nT := rowT_split (by simpa using hne)
theorem pg_words {s : Str} {ps : List Int} (h : (Txt.split s " ").map wordD = ps.map .int) : s = rowS ps := by
  have e := words_of h
  have k := join_back s
  rw [e] at k
  exact k.symm
theorem pg_wr {s : Str} {ps : List Int} (h : pgOk (.str s) ps) : (Txt.split s " ").map wordD = ps.map .int := by
  obtain ⟨ok, hne, e⟩ := h
  cases e
  rw [rows_split hne, of_words (okRow_P 1 1 ps ok)]
theorem eqv_tup0 (x : D) : D.eqv (.tup [x]) (.tup []) = false := by simp [D.eqv, D.py, pys, PyData.eqv, PyData.eqvAll]
abbrev N_wrong_prime : List Str := ["primes", "before", "product", "at", "prime"]
def sp_wrong_prime : DSp := fun ds M Q E => match ds with
  | [.tup xs] => (∀ x ∈ xs, knB x = true) ∧ xs ≠ [] ∧ Q (.tup (match wrP 0 1 1 xs with | none => [] | some k => [.int (k : Nat)])) M
  | _ => False
theorem len_wrong_prime : ∀ ds M Q E, sp_wrong_prime ds M Q E → ds.length = 1 := fun ds M Q E h => by
  unfold sp_wrong_prime at h; split at h <;> first | rfl | exact h.elim
def b1_wrong_prime (W : DW') : TDS :=
  dSeq (dIfS (dOr (dNot (dB (dCall sp_is_prime W (dCons (dV 4) (dNil))))) (dOr (dB (dOp (gT fun i j => decide (i ≤ j)) (dV 4) (dV 1))) (dB (dOp (gT fun i j => decide (j < i)) (dOp gMul (dV 2) (dV 4)) (dC (.int 30030)))))) (dRet (dTup (dCons (dV 3) (dNil)))) (dNext)) <|
  dPar [1, 2] (dCons (dV 4) (dCons (dOp gMul (dV 2) (dV 4)) (dNil)))
def t_wrong_prime (W : DW') : TDS :=
  dSeq (dIfS (dOr (dNot (dB (dCB gIsTy (dCons (dV 0) (dCons (dC (.ty "tuple")) (dNil)))))) (dB (dOp gEq (dCB gLen (dCons (dV 0) (dNil))) (dC (.int 0))))) (dRet (dTup (dCons (dC .non) (dNil)))) (dNext)) <|
  dSeq (dAsg (dTup (dCons (dC (.int 1)) (dCons (dC (.int 1)) (dNil)))) (dgTup (dgCons (dgName 1) (dgCons (dgName 2) (dgNil))))) <|
  dSeq (dFor (dEnum (dCons (dV 0) (dNil))) (dgTup (dgCons (dgName 3) (dgCons (dgName 4) (dgNil)))) (b1_wrong_prime W)) <|
  dRet (dTup (dNil))
theorem wrongA_turn {W : DW'} {E : DEnds} {M : Mp} {a : Option D} : ∀ (xs : List D) (k : Nat) (b w : Int) (y z : Option D), (∀ x ∈ xs, knB x = true) → 1 ≤ w → w ≤ 30030 → (wrP k b w xs = none → ∀ b w y z, E.nx [a, b, w, y, z] M) → (∀ j : Nat, wrP k b w xs = some j → E.rt (.tup [.int (j : Nat)]) M) →
    forL (dgTup (dgCons (dgName 3) (dgCons (dgName 4) dgNil))) (b1_wrong_prime W) E (enD k xs) [a, some (.int b), some (.int w), y, z] M
  | [], k, b, w, y, z, _, _, _, h, _ => h rfl _ _ _ _
  | d :: xs, k, b, w, y, z, hk, w1, w2, h, hr => by
    have hd := hk d (List.mem_cons_self ..)
    simp only [enD, forL]
    simp (config := { decide := false }) only [dgSubD, dgLs, D.wk, endsW, rowP, dCm, dCmK, dMakeV, rhsE, dRaise, dTry, dHds, dAct, dXf, dIsE, dput, dclr, dEndsC, fnW, pl_lint, pl_tint, eqv_lint, eqv_tint, decide_true, decide_false, djItems, seqJ, dLCG, gMul, dEnum, dLC, dYes, wipeD, dFld, fldOf, dSetF, putD, dMake, mkQ, mkQM, isOf, gIn, gIn2, dDct, gSorted, asI, pick, List.filterMap_cons, List.filterMap_nil, List.getElem?_nil, dSeq, dNext, dRet, dIfS, dAsg, dgName, dgTup, dgCons, dgNil, dgSub, dPar, dAug, dDrop, dNever, dOp, gI, gT, gPlus, gAdd, gEq, gNe, gIs, gIs2, gIx, dV, dC, dB, dAnd, dOr, dNot, dAndV, dNotV, dIf, dNeg, dNil, dCons, dTup, dLst, dLstM, dNoPart, dPart, dSl, dCB, dCall, gLen, gAbs, g2, gStrO, gInt, gInt2, dJoin, dSplit, gStr, gDivmod2, gIsTy, gTuple, gList, gAll, dAppend, dItems, itemsOf, dRange1, dFor, D.onB, D.tyn, D.isNon, asL, rsv, kb_di, kb_db, kb_ds, kb_dt, kb_dl, kb_ii, kb_bi, kb_ni, kb_si, kb_ti, kb_li, kb_ib, kb_bb, kb_nb, kb_sb, kb_tb, kb_lb, kb_is, kb_bs, kb_ns, kb_ss, kb_ts, kb_ls, kb_it, kb_bt, kb_nt, kb_st, kb_tt, kb_lt, startD, List.map_cons, List.map_nil, List.length_cons, List.length_nil, List.cons_append, List.nil_append, List.replicate, List.getElem?_cons_zero, List.getElem?_cons_succ, List.set_cons_zero, List.set_cons_succ, List.zip_cons_cons, List.zip_nil_right, List.foldl_cons, List.foldl_nil, Option.bind_some, Option.bind_none, um_same, um_um, Bool.false_eq_true, reduceCtorEq, false_implies, true_implies, forall_const, true_and, and_true, and_self, Bool.not_true, Bool.not_false, implies_true, decide_eq_true_eq, decide_eq_false_iff_not, Bool.not_eq_true, not_true_eq_false, not_false_eq_true, Bool.not_eq_true', Bool.not_eq_false', D.onB, sizeLine_eq, Nat.reduceAdd, Nat.reduceLeDiff, Nat.zero_add, Nat.reduceLT, b1_wrong_prime, sp_is_prime]
    refine ⟨kn_tyn M hd, ?_⟩
    have bad : (wrP k b w (d :: xs) = some k) → E.rt (.tup [.int (k : Nat)]) M := hr k
    cases d
    case int p =>
      intro b0 hb
      have mo : mulOk w p := .inl (.inl ⟨by omega, by omega⟩)
      refine ⟨fun c => bad (wrP_bad fun z => ?_), fun c => ⟨fun c2 => bad (wrP_bad fun z => absurd z.2.1 (by omega)), fun c2 => ⟨mo, fun c3 => bad (wrP_bad fun z => absurd z.2.2 (by omega)), fun c3 => ⟨mo, ?_⟩⟩⟩⟩
      · have := hb.mpr z.1; rw [c] at this; cases this
      · have ok : isP p ∧ b < p ∧ w * p ≤ 30030 := ⟨hb.mp c, by omega, by omega⟩
        have p2 := ok.1.1
        have : w * 1 ≤ w * p := Int.mul_le_mul_of_nonneg_left (by omega) (by omega)
        rw [wrP_int ok] at h
        refine Wk.of (wrongA_turn (W := W) xs (k + 1) p (w * p) _ _ (fun x hx => hk x (List.mem_cons_of_mem _ hx)) (by omega) ok.2.2 h fun j hj => hr j (by rw [wrP_int ok]; exact hj))
    all_goals first
      | exact absurd hd Bool.false_ne_true
      | exact ⟨fun _ => bad rfl, fun c => absurd c (by decide)⟩
      | exact bad rfl
theorem pure_wrong_prime (ds : List D) (M : Mp) (Q : DK) (E : XE') (h : sp_wrong_prime ds M Q E) : t_wrong_prime (fnW E) { nx := fun _ M' => Wk (Q .non) M', rt := fun d M' => Wk (Q d) M' } (startD N_wrong_prime ds) M := by
  unfold sp_wrong_prime at h
  split at h
  rotate_left
  · exact h.elim
  rename_i xs
  obtain ⟨hx, hne, h⟩ := h
  have l0 : 0 < xs.length := List.length_pos_iff.mpr hne
  simp (config := { decide := false }) only [dgSubD, dgLs, D.wk, endsW, rowP, dCm, dCmK, dMakeV, rhsE, dRaise, dTry, dHds, dAct, dXf, dIsE, dput, dclr, dEndsC, fnW, pl_lint, pl_tint, eqv_lint, eqv_tint, decide_true, decide_false, djItems, seqJ, dLCG, gMul, dEnum, dLC, dYes, wipeD, dFld, fldOf, dSetF, putD, dMake, mkQ, mkQM, isOf, gIn, gIn2, dDct, gSorted, asI, pick, List.filterMap_cons, List.filterMap_nil, List.getElem?_nil, dSeq, dNext, dRet, dIfS, dAsg, dgName, dgTup, dgCons, dgNil, dgSub, dPar, dAug, dDrop, dNever, dOp, gI, gT, gPlus, gAdd, gEq, gNe, gIs, gIs2, gIx, dV, dC, dB, dAnd, dOr, dNot, dAndV, dNotV, dIf, dNeg, dNil, dCons, dTup, dLst, dLstM, dNoPart, dPart, dSl, dCB, dCall, gLen, gAbs, g2, gStrO, gInt, gInt2, dJoin, dSplit, gStr, gDivmod2, gIsTy, gTuple, gList, gAll, dAppend, dItems, itemsOf, dRange1, dFor, D.onB, D.tyn, D.isNon, asL, rsv, kb_di, kb_db, kb_ds, kb_dt, kb_dl, kb_ii, kb_bi, kb_ni, kb_si, kb_ti, kb_li, kb_ib, kb_bb, kb_nb, kb_sb, kb_tb, kb_lb, kb_is, kb_bs, kb_ns, kb_ss, kb_ts, kb_ls, kb_it, kb_bt, kb_nt, kb_st, kb_tt, kb_lt, startD, List.map_cons, List.map_nil, List.length_cons, List.length_nil, List.cons_append, List.nil_append, List.replicate, List.getElem?_cons_zero, List.getElem?_cons_succ, List.set_cons_zero, List.set_cons_succ, List.zip_cons_cons, List.zip_nil_right, List.foldl_cons, List.foldl_nil, Option.bind_some, Option.bind_none, um_same, um_um, Bool.false_eq_true, reduceCtorEq, false_implies, true_implies, forall_const, true_and, and_true, and_self, Bool.not_true, Bool.not_false, implies_true, decide_eq_true_eq, decide_eq_false_iff_not, Bool.not_eq_true, not_true_eq_false, not_false_eq_true, Bool.not_eq_true', Bool.not_eq_false', D.onB, sizeLine_eq, Nat.reduceAdd, Nat.reduceLeDiff, Nat.zero_add, Nat.reduceLT, t_wrong_prime]
  refine ⟨fun c => by omega, fun c => ?_⟩
  refine wrongA_turn xs 0 1 1 _ _ hx (by decide) (by decide) (fun e b w y z => ?_) fun j e => ?_
  · rw [e] at h
    simp (config := { decide := false }) only [dgSubD, dgLs, D.wk, endsW, rowP, dCm, dCmK, dMakeV, rhsE, dRaise, dTry, dHds, dAct, dXf, dIsE, dput, dclr, dEndsC, fnW, pl_lint, pl_tint, eqv_lint, eqv_tint, decide_true, decide_false, djItems, seqJ, dLCG, gMul, dEnum, dLC, dYes, wipeD, dFld, fldOf, dSetF, putD, dMake, mkQ, mkQM, isOf, gIn, gIn2, dDct, gSorted, asI, pick, List.filterMap_cons, List.filterMap_nil, List.getElem?_nil, dSeq, dNext, dRet, dIfS, dAsg, dgName, dgTup, dgCons, dgNil, dgSub, dPar, dAug, dDrop, dNever, dOp, gI, gT, gPlus, gAdd, gEq, gNe, gIs, gIs2, gIx, dV, dC, dB, dAnd, dOr, dNot, dAndV, dNotV, dIf, dNeg, dNil, dCons, dTup, dLst, dLstM, dNoPart, dPart, dSl, dCB, dCall, gLen, gAbs, g2, gStrO, gInt, gInt2, dJoin, dSplit, gStr, gDivmod2, gIsTy, gTuple, gList, gAll, dAppend, dItems, itemsOf, dRange1, dFor, D.onB, D.tyn, D.isNon, asL, rsv, kb_di, kb_db, kb_ds, kb_dt, kb_dl, kb_ii, kb_bi, kb_ni, kb_si, kb_ti, kb_li, kb_ib, kb_bb, kb_nb, kb_sb, kb_tb, kb_lb, kb_is, kb_bs, kb_ns, kb_ss, kb_ts, kb_ls, kb_it, kb_bt, kb_nt, kb_st, kb_tt, kb_lt, startD, List.map_cons, List.map_nil, List.length_cons, List.length_nil, List.cons_append, List.nil_append, List.replicate, List.getElem?_cons_zero, List.getElem?_cons_succ, List.set_cons_zero, List.set_cons_succ, List.zip_cons_cons, List.zip_nil_right, List.foldl_cons, List.foldl_nil, Option.bind_some, Option.bind_none, um_same, um_um, Bool.false_eq_true, reduceCtorEq, false_implies, true_implies, forall_const, true_and, and_true, and_self, Bool.not_true, Bool.not_false, implies_true, decide_eq_true_eq, decide_eq_false_iff_not, Bool.not_eq_true, not_true_eq_false, not_false_eq_true, Bool.not_eq_true', Bool.not_eq_false', D.onB, sizeLine_eq, Nat.reduceAdd, Nat.reduceLeDiff, Nat.zero_add, Nat.reduceLT]
    exact Wk.of h
  · rw [e] at h
    exact Wk.of h
abbrev N_Lot___init : List Str := ["self", "primes", "wrong"]
def lotD (ps : List Int) : D := .inst "Lot" ["row", "whole"] [.tup (ps.map .int), .int (prodL ps)]
theorem lotD_eq (ps : List Int) : D.inst "Lot" ["row", "whole"] [.tup (ps.map .int), .int (prodL ps)] = lotD ps := rfl
theorem lotD_inj (ps qs : List Int) : (lotD ps = lotD qs) = (ps = qs) := by
  refine propext ⟨fun h => ?_, fun h => by rw [h]⟩
  unfold lotD at h
  injection h with _ _ h
  injection h with h _
  injection h with h
  rw [ints_inj] at h
  exact h
theorem cm_rich (M : Mp) (ps : List Int) : canM M "Lot" "is_rich" (lotD ps) = True := eq_true ⟨rfl, by decide⟩
theorem cm_poor (M : Mp) (ps : List Int) : canM M "Lot" "poor_part" (lotD ps) = True := eq_true ⟨rfl, by decide⟩
theorem cm_exp (M : Mp) (ps : List Int) : canM M "Lot" "exponents" (lotD ps) = True := eq_true ⟨rfl, by decide⟩
theorem fld_row (M : Mp) (ps : List Int) : fldOf M "Lot" "row" (lotD ps) = some (.tup (ps.map .int)) := rfl
theorem fld_whole (M : Mp) (ps : List Int) : fldOf M "Lot" "whole" (lotD ps) = some (.int (prodL ps)) := rfl
theorem isOf_lot (M : Mp) (ps : List Int) : isOf M "Lot" (lotD ps) = True := by simp [isOf, lotD]
def sp_Lot___init : DSp := fun ds M Q E => match ds with
  | [.ref a, .tup xs] => M a = some (.ins "Lot" []) ∧ ∃ ps : List Int, xs = ps.map .int ∧ okRow 1 1 ps ∧ ps ≠ [] ∧ Q .non (um M a (.ins "Lot" [("row", .tup (ps.map .int)), ("whole", .int (prodL ps))]))
  | _ => False
theorem len_Lot___init : ∀ ds M Q E, sp_Lot___init ds M Q E → ds.length = 2 := fun ds M Q E h => by
  unfold sp_Lot___init at h; split at h <;> first | rfl | exact h.elim
def t_Lot___init (W : DW') : TDS :=
  dSeq (dAsg (dCall sp_wrong_prime W (dCons (dV 1) (dNil))) (dgName 2)) <|
  dSeq (dIfS (dB (dOp gNe (dV 2) (dTup (dNil)))) (dNever) (dNext)) <|
  dSeq (dSetF "Lot" "row" (dV 1) (dV 0)) <|
  dSetF "Lot" "whole" (dCall sp_product_of W (dCons (dV 1) (dNil))) (dV 0)
theorem pure_Lot___init (ds : List D) (M : Mp) (Q : DK) (E : XE') (h : sp_Lot___init ds M Q E) : t_Lot___init (fnW E) { nx := fun _ M' => Wk (Q .non) M', rt := fun d M' => Wk (Q d) M' } (startD N_Lot___init ds) M := by
  unfold sp_Lot___init at h
  split at h
  rotate_left
  · exact h.elim
  rename_i a xs
  obtain ⟨hm, ps, rfl, ho, hne, h⟩ := h
  have ht : ∀ x ∈ ps.map D.int, knB x = true := fun x hx => by obtain ⟨i, _, rfl⟩ := List.mem_map.mp hx; rfl
  have pe : (D.tup []).pl 12 = true := by simp [D.pl, pls]
  simp (config := { decide := false }) only [dgSubD, dgLs, D.wk, endsW, rowP, dCm, dCmK, dMakeV, rhsE, dRaise, dTry, dHds, dAct, dXf, dIsE, dput, dclr, dEndsC, fnW, pl_lint, pl_tint, eqv_lint, eqv_tint, decide_true, decide_false, djItems, seqJ, dLCG, gMul, dEnum, dLC, dYes, wipeD, dFld, fldOf, dSetF, putD, dMake, mkQ, mkQM, isOf, gIn, gIn2, dDct, gSorted, asI, pick, List.filterMap_cons, List.filterMap_nil, List.getElem?_nil, dSeq, dNext, dRet, dIfS, dAsg, dgName, dgTup, dgCons, dgNil, dgSub, dPar, dAug, dDrop, dNever, dOp, gI, gT, gPlus, gAdd, gEq, gNe, gIs, gIs2, gIx, dV, dC, dB, dAnd, dOr, dNot, dAndV, dNotV, dIf, dNeg, dNil, dCons, dTup, dLst, dLstM, dNoPart, dPart, dSl, dCB, dCall, gLen, gAbs, g2, gStrO, gInt, gInt2, dJoin, dSplit, gStr, gDivmod2, gIsTy, gTuple, gList, gAll, dAppend, dItems, itemsOf, dRange1, dFor, D.onB, D.tyn, D.isNon, asL, rsv, kb_di, kb_db, kb_ds, kb_dt, kb_dl, kb_ii, kb_bi, kb_ni, kb_si, kb_ti, kb_li, kb_ib, kb_bb, kb_nb, kb_sb, kb_tb, kb_lb, kb_is, kb_bs, kb_ns, kb_ss, kb_ts, kb_ls, kb_it, kb_bt, kb_nt, kb_st, kb_tt, kb_lt, startD, List.map_cons, List.map_nil, List.length_cons, List.length_nil, List.cons_append, List.nil_append, List.replicate, List.getElem?_cons_zero, List.getElem?_cons_succ, List.set_cons_zero, List.set_cons_succ, List.zip_cons_cons, List.zip_nil_right, List.foldl_cons, List.foldl_nil, Option.bind_some, Option.bind_none, um_same, um_um, Bool.false_eq_true, reduceCtorEq, false_implies, true_implies, forall_const, true_and, and_true, and_self, Bool.not_true, Bool.not_false, implies_true, decide_eq_true_eq, decide_eq_false_iff_not, Bool.not_eq_true, not_true_eq_false, not_false_eq_true, Bool.not_eq_true', Bool.not_eq_false', D.onB, sizeLine_eq, Nat.reduceAdd, Nat.reduceLeDiff, Nat.zero_add, Nat.reduceLT, t_Lot___init, sp_wrong_prime, sp_product_of, hm, wrP_ok ho]
  refine ⟨ht, by simpa using hne, pe, fun c => absurd c (by rw [eqv_self pe]; decide), fun _ => ⟨ps, rfl, ⟨1, ho⟩, ?_⟩⟩
  rw [if_neg (by decide)]
  exact Wk.of h
abbrev N_read_number : List Str := ["word", "number", "sign"]
def sp_read_number : DSp := fun ds M Q E => match ds with
  | [.str s] => s.length ≤ 1000000 ∧ Q (wordD s) M
  | _ => False
theorem len_read_number : ∀ ds M Q E, sp_read_number ds M Q E → ds.length = 1 := fun ds M Q E h => by
  unfold sp_read_number at h; split at h <;> first | rfl | exact h.elim
def t_read_number (W : DW') : TDS :=
  dSeq (dIfS (dOr (dB (dOp gEq (dV 0) (dC (.str "")))) (dOr (dB (dOp (gT fun i j => decide (j < i)) (dCB gLen (dCons (dV 0) (dNil))) (dC (.int 80)))) (dNot (dB (dCB gAll (dCons (dLCG [2] (dgName 2) (djItems (dV 0)) (dYes) (dOp (gIn2 false) (dV 2) (dC (.str "0123456789")))) (dNil))))))) (dRet (dC .non)) (dNext)) <|
  dSeq (dAsg (dCB gInt2 (dCons (dV 0) (dNil))) (dgName 1)) <|
  dRet (dIf (dB (dOp gEq (dCB gStr (dCons (dV 1) (dNil))) (dV 0))) (dV 1) (dC .non))
theorem pure_read_number (ds : List D) (M : Mp) (Q : DK) (E : XE') (h : sp_read_number ds M Q E) : t_read_number (fnW E) { nx := fun _ M' => Wk (Q .non) M', rt := fun d M' => Wk (Q d) M' } (startD N_read_number ds) M := by
  unfold sp_read_number at h
  split at h
  rotate_left
  · exact h.elim
  rename_i s
  obtain ⟨hl, h⟩ := h
  by_cases e : s = ""
  · have e1 : wordD s = .non := wordD_none fun n _ z => nT_ne n (z.symm.trans e)
    rw [e1] at h
    subst e
    simp (config := { decide := false }) only [dgSubD, dgLs, D.wk, endsW, rowP, dCm, dCmK, dMakeV, rhsE, dRaise, dTry, dHds, dAct, dXf, dIsE, dput, dclr, dEndsC, fnW, pl_lint, pl_tint, eqv_lint, eqv_tint, decide_true, decide_false, djItems, seqJ, dLCG, gMul, dEnum, dLC, dYes, wipeD, dFld, fldOf, dSetF, putD, dMake, mkQ, mkQM, isOf, gIn, gIn2, dDct, gSorted, asI, pick, List.filterMap_cons, List.filterMap_nil, List.getElem?_nil, dSeq, dNext, dRet, dIfS, dAsg, dgName, dgTup, dgCons, dgNil, dgSub, dPar, dAug, dDrop, dNever, dOp, gI, gT, gPlus, gAdd, gEq, gNe, gIs, gIs2, gIx, dV, dC, dB, dAnd, dOr, dNot, dAndV, dNotV, dIf, dNeg, dNil, dCons, dTup, dLst, dLstM, dNoPart, dPart, dSl, dCB, dCall, gLen, gAbs, g2, gStrO, gInt, gInt2, dJoin, dSplit, gStr, gDivmod2, gIsTy, gTuple, gList, gAll, dAppend, dItems, itemsOf, dRange1, dFor, D.onB, D.tyn, D.isNon, asL, rsv, kb_di, kb_db, kb_ds, kb_dt, kb_dl, kb_ii, kb_bi, kb_ni, kb_si, kb_ti, kb_li, kb_ib, kb_bb, kb_nb, kb_sb, kb_tb, kb_lb, kb_is, kb_bs, kb_ns, kb_ss, kb_ts, kb_ls, kb_it, kb_bt, kb_nt, kb_st, kb_tt, kb_lt, startD, List.map_cons, List.map_nil, List.length_cons, List.length_nil, List.cons_append, List.nil_append, List.replicate, List.getElem?_cons_zero, List.getElem?_cons_succ, List.set_cons_zero, List.set_cons_succ, List.zip_cons_cons, List.zip_nil_right, List.foldl_cons, List.foldl_nil, Option.bind_some, Option.bind_none, um_same, um_um, Bool.false_eq_true, reduceCtorEq, false_implies, true_implies, forall_const, true_and, and_true, and_self, Bool.not_true, Bool.not_false, implies_true, decide_eq_true_eq, decide_eq_false_iff_not, Bool.not_eq_true, not_true_eq_false, not_false_eq_true, Bool.not_eq_true', Bool.not_eq_false', D.onB, sizeLine_eq, Nat.reduceAdd, Nat.reduceLeDiff, Nat.zero_add, Nat.reduceLT, pl_bl, pl_i, pl_n, eqv_bl, eqv_ii, eqv_nn, ints_inj, exists_eq_left', exists_eq_left, beq_iff_eq, beq_eq_false_iff_ne, ne_eq, true_or, or_true, false_or, or_false, false_and, and_false, if_true, if_false, List.lookup_cons, beq_self_eq_true, t_read_number]
    exact Wk.of h
  · by_cases l80 : (80 : Int) < (s.length : Nat)
    · have e1 : wordD s = .non := wordD_none fun n hn z => by have := nT_len80 hn; rw [← z] at this; omega
      rw [e1] at h
      simp (config := { decide := false }) only [dgSubD, dgLs, D.wk, endsW, rowP, dCm, dCmK, dMakeV, rhsE, dRaise, dTry, dHds, dAct, dXf, dIsE, dput, dclr, dEndsC, fnW, pl_lint, pl_tint, eqv_lint, eqv_tint, decide_true, decide_false, djItems, seqJ, dLCG, gMul, dEnum, dLC, dYes, wipeD, dFld, fldOf, dSetF, putD, dMake, mkQ, mkQM, isOf, gIn, gIn2, dDct, gSorted, asI, pick, List.filterMap_cons, List.filterMap_nil, List.getElem?_nil, dSeq, dNext, dRet, dIfS, dAsg, dgName, dgTup, dgCons, dgNil, dgSub, dPar, dAug, dDrop, dNever, dOp, gI, gT, gPlus, gAdd, gEq, gNe, gIs, gIs2, gIx, dV, dC, dB, dAnd, dOr, dNot, dAndV, dNotV, dIf, dNeg, dNil, dCons, dTup, dLst, dLstM, dNoPart, dPart, dSl, dCB, dCall, gLen, gAbs, g2, gStrO, gInt, gInt2, dJoin, dSplit, gStr, gDivmod2, gIsTy, gTuple, gList, gAll, dAppend, dItems, itemsOf, dRange1, dFor, D.onB, D.tyn, D.isNon, asL, rsv, kb_di, kb_db, kb_ds, kb_dt, kb_dl, kb_ii, kb_bi, kb_ni, kb_si, kb_ti, kb_li, kb_ib, kb_bb, kb_nb, kb_sb, kb_tb, kb_lb, kb_is, kb_bs, kb_ns, kb_ss, kb_ts, kb_ls, kb_it, kb_bt, kb_nt, kb_st, kb_tt, kb_lt, startD, List.map_cons, List.map_nil, List.length_cons, List.length_nil, List.cons_append, List.nil_append, List.replicate, List.getElem?_cons_zero, List.getElem?_cons_succ, List.set_cons_zero, List.set_cons_succ, List.zip_cons_cons, List.zip_nil_right, List.foldl_cons, List.foldl_nil, Option.bind_some, Option.bind_none, um_same, um_um, Bool.false_eq_true, reduceCtorEq, false_implies, true_implies, forall_const, true_and, and_true, and_self, Bool.not_true, Bool.not_false, implies_true, decide_eq_true_eq, decide_eq_false_iff_not, Bool.not_eq_true, not_true_eq_false, not_false_eq_true, Bool.not_eq_true', Bool.not_eq_false', D.onB, sizeLine_eq, Nat.reduceAdd, Nat.reduceLeDiff, Nat.zero_add, Nat.reduceLT, pl_bl, pl_i, pl_n, eqv_bl, eqv_ii, eqv_nn, ints_inj, exists_eq_left', exists_eq_left, beq_iff_eq, beq_eq_false_iff_ne, ne_eq, true_or, or_true, false_or, or_false, false_and, and_false, if_true, if_false, List.lookup_cons, beq_self_eq_true, t_read_number, e, l80]
      exact ⟨by omega, Wk.of h⟩
    · simp (config := { decide := false }) only [dgSubD, dgLs, D.wk, endsW, rowP, dCm, dCmK, dMakeV, rhsE, dRaise, dTry, dHds, dAct, dXf, dIsE, dput, dclr, dEndsC, fnW, pl_lint, pl_tint, eqv_lint, eqv_tint, decide_true, decide_false, djItems, seqJ, dLCG, gMul, dEnum, dLC, dYes, wipeD, dFld, fldOf, dSetF, putD, dMake, mkQ, mkQM, isOf, gIn, gIn2, dDct, gSorted, asI, pick, List.filterMap_cons, List.filterMap_nil, List.getElem?_nil, dSeq, dNext, dRet, dIfS, dAsg, dgName, dgTup, dgCons, dgNil, dgSub, dPar, dAug, dDrop, dNever, dOp, gI, gT, gPlus, gAdd, gEq, gNe, gIs, gIs2, gIx, dV, dC, dB, dAnd, dOr, dNot, dAndV, dNotV, dIf, dNeg, dNil, dCons, dTup, dLst, dLstM, dNoPart, dPart, dSl, dCB, dCall, gLen, gAbs, g2, gStrO, gInt, gInt2, dJoin, dSplit, gStr, gDivmod2, gIsTy, gTuple, gList, gAll, dAppend, dItems, itemsOf, dRange1, dFor, D.onB, D.tyn, D.isNon, asL, rsv, kb_di, kb_db, kb_ds, kb_dt, kb_dl, kb_ii, kb_bi, kb_ni, kb_si, kb_ti, kb_li, kb_ib, kb_bb, kb_nb, kb_sb, kb_tb, kb_lb, kb_is, kb_bs, kb_ns, kb_ss, kb_ts, kb_ls, kb_it, kb_bt, kb_nt, kb_st, kb_tt, kb_lt, startD, List.map_cons, List.map_nil, List.length_cons, List.length_nil, List.cons_append, List.nil_append, List.replicate, List.getElem?_cons_zero, List.getElem?_cons_succ, List.set_cons_zero, List.set_cons_succ, List.zip_cons_cons, List.zip_nil_right, List.foldl_cons, List.foldl_nil, Option.bind_some, Option.bind_none, um_same, um_um, Bool.false_eq_true, reduceCtorEq, false_implies, true_implies, forall_const, true_and, and_true, and_self, Bool.not_true, Bool.not_false, implies_true, decide_eq_true_eq, decide_eq_false_iff_not, Bool.not_eq_true, not_true_eq_false, not_false_eq_true, Bool.not_eq_true', Bool.not_eq_false', D.onB, sizeLine_eq, Nat.reduceAdd, Nat.reduceLeDiff, Nat.zero_add, Nat.reduceLT, pl_bl, pl_i, pl_n, eqv_bl, eqv_ii, eqv_nn, ints_inj, exists_eq_left', exists_eq_left, beq_iff_eq, beq_eq_false_iff_ne, ne_eq, true_or, or_true, false_or, or_false, false_and, and_false, if_true, if_false, List.lookup_cons, beq_self_eq_true, t_read_number, e, l80]
      refine ⟨by omega, ?_⟩
      refine lcG_mapA (f := chrD) (h := D.bl) (L := s.cps.toList) digB (by rw [sizeLine_eq]; have : s.cps.toList.length = s.length := (TL.len_tl s).symm; omega) (fun _ _ _ => True.intro) (fun p hp c hc xs Kk K => ?_) (fun d ρ M P P' hP h => hP _ _ h) fun p hp => ?_
      · simp (config := { decide := false }) only [dgSubD, dgLs, D.wk, endsW, rowP, dCm, dCmK, dMakeV, rhsE, dRaise, dTry, dHds, dAct, dXf, dIsE, dput, dclr, dEndsC, fnW, pl_lint, pl_tint, eqv_lint, eqv_tint, decide_true, decide_false, djItems, seqJ, dLCG, gMul, dEnum, dLC, dYes, wipeD, dFld, fldOf, dSetF, putD, dMake, mkQ, mkQM, isOf, gIn, gIn2, dDct, gSorted, asI, pick, List.filterMap_cons, List.filterMap_nil, List.getElem?_nil, dSeq, dNext, dRet, dIfS, dAsg, dgName, dgTup, dgCons, dgNil, dgSub, dPar, dAug, dDrop, dNever, dOp, gI, gT, gPlus, gAdd, gEq, gNe, gIs, gIs2, gIx, dV, dC, dB, dAnd, dOr, dNot, dAndV, dNotV, dIf, dNeg, dNil, dCons, dTup, dLst, dLstM, dNoPart, dPart, dSl, dCB, dCall, gLen, gAbs, g2, gStrO, gInt, gInt2, dJoin, dSplit, gStr, gDivmod2, gIsTy, gTuple, gList, gAll, dAppend, dItems, itemsOf, dRange1, dFor, D.onB, D.tyn, D.isNon, asL, rsv, kb_di, kb_db, kb_ds, kb_dt, kb_dl, kb_ii, kb_bi, kb_ni, kb_si, kb_ti, kb_li, kb_ib, kb_bb, kb_nb, kb_sb, kb_tb, kb_lb, kb_is, kb_bs, kb_ns, kb_ss, kb_ts, kb_ls, kb_it, kb_bt, kb_nt, kb_st, kb_tt, kb_lt, startD, List.map_cons, List.map_nil, List.length_cons, List.length_nil, List.cons_append, List.nil_append, List.replicate, List.getElem?_cons_zero, List.getElem?_cons_succ, List.set_cons_zero, List.set_cons_succ, List.zip_cons_cons, List.zip_nil_right, List.foldl_cons, List.foldl_nil, Option.bind_some, Option.bind_none, um_same, um_um, Bool.false_eq_true, reduceCtorEq, false_implies, true_implies, forall_const, true_and, and_true, and_self, Bool.not_true, Bool.not_false, implies_true, decide_eq_true_eq, decide_eq_false_iff_not, Bool.not_eq_true, not_true_eq_false, not_false_eq_true, Bool.not_eq_true', Bool.not_eq_false', D.onB, sizeLine_eq, Nat.reduceAdd, Nat.reduceLeDiff, Nat.zero_add, Nat.reduceLT, pl_bl, pl_i, pl_n, eqv_bl, eqv_ii, eqv_nn, ints_inj, exists_eq_left', exists_eq_left, beq_iff_eq, beq_eq_false_iff_ne, ne_eq, true_or, or_true, false_or, or_false, false_and, and_false, if_true, if_false, List.lookup_cons, beq_self_eq_true, chrD, dig_has]
        exact K
      · have ls : s.cps.toList.length = s.length := (TL.len_tl s).symm
        by_cases ad : NumText.AllDigits s.cps.toList
        · have a1 := digs_all.mpr ad
          have ne : s.cps.toList ≠ [] := fun z => e (TL.ext_tl (show TL.tl s = TL.tl "" from z.trans (by decide)))
          have it := PySem.intText_digits ad ne (by omega)
          have lt := dval_lt ad
          have lt80 : NumText.digitsVal s.cps.toList < 10 ^ 80 := Nat.lt_of_lt_of_le lt (Nat.pow_le_pow_right (by decide) (by omega))
          generalize hv : NumText.digitsVal s.cps.toList = v at *
          have lg : ((v : Nat) : Int).natAbs.log2 < 1920 := by
            rw [Int.natAbs_natCast]
            rcases Nat.eq_zero_or_pos v with z | z
            · rw [z]; decide
            · exact (Nat.log2_lt (by omega)).mpr (Nat.lt_of_lt_of_le lt80 (by decide))
          have st : Str.ofString (toString ((v : Nat) : Int)) = nT v := rfl
          simp (config := { decide := false }) only [dgSubD, dgLs, D.wk, endsW, rowP, dCm, dCmK, dMakeV, rhsE, dRaise, dTry, dHds, dAct, dXf, dIsE, dput, dclr, dEndsC, fnW, pl_lint, pl_tint, eqv_lint, eqv_tint, decide_true, decide_false, djItems, seqJ, dLCG, gMul, dEnum, dLC, dYes, wipeD, dFld, fldOf, dSetF, putD, dMake, mkQ, mkQM, isOf, gIn, gIn2, dDct, gSorted, asI, pick, List.filterMap_cons, List.filterMap_nil, List.getElem?_nil, dSeq, dNext, dRet, dIfS, dAsg, dgName, dgTup, dgCons, dgNil, dgSub, dPar, dAug, dDrop, dNever, dOp, gI, gT, gPlus, gAdd, gEq, gNe, gIs, gIs2, gIx, dV, dC, dB, dAnd, dOr, dNot, dAndV, dNotV, dIf, dNeg, dNil, dCons, dTup, dLst, dLstM, dNoPart, dPart, dSl, dCB, dCall, gLen, gAbs, g2, gStrO, gInt, gInt2, dJoin, dSplit, gStr, gDivmod2, gIsTy, gTuple, gList, gAll, dAppend, dItems, itemsOf, dRange1, dFor, D.onB, D.tyn, D.isNon, asL, rsv, kb_di, kb_db, kb_ds, kb_dt, kb_dl, kb_ii, kb_bi, kb_ni, kb_si, kb_ti, kb_li, kb_ib, kb_bb, kb_nb, kb_sb, kb_tb, kb_lb, kb_is, kb_bs, kb_ns, kb_ss, kb_ts, kb_ls, kb_it, kb_bt, kb_nt, kb_st, kb_tt, kb_lt, startD, List.map_cons, List.map_nil, List.length_cons, List.length_nil, List.cons_append, List.nil_append, List.replicate, List.getElem?_cons_zero, List.getElem?_cons_succ, List.set_cons_zero, List.set_cons_succ, List.zip_cons_cons, List.zip_nil_right, List.foldl_cons, List.foldl_nil, Option.bind_some, Option.bind_none, um_same, um_um, Bool.false_eq_true, reduceCtorEq, false_implies, true_implies, forall_const, true_and, and_true, and_self, Bool.not_true, Bool.not_false, implies_true, decide_eq_true_eq, decide_eq_false_iff_not, Bool.not_eq_true, not_true_eq_false, not_false_eq_true, Bool.not_eq_true', Bool.not_eq_false', D.onB, sizeLine_eq, Nat.reduceAdd, Nat.reduceLeDiff, Nat.zero_add, Nat.reduceLT, pl_bl, pl_i, pl_n, eqv_bl, eqv_ii, eqv_nn, ints_inj, exists_eq_left', exists_eq_left, beq_iff_eq, beq_eq_false_iff_ne, ne_eq, true_or, or_true, false_or, or_false, false_and, and_false, if_true, if_false, List.lookup_cons, beq_self_eq_true, dm_um hp, bls_all, a1, it, lg, st]
          refine ⟨by omega, fun z => ?_, fun z => ?_⟩
          · rw [← z, wordD_nT lt80] at h
            exact Wk.of h
          · have e1 : wordD s = .non := wordD_none fun n hn y => z (by
              have : n = v := by rw [← hv, y, tl_nT, TL.numL_val]
              rw [← this, y])
            rw [e1] at h
            exact Wk.of h
        · have a1 : (s.cps.toList.map digB).all id = false := by
            rw [Bool.eq_false_iff]
            exact fun z => ad (digs_all.mp z)
          have e1 : wordD s = .non := wordD_none fun n hn y => ad (by rw [y, tl_nT]; exact TL.numL_digits n)
          rw [e1] at h
          simp (config := { decide := false }) only [dgSubD, dgLs, D.wk, endsW, rowP, dCm, dCmK, dMakeV, rhsE, dRaise, dTry, dHds, dAct, dXf, dIsE, dput, dclr, dEndsC, fnW, pl_lint, pl_tint, eqv_lint, eqv_tint, decide_true, decide_false, djItems, seqJ, dLCG, gMul, dEnum, dLC, dYes, wipeD, dFld, fldOf, dSetF, putD, dMake, mkQ, mkQM, isOf, gIn, gIn2, dDct, gSorted, asI, pick, List.filterMap_cons, List.filterMap_nil, List.getElem?_nil, dSeq, dNext, dRet, dIfS, dAsg, dgName, dgTup, dgCons, dgNil, dgSub, dPar, dAug, dDrop, dNever, dOp, gI, gT, gPlus, gAdd, gEq, gNe, gIs, gIs2, gIx, dV, dC, dB, dAnd, dOr, dNot, dAndV, dNotV, dIf, dNeg, dNil, dCons, dTup, dLst, dLstM, dNoPart, dPart, dSl, dCB, dCall, gLen, gAbs, g2, gStrO, gInt, gInt2, dJoin, dSplit, gStr, gDivmod2, gIsTy, gTuple, gList, gAll, dAppend, dItems, itemsOf, dRange1, dFor, D.onB, D.tyn, D.isNon, asL, rsv, kb_di, kb_db, kb_ds, kb_dt, kb_dl, kb_ii, kb_bi, kb_ni, kb_si, kb_ti, kb_li, kb_ib, kb_bb, kb_nb, kb_sb, kb_tb, kb_lb, kb_is, kb_bs, kb_ns, kb_ss, kb_ts, kb_ls, kb_it, kb_bt, kb_nt, kb_st, kb_tt, kb_lt, startD, List.map_cons, List.map_nil, List.length_cons, List.length_nil, List.cons_append, List.nil_append, List.replicate, List.getElem?_cons_zero, List.getElem?_cons_succ, List.set_cons_zero, List.set_cons_succ, List.zip_cons_cons, List.zip_nil_right, List.foldl_cons, List.foldl_nil, Option.bind_some, Option.bind_none, um_same, um_um, Bool.false_eq_true, reduceCtorEq, false_implies, true_implies, forall_const, true_and, and_true, and_self, Bool.not_true, Bool.not_false, implies_true, decide_eq_true_eq, decide_eq_false_iff_not, Bool.not_eq_true, not_true_eq_false, not_false_eq_true, Bool.not_eq_true', Bool.not_eq_false', D.onB, sizeLine_eq, Nat.reduceAdd, Nat.reduceLeDiff, Nat.zero_add, Nat.reduceLT, pl_bl, pl_i, pl_n, eqv_bl, eqv_ii, eqv_nn, ints_inj, exists_eq_left', exists_eq_left, beq_iff_eq, beq_eq_false_iff_ne, ne_eq, true_or, or_true, false_or, or_false, false_and, and_false, if_true, if_false, List.lookup_cons, beq_self_eq_true, dm_um hp, bls_all, a1]
          exact Wk.of h
/-- a value of any kind, a dict of texts too -/
def knH : D → Bool
  | .dcs _ _ => true
  | d => knB d
abbrev N_read_lot : List Str := ["text", "primes", "word"]
def sp_read_lot : DSp := fun ds M Q E => match ds with
  | [d] => (∀ s, d = .str s → s.length ≤ 1000000) ∧ knH d = true ∧ (∀ ps, pgOk d ps → Q (.tup (ps.map .int)) M) ∧ ((∀ ps, ¬ pgOk d ps) → Q .non M)
  | _ => False
theorem len_read_lot : ∀ ds M Q E, sp_read_lot ds M Q E → ds.length = 1 := fun ds M Q E h => by
  unfold sp_read_lot at h; split at h <;> first | rfl | exact h.elim
def t_read_lot (W : DW') : TDS :=
  dSeq (dIfS (dNot (dB (dCB gIsTyH (dCons (dV 0) (dCons (dC (.ty "str")) (dNil)))))) (dRet (dC .non)) (dNext)) <|
  dSeq (dAsg (dCB gTuple (dCons (dLC [2] 2 (dItems (dSplit (dV 0) (dC (.str " ")))) (dYes) (dCall sp_read_number noW (dCons (dV 2) (dNil)))) (dNil))) (dgName 1)) <|
  dRet (dIf (dB (dOp gEq (dCall sp_wrong_prime W (dCons (dV 1) (dNil))) (dTup (dNil)))) (dV 1) (dC .non))
theorem pure_read_lot (ds : List D) (M : Mp) (Q : DK) (E : XE') (h : sp_read_lot ds M Q E) : t_read_lot (fnW E) { nx := fun _ M' => Wk (Q .non) M', rt := fun d M' => Wk (Q d) M' } (startD N_read_lot ds) M := by
  unfold sp_read_lot at h
  split at h
  rotate_left
  · exact h.elim
  rename_i d
  obtain ⟨hl, ht, h1, h2⟩ := h
  cases d
  case str s =>
    have ls := hl s rfl
    have sl : ((" " : Str).length = 0) = False := by decide
    have ss := split_sum s
    have ty : (D.str s).tynH M = some "str" := rfl
    simp (config := { decide := false }) only [dgSubD, dgLs, D.wk, endsW, rowP, dCm, dCmK, dMakeV, rhsE, dRaise, dTry, dHds, dAct, dXf, dIsE, dput, dclr, dEndsC, fnW, pl_lint, pl_tint, eqv_lint, eqv_tint, decide_true, decide_false, djItems, seqJ, dLCG, gMul, dEnum, dLC, dYes, wipeD, dFld, fldOf, dSetF, putD, dMake, mkQ, mkQM, isOf, gIn, gIn2, dDct, gSorted, asI, pick, List.filterMap_cons, List.filterMap_nil, List.getElem?_nil, dSeq, dNext, dRet, dIfS, dAsg, dgName, dgTup, dgCons, dgNil, dgSub, dPar, dAug, dDrop, dNever, dOp, gI, gT, gPlus, gAdd, gEq, gNe, gIs, gIs2, gIx, dV, dC, dB, dAnd, dOr, dNot, dAndV, dNotV, dIf, dNeg, dNil, dCons, dTup, dLst, dLstM, dNoPart, dPart, dSl, dCB, dCall, gLen, gAbs, g2, gStrO, gInt, gInt2, dJoin, dSplit, gStr, gDivmod2, gIsTy, gTuple, gList, gAll, dAppend, dItems, itemsOf, dRange1, dFor, D.onB, D.tyn, D.isNon, asL, rsv, kb_di, kb_db, kb_ds, kb_dt, kb_dl, kb_ii, kb_bi, kb_ni, kb_si, kb_ti, kb_li, kb_ib, kb_bb, kb_nb, kb_sb, kb_tb, kb_lb, kb_is, kb_bs, kb_ns, kb_ss, kb_ts, kb_ls, kb_it, kb_bt, kb_nt, kb_st, kb_tt, kb_lt, startD, List.map_cons, List.map_nil, List.length_cons, List.length_nil, List.cons_append, List.nil_append, List.replicate, List.getElem?_cons_zero, List.getElem?_cons_succ, List.set_cons_zero, List.set_cons_succ, List.zip_cons_cons, List.zip_nil_right, List.foldl_cons, List.foldl_nil, Option.bind_some, Option.bind_none, um_same, um_um, Bool.false_eq_true, reduceCtorEq, false_implies, true_implies, forall_const, true_and, and_true, and_self, Bool.not_true, Bool.not_false, implies_true, decide_eq_true_eq, decide_eq_false_iff_not, Bool.not_eq_true, not_true_eq_false, not_false_eq_true, Bool.not_eq_true', Bool.not_eq_false', D.onB, sizeLine_eq, Nat.reduceAdd, Nat.reduceLeDiff, Nat.zero_add, Nat.reduceLT, pl_bl, pl_i, pl_n, eqv_bl, eqv_ii, eqv_nn, ints_inj, exists_eq_left', exists_eq_left, beq_iff_eq, beq_eq_false_iff_ne, ne_eq, true_or, or_true, false_or, or_false, false_and, and_false, if_true, if_false, List.lookup_cons, beq_self_eq_true, t_read_lot, sl, ty]
    refine ⟨fun z => (by cases z), fun _ => ⟨by omega, ?_⟩⟩
    refine lc_mapA (f := D.str) (h := id) (L := Txt.split s " ") wordD (by rw [sizeLine_eq]; omega) (fun p hp w hw xs Kk K => ?_) fun p hp => ?_
    · have := word_len hw
      simp (config := { decide := false }) only [dgSubD, dgLs, D.wk, endsW, rowP, dCm, dCmK, dMakeV, rhsE, dRaise, dTry, dHds, dAct, dXf, dIsE, dput, dclr, dEndsC, fnW, pl_lint, pl_tint, eqv_lint, eqv_tint, decide_true, decide_false, djItems, seqJ, dLCG, gMul, dEnum, dLC, dYes, wipeD, dFld, fldOf, dSetF, putD, dMake, mkQ, mkQM, isOf, gIn, gIn2, dDct, gSorted, asI, pick, List.filterMap_cons, List.filterMap_nil, List.getElem?_nil, dSeq, dNext, dRet, dIfS, dAsg, dgName, dgTup, dgCons, dgNil, dgSub, dPar, dAug, dDrop, dNever, dOp, gI, gT, gPlus, gAdd, gEq, gNe, gIs, gIs2, gIx, dV, dC, dB, dAnd, dOr, dNot, dAndV, dNotV, dIf, dNeg, dNil, dCons, dTup, dLst, dLstM, dNoPart, dPart, dSl, dCB, dCall, gLen, gAbs, g2, gStrO, gInt, gInt2, dJoin, dSplit, gStr, gDivmod2, gIsTy, gTuple, gList, gAll, dAppend, dItems, itemsOf, dRange1, dFor, D.onB, D.tyn, D.isNon, asL, rsv, kb_di, kb_db, kb_ds, kb_dt, kb_dl, kb_ii, kb_bi, kb_ni, kb_si, kb_ti, kb_li, kb_ib, kb_bb, kb_nb, kb_sb, kb_tb, kb_lb, kb_is, kb_bs, kb_ns, kb_ss, kb_ts, kb_ls, kb_it, kb_bt, kb_nt, kb_st, kb_tt, kb_lt, startD, List.map_cons, List.map_nil, List.length_cons, List.length_nil, List.cons_append, List.nil_append, List.replicate, List.getElem?_cons_zero, List.getElem?_cons_succ, List.set_cons_zero, List.set_cons_succ, List.zip_cons_cons, List.zip_nil_right, List.foldl_cons, List.foldl_nil, Option.bind_some, Option.bind_none, um_same, um_um, Bool.false_eq_true, reduceCtorEq, false_implies, true_implies, forall_const, true_and, and_true, and_self, Bool.not_true, Bool.not_false, implies_true, decide_eq_true_eq, decide_eq_false_iff_not, Bool.not_eq_true, not_true_eq_false, not_false_eq_true, Bool.not_eq_true', Bool.not_eq_false', D.onB, sizeLine_eq, Nat.reduceAdd, Nat.reduceLeDiff, Nat.zero_add, Nat.reduceLT, pl_bl, pl_i, pl_n, eqv_bl, eqv_ii, eqv_nn, ints_inj, exists_eq_left', exists_eq_left, beq_iff_eq, beq_eq_false_iff_ne, ne_eq, true_or, or_true, false_or, or_false, false_and, and_false, if_true, if_false, List.lookup_cons, beq_self_eq_true, sp_read_number]
      exact ⟨by omega, K⟩
    · rw [List.map_id]
      have kn : ∀ x ∈ (Txt.split s " ").map wordD, knB x = true := fun x hx => by obtain ⟨w, _, rfl⟩ := List.mem_map.mp hx; exact wordD_kn w
      have hne : (Txt.split s " ").map wordD ≠ [] := by simpa using split_ne s
      cases e : wrP 0 1 1 ((Txt.split s " ").map wordD) with
      | none =>
        obtain ⟨ps, ep, ok⟩ := wrP_none e
        have ne : ps ≠ [] := fun z => hne (by rw [ep, z]; rfl)
        have hq := h1 ps ⟨ok, ne, by rw [pg_words ep]⟩
        simp (config := { decide := false }) only [dgSubD, dgLs, D.wk, endsW, rowP, dCm, dCmK, dMakeV, rhsE, dRaise, dTry, dHds, dAct, dXf, dIsE, dput, dclr, dEndsC, fnW, pl_lint, pl_tint, eqv_lint, eqv_tint, decide_true, decide_false, djItems, seqJ, dLCG, gMul, dEnum, dLC, dYes, wipeD, dFld, fldOf, dSetF, putD, dMake, mkQ, mkQM, isOf, gIn, gIn2, dDct, gSorted, asI, pick, List.filterMap_cons, List.filterMap_nil, List.getElem?_nil, dSeq, dNext, dRet, dIfS, dAsg, dgName, dgTup, dgCons, dgNil, dgSub, dPar, dAug, dDrop, dNever, dOp, gI, gT, gPlus, gAdd, gEq, gNe, gIs, gIs2, gIx, dV, dC, dB, dAnd, dOr, dNot, dAndV, dNotV, dIf, dNeg, dNil, dCons, dTup, dLst, dLstM, dNoPart, dPart, dSl, dCB, dCall, gLen, gAbs, g2, gStrO, gInt, gInt2, dJoin, dSplit, gStr, gDivmod2, gIsTy, gTuple, gList, gAll, dAppend, dItems, itemsOf, dRange1, dFor, D.onB, D.tyn, D.isNon, asL, rsv, kb_di, kb_db, kb_ds, kb_dt, kb_dl, kb_ii, kb_bi, kb_ni, kb_si, kb_ti, kb_li, kb_ib, kb_bb, kb_nb, kb_sb, kb_tb, kb_lb, kb_is, kb_bs, kb_ns, kb_ss, kb_ts, kb_ls, kb_it, kb_bt, kb_nt, kb_st, kb_tt, kb_lt, startD, List.map_cons, List.map_nil, List.length_cons, List.length_nil, List.cons_append, List.nil_append, List.replicate, List.getElem?_cons_zero, List.getElem?_cons_succ, List.set_cons_zero, List.set_cons_succ, List.zip_cons_cons, List.zip_nil_right, List.foldl_cons, List.foldl_nil, Option.bind_some, Option.bind_none, um_same, um_um, Bool.false_eq_true, reduceCtorEq, false_implies, true_implies, forall_const, true_and, and_true, and_self, Bool.not_true, Bool.not_false, implies_true, decide_eq_true_eq, decide_eq_false_iff_not, Bool.not_eq_true, not_true_eq_false, not_false_eq_true, Bool.not_eq_true', Bool.not_eq_false', D.onB, sizeLine_eq, Nat.reduceAdd, Nat.reduceLeDiff, Nat.zero_add, Nat.reduceLT, pl_bl, pl_i, pl_n, eqv_bl, eqv_ii, eqv_nn, ints_inj, exists_eq_left', exists_eq_left, beq_iff_eq, beq_eq_false_iff_ne, ne_eq, true_or, or_true, false_or, or_false, false_and, and_false, if_true, if_false, List.lookup_cons, beq_self_eq_true, dm_um hp, sp_wrong_prime, e]
        refine ⟨kn, hne, rfl, fun _ => by rw [ep]; exact Wk.of hq, fun c => ?_⟩
        rw [eqv_self (n := 12) (d := .tup []) rfl] at c
        cases c
      | some k =>
        have hq := h2 fun ps hp => by rw [pg_wr hp, wrP_ok hp.1] at e; cases e
        simp (config := { decide := false }) only [dgSubD, dgLs, D.wk, endsW, rowP, dCm, dCmK, dMakeV, rhsE, dRaise, dTry, dHds, dAct, dXf, dIsE, dput, dclr, dEndsC, fnW, pl_lint, pl_tint, eqv_lint, eqv_tint, decide_true, decide_false, djItems, seqJ, dLCG, gMul, dEnum, dLC, dYes, wipeD, dFld, fldOf, dSetF, putD, dMake, mkQ, mkQM, isOf, gIn, gIn2, dDct, gSorted, asI, pick, List.filterMap_cons, List.filterMap_nil, List.getElem?_nil, dSeq, dNext, dRet, dIfS, dAsg, dgName, dgTup, dgCons, dgNil, dgSub, dPar, dAug, dDrop, dNever, dOp, gI, gT, gPlus, gAdd, gEq, gNe, gIs, gIs2, gIx, dV, dC, dB, dAnd, dOr, dNot, dAndV, dNotV, dIf, dNeg, dNil, dCons, dTup, dLst, dLstM, dNoPart, dPart, dSl, dCB, dCall, gLen, gAbs, g2, gStrO, gInt, gInt2, dJoin, dSplit, gStr, gDivmod2, gIsTy, gTuple, gList, gAll, dAppend, dItems, itemsOf, dRange1, dFor, D.onB, D.tyn, D.isNon, asL, rsv, kb_di, kb_db, kb_ds, kb_dt, kb_dl, kb_ii, kb_bi, kb_ni, kb_si, kb_ti, kb_li, kb_ib, kb_bb, kb_nb, kb_sb, kb_tb, kb_lb, kb_is, kb_bs, kb_ns, kb_ss, kb_ts, kb_ls, kb_it, kb_bt, kb_nt, kb_st, kb_tt, kb_lt, startD, List.map_cons, List.map_nil, List.length_cons, List.length_nil, List.cons_append, List.nil_append, List.replicate, List.getElem?_cons_zero, List.getElem?_cons_succ, List.set_cons_zero, List.set_cons_succ, List.zip_cons_cons, List.zip_nil_right, List.foldl_cons, List.foldl_nil, Option.bind_some, Option.bind_none, um_same, um_um, Bool.false_eq_true, reduceCtorEq, false_implies, true_implies, forall_const, true_and, and_true, and_self, Bool.not_true, Bool.not_false, implies_true, decide_eq_true_eq, decide_eq_false_iff_not, Bool.not_eq_true, not_true_eq_false, not_false_eq_true, Bool.not_eq_true', Bool.not_eq_false', D.onB, sizeLine_eq, Nat.reduceAdd, Nat.reduceLeDiff, Nat.zero_add, Nat.reduceLT, pl_bl, pl_i, pl_n, eqv_bl, eqv_ii, eqv_nn, ints_inj, exists_eq_left', exists_eq_left, beq_iff_eq, beq_eq_false_iff_ne, ne_eq, true_or, or_true, false_or, or_false, false_and, and_false, if_true, if_false, List.lookup_cons, beq_self_eq_true, dm_um hp, sp_wrong_prime, e, eqv_tup0]
        refine ⟨kn, hne, by simp [D.pl, pls], Wk.of hq⟩
  case dcs ks xs =>
    have hq := h2 fun ps hp => by cases hp.2.2
    have ty : (D.dcs ks xs).tynH M = some "dict" := rfl
    simp (config := { decide := false }) only [dgSubD, dgLs, D.wk, endsW, rowP, dCm, dCmK, dMakeV, rhsE, dRaise, dTry, dHds, dAct, dXf, dIsE, dput, dclr, dEndsC, fnW, pl_lint, pl_tint, eqv_lint, eqv_tint, decide_true, decide_false, djItems, seqJ, dLCG, gMul, dEnum, dLC, dYes, wipeD, dFld, fldOf, dSetF, putD, dMake, mkQ, mkQM, isOf, gIn, gIn2, dDct, gSorted, asI, pick, List.filterMap_cons, List.filterMap_nil, List.getElem?_nil, dSeq, dNext, dRet, dIfS, dAsg, dgName, dgTup, dgCons, dgNil, dgSub, dPar, dAug, dDrop, dNever, dOp, gI, gT, gPlus, gAdd, gEq, gNe, gIs, gIs2, gIx, dV, dC, dB, dAnd, dOr, dNot, dAndV, dNotV, dIf, dNeg, dNil, dCons, dTup, dLst, dLstM, dNoPart, dPart, dSl, dCB, dCall, gLen, gAbs, g2, gStrO, gInt, gInt2, dJoin, dSplit, gStr, gDivmod2, gIsTy, gTuple, gList, gAll, dAppend, dItems, itemsOf, dRange1, dFor, D.onB, D.tyn, D.isNon, asL, rsv, kb_di, kb_db, kb_ds, kb_dt, kb_dl, kb_ii, kb_bi, kb_ni, kb_si, kb_ti, kb_li, kb_ib, kb_bb, kb_nb, kb_sb, kb_tb, kb_lb, kb_is, kb_bs, kb_ns, kb_ss, kb_ts, kb_ls, kb_it, kb_bt, kb_nt, kb_st, kb_tt, kb_lt, startD, List.map_cons, List.map_nil, List.length_cons, List.length_nil, List.cons_append, List.nil_append, List.replicate, List.getElem?_cons_zero, List.getElem?_cons_succ, List.set_cons_zero, List.set_cons_succ, List.zip_cons_cons, List.zip_nil_right, List.foldl_cons, List.foldl_nil, Option.bind_some, Option.bind_none, um_same, um_um, Bool.false_eq_true, reduceCtorEq, false_implies, true_implies, forall_const, true_and, and_true, and_self, Bool.not_true, Bool.not_false, implies_true, decide_eq_true_eq, decide_eq_false_iff_not, Bool.not_eq_true, not_true_eq_false, not_false_eq_true, Bool.not_eq_true', Bool.not_eq_false', D.onB, sizeLine_eq, Nat.reduceAdd, Nat.reduceLeDiff, Nat.zero_add, Nat.reduceLT, pl_bl, pl_i, pl_n, eqv_bl, eqv_ii, eqv_nn, ints_inj, exists_eq_left', exists_eq_left, beq_iff_eq, beq_eq_false_iff_ne, ne_eq, true_or, or_true, false_or, or_false, false_and, and_false, if_true, if_false, List.lookup_cons, beq_self_eq_true, t_read_lot, ty]
    exact ⟨fun _ => Wk.of hq, fun z => (by cases z)⟩
  all_goals first
    | exact absurd ht Bool.false_ne_true
    | skip
  all_goals
    have hq := h2 fun ps hp => by cases hp.2.2
    simp (config := { decide := false }) only [dgSubD, dgLs, D.wk, endsW, rowP, dCm, dCmK, dMakeV, rhsE, dRaise, dTry, dHds, dAct, dXf, dIsE, dput, dclr, dEndsC, fnW, pl_lint, pl_tint, eqv_lint, eqv_tint, decide_true, decide_false, djItems, seqJ, dLCG, gMul, dEnum, dLC, dYes, wipeD, dFld, fldOf, dSetF, putD, dMake, mkQ, mkQM, isOf, gIn, gIn2, dDct, gSorted, asI, pick, List.filterMap_cons, List.filterMap_nil, List.getElem?_nil, dSeq, dNext, dRet, dIfS, dAsg, dgName, dgTup, dgCons, dgNil, dgSub, dPar, dAug, dDrop, dNever, dOp, gI, gT, gPlus, gAdd, gEq, gNe, gIs, gIs2, gIx, dV, dC, dB, dAnd, dOr, dNot, dAndV, dNotV, dIf, dNeg, dNil, dCons, dTup, dLst, dLstM, dNoPart, dPart, dSl, dCB, dCall, gLen, gAbs, g2, gStrO, gInt, gInt2, dJoin, dSplit, gStr, gDivmod2, gIsTy, gTuple, gList, gAll, dAppend, dItems, itemsOf, dRange1, dFor, D.onB, D.tyn, D.isNon, asL, rsv, kb_di, kb_db, kb_ds, kb_dt, kb_dl, kb_ii, kb_bi, kb_ni, kb_si, kb_ti, kb_li, kb_ib, kb_bb, kb_nb, kb_sb, kb_tb, kb_lb, kb_is, kb_bs, kb_ns, kb_ss, kb_ts, kb_ls, kb_it, kb_bt, kb_nt, kb_st, kb_tt, kb_lt, startD, List.map_cons, List.map_nil, List.length_cons, List.length_nil, List.cons_append, List.nil_append, List.replicate, List.getElem?_cons_zero, List.getElem?_cons_succ, List.set_cons_zero, List.set_cons_succ, List.zip_cons_cons, List.zip_nil_right, List.foldl_cons, List.foldl_nil, Option.bind_some, Option.bind_none, um_same, um_um, Bool.false_eq_true, reduceCtorEq, false_implies, true_implies, forall_const, true_and, and_true, and_self, Bool.not_true, Bool.not_false, implies_true, decide_eq_true_eq, decide_eq_false_iff_not, Bool.not_eq_true, not_true_eq_false, not_false_eq_true, Bool.not_eq_true', Bool.not_eq_false', D.onB, sizeLine_eq, Nat.reduceAdd, Nat.reduceLeDiff, Nat.zero_add, Nat.reduceLT, pl_bl, pl_i, pl_n, eqv_bl, eqv_ii, eqv_nn, ints_inj, exists_eq_left', exists_eq_left, beq_iff_eq, beq_eq_false_iff_ne, ne_eq, true_or, or_true, false_or, or_false, false_and, and_false, if_true, if_false, List.lookup_cons, beq_self_eq_true, t_read_lot, D.tynH]
    exact ⟨fun _ => Wk.of hq, fun z => (by cases z)⟩
abbrev N_Lot_read : List Str := ["cls", "text", "found"]
def sp_Lot_read : DSp := fun ds M Q E => match ds with
  | [.cls c, d] => c = "Lot" ∧ (∀ s, d = .str s → s.length ≤ 1000000) ∧ knH d = true ∧ (∀ ps, pgOk d ps → Q (lotD ps) M) ∧ ((∀ ps, ¬ pgOk d ps) → E ⟨"InvalidText", [("given", d)]⟩ M)
  | _ => False
theorem len_Lot_read : ∀ ds M Q E, sp_Lot_read ds M Q E → ds.length = 2 := fun ds M Q E h => by
  unfold sp_Lot_read at h; split at h <;> first | rfl | exact h.elim
def t_Lot_read (W : DW') : TDS :=
  dSeq (dAsg (dCall sp_read_lot W (dCons (dV 1) (dNil))) (dgName 2)) <|
  dSeq (dIfS (dB (dOp gIs2 (dV 2) (dC .non))) (dRaise "InvalidText" "given" W (dCons (dV 1) (dNil))) (dNext)) <|
  dRet (dMakeV 0 "Lot" sp_Lot___init W (dCons (dV 2) (dNil)))
theorem pure_Lot_read (ds : List D) (M : Mp) (Q : DK) (E : XE') (h : sp_Lot_read ds M Q E) : t_Lot_read (fnW E) { nx := fun _ M' => Wk (Q .non) M', rt := fun d M' => Wk (Q d) M' } (startD N_Lot_read ds) M := by
  unfold sp_Lot_read at h
  split at h
  rotate_left
  · exact h.elim
  rename_i c d
  obtain ⟨rfl, hl, ht, h1, h2⟩ := h
  have lo : ∀ ps : List Int, D.inst (Str.ofString "Lot") [Str.ofString "row", Str.ofString "whole"] [D.tup (List.map D.int ps), D.int (prodL ps)] = lotD ps := fun _ => rfl
  by_cases ex : ∃ ps, pgOk d ps
  · obtain ⟨ps, hp⟩ := ex
    unfold t_Lot_read
    simp (config := { decide := false }) only [dgSubD, dgLs, D.wk, endsW, rowP, dCm, dCmK, dMakeV, rhsE, dRaise, dTry, dHds, dAct, dXf, dIsE, dput, dclr, dEndsC, fnW, pl_lint, pl_tint, eqv_lint, eqv_tint, decide_true, decide_false, djItems, seqJ, dLCG, gMul, dEnum, dLC, dYes, wipeD, dFld, fldOf, dSetF, putD, dMake, mkQ, mkQM, isOf, gIn, gIn2, dDct, gSorted, asI, pick, List.filterMap_cons, List.filterMap_nil, List.getElem?_nil, dSeq, dNext, dRet, dIfS, dAsg, dgName, dgTup, dgCons, dgNil, dgSub, dPar, dAug, dDrop, dNever, dOp, gI, gT, gPlus, gAdd, gEq, gNe, gIs, gIs2, gIx, dV, dC, dB, dAnd, dOr, dNot, dAndV, dNotV, dIf, dNeg, dNil, dCons, dTup, dLst, dLstM, dNoPart, dPart, dSl, dCB, dCall, gLen, gAbs, g2, gStrO, gInt, gInt2, dJoin, dSplit, gStr, gDivmod2, gIsTy, gTuple, gList, gAll, dAppend, dItems, itemsOf, dRange1, dFor, D.onB, D.tyn, D.isNon, asL, rsv, kb_di, kb_db, kb_ds, kb_dt, kb_dl, kb_ii, kb_bi, kb_ni, kb_si, kb_ti, kb_li, kb_ib, kb_bb, kb_nb, kb_sb, kb_tb, kb_lb, kb_is, kb_bs, kb_ns, kb_ss, kb_ts, kb_ls, kb_it, kb_bt, kb_nt, kb_st, kb_tt, kb_lt, startD, List.map_cons, List.map_nil, List.length_cons, List.length_nil, List.cons_append, List.nil_append, List.replicate, List.getElem?_cons_zero, List.getElem?_cons_succ, List.set_cons_zero, List.set_cons_succ, List.zip_cons_cons, List.zip_nil_right, List.foldl_cons, List.foldl_nil, Option.bind_some, Option.bind_none, um_same, um_um, Bool.false_eq_true, reduceCtorEq, false_implies, true_implies, forall_const, true_and, and_true, and_self, Bool.not_true, Bool.not_false, implies_true, decide_eq_true_eq, decide_eq_false_iff_not, Bool.not_eq_true, not_true_eq_false, not_false_eq_true, Bool.not_eq_true', Bool.not_eq_false', D.onB, sizeLine_eq, Nat.reduceAdd, Nat.reduceLeDiff, Nat.zero_add, Nat.reduceLT, pl_bl, pl_i, pl_n, eqv_bl, eqv_ii, eqv_nn, ints_inj, exists_eq_left', exists_eq_left, beq_iff_eq, beq_eq_false_iff_ne, ne_eq, true_or, or_true, false_or, or_false, false_and, and_false, if_true, if_false, List.lookup_cons, beq_self_eq_true, sp_read_lot, sp_Lot___init, lo]
    refine ⟨hl, ht, fun qs hq => fun x hx => ⟨hq.1, hq.2.1, ?_⟩, fun no => absurd hp (no ps)⟩
    rw [dm_um hx]
    exact Wk.of (h1 qs hq)
  · have no : ∀ ps, ¬ pgOk d ps := fun ps hp => ex ⟨ps, hp⟩
    unfold t_Lot_read
    simp (config := { decide := false }) only [dgSubD, dgLs, D.wk, endsW, rowP, dCm, dCmK, dMakeV, rhsE, dRaise, dTry, dHds, dAct, dXf, dIsE, dput, dclr, dEndsC, fnW, pl_lint, pl_tint, eqv_lint, eqv_tint, decide_true, decide_false, djItems, seqJ, dLCG, gMul, dEnum, dLC, dYes, wipeD, dFld, fldOf, dSetF, putD, dMake, mkQ, mkQM, isOf, gIn, gIn2, dDct, gSorted, asI, pick, List.filterMap_cons, List.filterMap_nil, List.getElem?_nil, dSeq, dNext, dRet, dIfS, dAsg, dgName, dgTup, dgCons, dgNil, dgSub, dPar, dAug, dDrop, dNever, dOp, gI, gT, gPlus, gAdd, gEq, gNe, gIs, gIs2, gIx, dV, dC, dB, dAnd, dOr, dNot, dAndV, dNotV, dIf, dNeg, dNil, dCons, dTup, dLst, dLstM, dNoPart, dPart, dSl, dCB, dCall, gLen, gAbs, g2, gStrO, gInt, gInt2, dJoin, dSplit, gStr, gDivmod2, gIsTy, gTuple, gList, gAll, dAppend, dItems, itemsOf, dRange1, dFor, D.onB, D.tyn, D.isNon, asL, rsv, kb_di, kb_db, kb_ds, kb_dt, kb_dl, kb_ii, kb_bi, kb_ni, kb_si, kb_ti, kb_li, kb_ib, kb_bb, kb_nb, kb_sb, kb_tb, kb_lb, kb_is, kb_bs, kb_ns, kb_ss, kb_ts, kb_ls, kb_it, kb_bt, kb_nt, kb_st, kb_tt, kb_lt, startD, List.map_cons, List.map_nil, List.length_cons, List.length_nil, List.cons_append, List.nil_append, List.replicate, List.getElem?_cons_zero, List.getElem?_cons_succ, List.set_cons_zero, List.set_cons_succ, List.zip_cons_cons, List.zip_nil_right, List.foldl_cons, List.foldl_nil, Option.bind_some, Option.bind_none, um_same, um_um, Bool.false_eq_true, reduceCtorEq, false_implies, true_implies, forall_const, true_and, and_true, and_self, Bool.not_true, Bool.not_false, implies_true, decide_eq_true_eq, decide_eq_false_iff_not, Bool.not_eq_true, not_true_eq_false, not_false_eq_true, Bool.not_eq_true', Bool.not_eq_false', D.onB, sizeLine_eq, Nat.reduceAdd, Nat.reduceLeDiff, Nat.zero_add, Nat.reduceLT, pl_bl, pl_i, pl_n, eqv_bl, eqv_ii, eqv_nn, ints_inj, exists_eq_left', exists_eq_left, beq_iff_eq, beq_eq_false_iff_ne, ne_eq, true_or, or_true, false_or, or_false, false_and, and_false, if_true, if_false, List.lookup_cons, beq_self_eq_true, sp_read_lot, sp_Lot___init]
    exact ⟨hl, ht, fun ps hp => absurd hp (no ps), fun _ => h2 no⟩
abbrev N_Lot___str : List Str := ["self", "prime"]
def sp_Lot___str : DSp := fun ds M Q E => match ds with
  | [d] => ∃ ps : List Int, d = lotD ps ∧ AllP ps ∧ ps.length ≤ 1000 ∧ Q (.str (rowS ps)) M
  | _ => False
theorem len_Lot___str : ∀ ds M Q E, sp_Lot___str ds M Q E → ds.length = 1 := fun ds M Q E h => by
  unfold sp_Lot___str at h; split at h <;> first | rfl | exact h.elim
def t_Lot___str (W : DW') : TDS :=
  dRet (dJoin (dC (.str " ")) (dLC [1] 1 (dItems (dFld "Lot" "row" (dV 0))) (dYes) (dCB gStr (dCons (dV 1) (dNil)))))
theorem pure_Lot___str (ds : List D) (M : Mp) (Q : DK) (E : XE') (h : sp_Lot___str ds M Q E) : t_Lot___str (fnW E) { nx := fun _ M' => Wk (Q .non) M', rt := fun d M' => Wk (Q d) M' } (startD N_Lot___str ds) M := by
  unfold sp_Lot___str at h
  split at h
  rotate_left
  · exact h.elim
  rename_i d
  obtain ⟨ps, rfl, al, hl, h⟩ := h
  simp (config := { decide := false }) only [dgSubD, dgLs, D.wk, endsW, rowP, dCm, dCmK, dMakeV, rhsE, dRaise, dTry, dHds, dAct, dXf, dIsE, dput, dclr, dEndsC, fnW, pl_lint, pl_tint, eqv_lint, eqv_tint, decide_true, decide_false, djItems, seqJ, dLCG, gMul, dEnum, dLC, dYes, wipeD, dFld, fldOf, dSetF, putD, dMake, mkQ, mkQM, isOf, gIn, gIn2, dDct, gSorted, asI, pick, List.filterMap_cons, List.filterMap_nil, List.getElem?_nil, dSeq, dNext, dRet, dIfS, dAsg, dgName, dgTup, dgCons, dgNil, dgSub, dPar, dAug, dDrop, dNever, dOp, gI, gT, gPlus, gAdd, gEq, gNe, gIs, gIs2, gIx, dV, dC, dB, dAnd, dOr, dNot, dAndV, dNotV, dIf, dNeg, dNil, dCons, dTup, dLst, dLstM, dNoPart, dPart, dSl, dCB, dCall, gLen, gAbs, g2, gStrO, gInt, gInt2, dJoin, dSplit, gStr, gDivmod2, gIsTy, gTuple, gList, gAll, dAppend, dItems, itemsOf, dRange1, dFor, D.onB, D.tyn, D.isNon, asL, rsv, kb_di, kb_db, kb_ds, kb_dt, kb_dl, kb_ii, kb_bi, kb_ni, kb_si, kb_ti, kb_li, kb_ib, kb_bb, kb_nb, kb_sb, kb_tb, kb_lb, kb_is, kb_bs, kb_ns, kb_ss, kb_ts, kb_ls, kb_it, kb_bt, kb_nt, kb_st, kb_tt, kb_lt, startD, List.map_cons, List.map_nil, List.length_cons, List.length_nil, List.cons_append, List.nil_append, List.replicate, List.getElem?_cons_zero, List.getElem?_cons_succ, List.set_cons_zero, List.set_cons_succ, List.zip_cons_cons, List.zip_nil_right, List.foldl_cons, List.foldl_nil, Option.bind_some, Option.bind_none, um_same, um_um, Bool.false_eq_true, reduceCtorEq, false_implies, true_implies, forall_const, true_and, and_true, and_self, Bool.not_true, Bool.not_false, implies_true, decide_eq_true_eq, decide_eq_false_iff_not, Bool.not_eq_true, not_true_eq_false, not_false_eq_true, Bool.not_eq_true', Bool.not_eq_false', D.onB, sizeLine_eq, Nat.reduceAdd, Nat.reduceLeDiff, Nat.zero_add, Nat.reduceLT, pl_bl, pl_i, pl_n, eqv_bl, eqv_ii, eqv_nn, ints_inj, exists_eq_left', exists_eq_left, beq_iff_eq, beq_eq_false_iff_ne, ne_eq, true_or, or_true, false_or, or_false, false_and, and_false, if_true, if_false, List.lookup_cons, beq_self_eq_true, t_Lot___str, dJoin, lotD_inj, cm_rich, cm_poor, cm_exp, fld_row, fld_whole, isOf_lot]
  refine lc_mapA (f := D.int) (h := D.str) (L := ps) (fun p => nT p.toNat) (by rw [sizeLine_eq]; omega) (fun q hq p hp xs Kk K => ?_) fun q hq => ?_
  · have p0 : 0 ≤ p := by have := (al p hp).1; omega
    have p1 := (al p hp).2.1
    have p2 := (al p hp).1
    have lg : p.natAbs.log2 < 1920 := by
      have : p.natAbs.log2 < 15 := (Nat.log2_lt (by omega)).mpr (by omega)
      omega
    simp (config := { decide := false }) only [dgSubD, dgLs, D.wk, endsW, rowP, dCm, dCmK, dMakeV, rhsE, dRaise, dTry, dHds, dAct, dXf, dIsE, dput, dclr, dEndsC, fnW, pl_lint, pl_tint, eqv_lint, eqv_tint, decide_true, decide_false, djItems, seqJ, dLCG, gMul, dEnum, dLC, dYes, wipeD, dFld, fldOf, dSetF, putD, dMake, mkQ, mkQM, isOf, gIn, gIn2, dDct, gSorted, asI, pick, List.filterMap_cons, List.filterMap_nil, List.getElem?_nil, dSeq, dNext, dRet, dIfS, dAsg, dgName, dgTup, dgCons, dgNil, dgSub, dPar, dAug, dDrop, dNever, dOp, gI, gT, gPlus, gAdd, gEq, gNe, gIs, gIs2, gIx, dV, dC, dB, dAnd, dOr, dNot, dAndV, dNotV, dIf, dNeg, dNil, dCons, dTup, dLst, dLstM, dNoPart, dPart, dSl, dCB, dCall, gLen, gAbs, g2, gStrO, gInt, gInt2, dJoin, dSplit, gStr, gDivmod2, gIsTy, gTuple, gList, gAll, dAppend, dItems, itemsOf, dRange1, dFor, D.onB, D.tyn, D.isNon, asL, rsv, kb_di, kb_db, kb_ds, kb_dt, kb_dl, kb_ii, kb_bi, kb_ni, kb_si, kb_ti, kb_li, kb_ib, kb_bb, kb_nb, kb_sb, kb_tb, kb_lb, kb_is, kb_bs, kb_ns, kb_ss, kb_ts, kb_ls, kb_it, kb_bt, kb_nt, kb_st, kb_tt, kb_lt, startD, List.map_cons, List.map_nil, List.length_cons, List.length_nil, List.cons_append, List.nil_append, List.replicate, List.getElem?_cons_zero, List.getElem?_cons_succ, List.set_cons_zero, List.set_cons_succ, List.zip_cons_cons, List.zip_nil_right, List.foldl_cons, List.foldl_nil, Option.bind_some, Option.bind_none, um_same, um_um, Bool.false_eq_true, reduceCtorEq, false_implies, true_implies, forall_const, true_and, and_true, and_self, Bool.not_true, Bool.not_false, implies_true, decide_eq_true_eq, decide_eq_false_iff_not, Bool.not_eq_true, not_true_eq_false, not_false_eq_true, Bool.not_eq_true', Bool.not_eq_false', D.onB, sizeLine_eq, Nat.reduceAdd, Nat.reduceLeDiff, Nat.zero_add, Nat.reduceLT, pl_bl, pl_i, pl_n, eqv_bl, eqv_ii, eqv_nn, ints_inj, exists_eq_left', exists_eq_left, beq_iff_eq, beq_eq_false_iff_ne, ne_eq, true_or, or_true, false_or, or_false, false_and, and_false, if_true, if_false, List.lookup_cons, beq_self_eq_true, lg, nT_of p0]
    exact K
  · obtain ⟨j1, j2, j3⟩ := join_go (M := M) al hl
    simp (config := { decide := false }) only [dgSubD, dgLs, D.wk, endsW, rowP, dCm, dCmK, dMakeV, rhsE, dRaise, dTry, dHds, dAct, dXf, dIsE, dput, dclr, dEndsC, fnW, pl_lint, pl_tint, eqv_lint, eqv_tint, decide_true, decide_false, djItems, seqJ, dLCG, gMul, dEnum, dLC, dYes, wipeD, dFld, fldOf, dSetF, putD, dMake, mkQ, mkQM, isOf, gIn, gIn2, dDct, gSorted, asI, pick, List.filterMap_cons, List.filterMap_nil, List.getElem?_nil, dSeq, dNext, dRet, dIfS, dAsg, dgName, dgTup, dgCons, dgNil, dgSub, dPar, dAug, dDrop, dNever, dOp, gI, gT, gPlus, gAdd, gEq, gNe, gIs, gIs2, gIx, dV, dC, dB, dAnd, dOr, dNot, dAndV, dNotV, dIf, dNeg, dNil, dCons, dTup, dLst, dLstM, dNoPart, dPart, dSl, dCB, dCall, gLen, gAbs, g2, gStrO, gInt, gInt2, dJoin, dSplit, gStr, gDivmod2, gIsTy, gTuple, gList, gAll, dAppend, dItems, itemsOf, dRange1, dFor, D.onB, D.tyn, D.isNon, asL, rsv, kb_di, kb_db, kb_ds, kb_dt, kb_dl, kb_ii, kb_bi, kb_ni, kb_si, kb_ti, kb_li, kb_ib, kb_bb, kb_nb, kb_sb, kb_tb, kb_lb, kb_is, kb_bs, kb_ns, kb_ss, kb_ts, kb_ls, kb_it, kb_bt, kb_nt, kb_st, kb_tt, kb_lt, startD, List.map_cons, List.map_nil, List.length_cons, List.length_nil, List.cons_append, List.nil_append, List.replicate, List.getElem?_cons_zero, List.getElem?_cons_succ, List.set_cons_zero, List.set_cons_succ, List.zip_cons_cons, List.zip_nil_right, List.foldl_cons, List.foldl_nil, Option.bind_some, Option.bind_none, um_same, um_um, Bool.false_eq_true, reduceCtorEq, false_implies, true_implies, forall_const, true_and, and_true, and_self, Bool.not_true, Bool.not_false, implies_true, decide_eq_true_eq, decide_eq_false_iff_not, Bool.not_eq_true, not_true_eq_false, not_false_eq_true, Bool.not_eq_true', Bool.not_eq_false', D.onB, sizeLine_eq, Nat.reduceAdd, Nat.reduceLeDiff, Nat.zero_add, Nat.reduceLT, pl_bl, pl_i, pl_n, eqv_bl, eqv_ii, eqv_nn, ints_inj, exists_eq_left', exists_eq_left, beq_iff_eq, beq_eq_false_iff_ne, ne_eq, true_or, or_true, false_or, or_false, false_and, and_false, if_true, if_false, List.lookup_cons, beq_self_eq_true, dm_um hq, j1, j2, j3]
    exact Wk.of h
/-- a text of plain signs -/
def Asc (s : Str) : Prop := ∀ c ∈ s.cps.toList, c < 128
theorem pl_sign {c : Nat} (h : c < 128) : (D.str ⟨#[c]⟩).pl 12 = true := by
  have f : (D.str ⟨#[c]⟩).fit 80 := fit_low fun d hd => by
    rw [List.mem_singleton.mp (show d ∈ [c] from hd)]
    exact h
  exact D.fit_pl 80 _ 12 f (by simp [D.dp])
theorem mem_joinL {S : List Nat} {c : Nat} : ∀ {L : List (List Nat)} {l : List Nat}, l ∈ L → c ∈ l → c ∈ TL.joinL S L
  | [], _, h, _ => by cases h
  | [p], l, h, hc => by rw [List.mem_singleton.mp h] at hc; exact hc
  | p :: q :: r, l, h, hc => by
    show c ∈ p ++ (S ++ TL.joinL S (q :: r))
    rcases List.mem_cons.mp h with rfl | h
    · exact List.mem_append_left _ hc
    · exact List.mem_append_right _ (List.mem_append_right _ (mem_joinL h hc))
theorem cm_strL (M : Mp) (ps : List Int) : canM M "Lot" "__str__" (lotD ps) = True := eq_true ⟨rfl, by decide⟩
theorem okRow_pr : ∀ {ps : List Int} {b w : Int}, okRow b w ps → 1 ≤ w → w ≤ 30030 → w * 2 ^ ps.length ≤ 30030
  | [], b, w, _, _, h => by simpa using h
  | p :: ps, b, w, ⟨h1, h2, h3, h4⟩, w1, w2 => by
    have p2 := h1.1
    have : w * 1 ≤ w * p := Int.mul_le_mul_of_nonneg_left (by omega) (by omega)
    have k := okRow_pr h4 (by omega) h3
    have g2 : (0 : Int) < 2 ^ ps.length := Int.pow_pos (by decide)
    have e : w * 2 * 2 ^ ps.length ≤ w * p * 2 ^ ps.length := Int.mul_le_mul_of_nonneg_right (Int.mul_le_mul_of_nonneg_left p2 (by omega)) (by omega)
    rw [List.length_cons, Int.pow_succ, Int.mul_comm (2 ^ ps.length) 2, ← Int.mul_assoc]
    omega
theorem okRow_len {ps : List Int} (h : okRow 1 1 ps) : ps.length ≤ 14 := by
  have k := okRow_pr h (by decide) (by decide)
  rw [Int.one_mul] at k
  rcases Nat.lt_or_ge ps.length 15 with q | q
  · omega
  · have : (2 : Int) ^ 15 ≤ 2 ^ ps.length := by
      have := Nat.pow_le_pow_right (show 0 < 2 by decide) q
      exact_mod_cast this
    omega
/-- words of one to five digits without a needless zero -/
def goodW (x : Str) (n : Nat) : Prop := x = nT n ∧ 1 ≤ n ∧ n < 10 ^ 5
theorem good_len {x : Str} {n : Nat} (h : goodW x n) : 0 < x.length ∧ x.length < 6 := by
  obtain ⟨rfl, h1, h2⟩ := h
  have := TL.numL_len (k := 5) (by decide) h2
  have ne := TL.numL_ne n
  rw [TL.len_tl]
  rw [show TL.tl (nT n) = TL.numL n from tl_nT n]
  exact ⟨List.length_pos_iff.mpr ne, by omega⟩
theorem numL_head : ∀ n : Nat, 1 ≤ n → (TL.numL n).head? ≠ some 48 := by
  intro n
  induction n using Nat.strongRecOn with
  | _ n ih =>
    intro h1
    by_cases h : n < 10
    · rw [TL.numL_lt h]
      simp only [List.head?_cons, ne_eq, Option.some.injEq]
      omega
    · rw [TL.numL_step (by omega), List.head?_append]
      have := ih (n / 10) (by omega) (by omega)
      have ne := TL.numL_ne (n / 10)
      cases e : TL.numL (n / 10) with
      | nil => exact absurd e ne
      | cons c r =>
        rw [e] at this
        simpa using this
def OkW (b w : Int) (ws : List Str) : Prop := ∃ ps : List Int, okRow b w ps ∧ ws = (ps.map Int.toNat).map nT
theorem okW_cons {b w : Int} {x : Str} {ws : List Str} {n : Nat} (g : goodW x n) : OkW b w (x :: ws) ↔ (isP (n : Nat) ∧ b < (n : Nat) ∧ w * (n : Nat) ≤ 30030) ∧ OkW (n : Nat) (w * (n : Nat)) ws := by
  obtain ⟨e, _, _⟩ := g
  constructor
  · rintro ⟨ps, ok, h⟩
    cases ps with
    | nil => cases h
    | cons p ps =>
      simp only [List.map_cons, List.cons.injEq] at h
      obtain ⟨o1, o2, o3, o4⟩ := ok
      have : n = p.toNat := nT_eq (e.symm.trans h.1)
      have e2 : ((n : Nat) : Int) = p := by have := o1.1; omega
      rw [e2]
      exact ⟨⟨o1, o2, o3⟩, ps, o4, h.2⟩
  · rintro ⟨⟨o1, o2, o3⟩, ps, o4, h⟩
    exact ⟨((n : Nat) : Int) :: ps, ⟨o1, o2, o3, o4⟩, by rw [List.map_cons, List.map_cons, ← h, e, Int.toNat_natCast]⟩
theorem okW_good {b w : Int} {x : Str} {ws : List Str} (h : OkW b w (x :: ws)) : ∃ n, goodW x n := by
  obtain ⟨ps, ok, h⟩ := h
  cases ps with
  | nil => cases h
  | cons p ps =>
    simp only [List.map_cons, List.cons.injEq] at h
    have := ok.1.1
    have := ok.1.2.1
    exact ⟨p.toNat, h.1, by omega, by omega⟩
def oddL (l : List Nat) : List Nat := l.filterMap fun c => if digB c then none else some c
theorem filt_nil {l : List Nat} : oddL l = [] ↔ NumText.AllDigits l := by
  simp [oddL, digB, NumText.AllDigits, List.filterMap_eq_nil_iff]
theorem oddL_mem {l : List Nat} {c : Nat} (h : c ∈ oddL l) : c ∈ l := by
  obtain ⟨d, hd, e⟩ := List.mem_filterMap.mp h
  split at e
  · cases e
  · cases e; exact hd
theorem eqv_nil (ds : List D) : D.eqv (.lst ds) (.lst []) = decide (ds = []) := by
  cases ds <;> simp [D.eqv, D.py, pys, PyData.eqv, PyData.eqvAll]
theorem pl_chrs {L : List Nat} (h : ∀ c ∈ L, c < 128) : (D.lst (L.map chrD)).pl 12 = true := by
  show pls 11 (L.map chrD) = true
  induction L with
  | nil => rfl
  | cons x L ih =>
    rw [List.map_cons, pls, Bool.and_eq_true]
    exact ⟨pl_sign (h x (List.mem_cons_self ..)), ih fun s hs => h s (List.mem_cons_of_mem _ hs)⟩
theorem asc_words {s : Str} (h : Asc s) : ∀ w ∈ Txt.split s " ", Asc w := by
  intro w hw c hc
  have e : TL.tl s = TL.joinL (TL.tl " ") ((Txt.split s " ").map TL.tl) := by rw [← TL.tl_join, ← TL.join_eq, join_back]
  refine h c ?_
  rw [show s.cps.toList = TL.tl s from rfl, e]
  exact mem_joinL (List.mem_map.mpr ⟨w, hw, rfl⟩) hc
theorem zero_q {M : Mp} {K : Bool → Mp → Prop} {x : Str} {c : Nat} {r : List Nat} (ne : x.cps.toList ≠ []) (e : x.cps.toList = c :: r) (ad : NumText.AllDigits x.cps.toList) (l5 : x.cps.toList.length ≤ 5) (h1 : ∀ n, goodW x n → K false M) (h2 : (∀ n, ¬ goodW x n) → K true M) :
    K (decide ((⟨#[c]⟩ : Str) = Str.ofString "0")) M := by
  by_cases z : (⟨#[c]⟩ : Str) = Str.ofString "0"
  · rw [decide_eq_true z]
    refine h2 fun n g => ?_
    have k := numL_head n g.2.1
    have e2 : x.cps.toList = TL.numL n := by rw [g.1, tl_nT]
    rw [← e2, e] at k
    have : c = 48 := by
      have k2 : [c] = ("0" : Str).cps.toList := congrArg (fun s : Str => s.cps.toList) z
      rw [show ("0" : Str).cps.toList = [48] by decide] at k2
      exact List.head_eq_of_cons_eq k2
    rw [this] at k
    exact k rfl
  · rw [decide_eq_false z]
    have h0 : x.cps.toList.head? ≠ some 48 := by
      rw [e]
      intro y
      simp only [List.head?_cons, Option.some.injEq] at y
      rw [y] at z
      exact z (by decide)
    have dn := digits_num ad ne h0
    have lt2 := dval_lt ad
    have lt5 : NumText.digitsVal x.cps.toList < 10 ^ 5 := Nat.lt_of_lt_of_le lt2 (Nat.pow_le_pow_right (by decide) l5)
    refine h1 (NumText.digitsVal x.cps.toList) ⟨TL.ext_tl ?_, ?_, lt5⟩
    · rw [show TL.tl (nT (NumText.digitsVal x.cps.toList)) = TL.numL (NumText.digitsVal x.cps.toList) from tl_nT _, dn]
    · rcases Nat.eq_zero_or_pos (NumText.digitsVal x.cps.toList) with q | q
      · rw [q] at dn
        rw [← dn] at h0
        exact absurd (by decide) h0
      · exact q
/-- what a law hands to Lot.read though it is no text of a lot -/
structure Bad (d : D) : Prop where
  f : d.fitH
  p : d.hp ≤ 9
  z : d.hz ≤ 1000000
  k : knH d = true
  l : ∀ s, d = .str s → s.length ≤ 1000000
  n : ∀ ps, ¬ pgOk d ps
theorem Bad.show (h : Bad d) (M : Mp) : rsv M d = d ∧ d.ph 12 = true ∧ d.py.showable = true ∧ d.py.shown.length ≤ sizeLine := fitH_ok h.f (by have := h.p; omega) (by have := h.z; omega)
/-- nested values: so deep -/
structure Nz (n : Nat) (d : D) : Prop where
  f : d.fitH
  p : d.hp ≤ 2 * n + 1
  z : d.hz + 40 ≤ 240 * 2 ^ n
  k : knH d = true
def boxB : D → Bool
  | .tup _ | .lst _ | .dcs _ _ => true
  | _ => false
theorem nzs {n : Nat} : ∀ {L : List D}, (∀ d ∈ L, Nz n d) → L.length ≤ 2 → fitsH L ∧ hps L ≤ 2 * n + 1 ∧ hzs L + 76 ≤ 240 * 2 ^ n * 2
  | [], _, _ => ⟨by simp [fitsH], by simp [hps], by
    have := Nat.pow_pos (n := n) (show 0 < 2 by decide)
    simp only [hzs]
    omega⟩
  | [a], h, _ => by
    have ha := h a (by simp)
    have p := Nat.pow_pos (n := n) (show 0 < 2 by decide)
    have z := ha.z
    have q := ha.p
    refine ⟨by simp [fitsH, ha.f], by simp only [hps]; omega, by simp only [hzs]; omega⟩
  | [a, b], h, _ => by
    have ha := h a (by simp)
    have hb := h b (by simp)
    have z := ha.z
    have q := ha.p
    have z2 := hb.z
    have q2 := hb.p
    refine ⟨by simp [fitsH, ha.f, hb.f], by simp only [hps]; omega, by simp only [hzs]; omega⟩
  | _ :: _ :: _ :: _, _, l => by simp at l
theorem two_lay : PyData.canLay0 (.str "2") = true ∧ ∀ c ∈ ("2" : Str).cps.toList, c < 16 ^ 8 := ⟨by decide +kernel, by decide +kernel⟩
/-- one step deeper -/
theorem nz_up {n : Nat} {L : List D} (h : ∀ d ∈ L, Nz n d) (l : L.length ≤ 2) : (Nz (n + 1) (.tup L) ∧ Nz (n + 1) (.lst L)) ∧ Nz (n + 1) (.dcs ["2"] [.lst L]) ∧ Nz (n + 1) (.tup [.lst L]) := by
  obtain ⟨f, p, z⟩ := nzs h l
  have e : 240 * 2 ^ (n + 1) = 240 * 2 ^ n * 2 := by rw [Nat.pow_succ, Nat.mul_assoc]
  have s2 : ("2" : Str).cps.size = 1 := by decide
  refine ⟨⟨⟨by simpa [D.fitH] using f, by simp only [D.hp]; omega, by simp only [D.hz]; omega, rfl⟩, ⟨by simpa [D.fitH] using f, by simp only [D.hp]; omega, by simp only [D.hz]; omega, rfl⟩⟩, ⟨?_, by simp only [D.hp, hps]; omega, ?_, rfl⟩, ⟨by simpa [D.fitH, fitsH] using f, by simp only [D.hp, hps]; omega, by simp only [D.hz, hzs]; omega, rfl⟩⟩
  · simp only [D.fitH, fitsH, List.length_cons, List.length_nil, List.mem_cons, List.not_mem_nil, or_false, forall_eq]
    exact ⟨⟨trivial, two_lay⟩, f, trivial⟩
  · simp only [D.hz, hzs, List.map_cons, List.map_nil, List.sum_cons, List.sum_nil, s2]
    omega
theorem nz_0 : ∀ d ∈ [D.non, .int 2, .str "2", .str "2 3", .bl true, .tup []], Nz 0 d := by
  intro d hd
  simp only [List.mem_cons, List.not_mem_nil, or_false] at hd
  rcases hd with rfl | rfl | rfl | rfl | rfl | rfl
  · exact ⟨by simp [D.fitH], by simp [D.hp], by simp [D.hz], rfl⟩
  · exact ⟨by simp only [D.fitH]; decide, by simp [D.hp], by simp [D.hz], rfl⟩
  · exact ⟨by simp only [D.fitH]; exact two_lay, by simp [D.hp], by simp only [D.hz]; decide, rfl⟩
  · exact ⟨by simp only [D.fitH]; exact ⟨by decide +kernel, by decide +kernel⟩, by simp [D.hp], by simp only [D.hz]; decide, rfl⟩
  · exact ⟨by simp [D.fitH], by simp [D.hp], by simp [D.hz], rfl⟩
  · exact ⟨by simp [D.fitH, fitsH], by simp [D.hp, hps], by simp [D.hz, hzs], rfl⟩
theorem lcN_inv {i : Nat} {tt : TDb} {te : TD} {p : Addr} {ρ0 : Rho} {Q : Mp → Prop} (Inv : Nat → Mp → Prop) (n : Nat) : ∀ (items : List D) (k : Nat) (M : Mp), k + items.length = n → Inv k M →
    (∀ (j : Nat) (d : D) (M : Mp) (N : Mp → Prop), j < n → d ∈ items → Inv j M → (∀ M', Inv (j + 1) M' → N M') →
      tt (ρ0.set i (some d)) M fun b M3 => (b = true → te (ρ0.set i (some d)) M3 fun y M4 => ∃ acc, M4 p = some (.lst acc) ∧ acc.length < sizeLine ∧ N (um M4 p (.lst (acc ++ [y])))) ∧ (b = false → N M3)) →
    (∀ M, Inv n M → Q M) → lcN i tt te p ρ0 Q items M
  | [], k, M, hn, h0, h, hd => hd M (by rw [← hn]; simpa using h0)
  | d :: ds, k, M, hn, h0, h, hd => by
    unfold lcN
    rw [List.length_cons] at hn
    refine h k d M _ (by omega) (List.mem_cons_self ..) h0 fun M' h' => ?_
    exact lcN_inv Inv n ds (k + 1) M' (by omega) h' (fun j d M N q m => h j d M N q (List.mem_cons_of_mem _ m)) hd
theorem bls_true : ∀ n : Nat, bls? (List.replicate n (D.bl true)) = some (List.replicate n true)
  | 0 => rfl
  | n + 1 => by simp [List.replicate_succ, bls?, bls_true n]
abbrev N_law_nested : List Str := ["_law_gourd", "_law_deep", "_law_inner", "_law_k"]
def sp_law_nested (n : Nat) : DSp := fun ds M Q _ => match ds with
  | [.ref g, .int k] => Gd M g ∧ ∃ j : Nat, k = (j : Nat) ∧ j ≤ n ∧ ∀ d M', Nz j d → (1 ≤ j → boxB d = true) → Gw g M M' → Q d M'
  | _ => False
def R_law_nested : Nat → DSp
  | 0 => fun _ _ _ _ => False
  | n + 1 => sp_law_nested n
theorem len_law_nested (n : Nat) : ∀ ds M Q E, sp_law_nested n ds M Q E → ds.length = 2 := fun ds M Q E h => by
  unfold sp_law_nested at h; split at h <;> first | rfl | exact h.elim
def t_law_nested (R : DSp) (W : DW') : TDS :=
  dSeq (dIfS (dB (dOp gEq (dV 1) (dC (.int 0)))) (dRet (dCall sp_law_choose W (dCons (dV 0) (dCons (dLst (dCons (dC .non) (dCons (dC (.int 2)) (dCons (dC (.str "2")) (dCons (dC (.str "2 3")) (dCons (dC (.bl true)) (dCons (dTup (dNil)) (dNil)))))))) (dNil))))) (dNext)) <|
  dSeq (dAsg (dLC [3] 3 (dRange1 (dCons (dCall sp_law_gulp W (dCons (dV 0) (dCons (dC (.int 3)) (dNil)))) (dNil))) (dYes) (dCall R noW (dCons (dV 0) (dCons (dOp (gI (fun _ _ => True) fun i j => .int (i - j)) (dV 1) (dC (.int 1))) (dNil))))) (dgName 2)) <|
  dRet (dCall sp_law_choose W (dCons (dV 0) (dCons (dLst (dCons (dCB gTuple (dCons (dV 2) (dNil))) (dCons (dV 2) (dCons (dDsp1 (dC (.str "2")) (dV 2)) (dCons (dTup (dCons (dV 2) (dNil))) (dNil)))))) (dNil))))
theorem pure_law_nested (n : Nat) (ds : List D) (M : Mp) (Q : DK) (E : XE') (h : sp_law_nested n ds M Q E) : t_law_nested (R_law_nested n) (fnW E) { nx := fun _ M' => Wk (Q .non) M', rt := fun d M' => Wk (Q d) M' } (startD N_law_nested ds) M := by
  unfold sp_law_nested at h
  split at h
  · rename_i g k
    obtain ⟨hg, j, rfl, hj, h⟩ := h
    have gw0 : Gw g M M := ⟨hg, fun _ _ _ e => e⟩
    unfold t_law_nested
    simp (config := { decide := false }) only [dgSubD, dgLs, D.wk, endsW, rowP, dCm, dCmK, dMakeV, rhsE, dRaise, dTry, dHds, dAct, dXf, dIsE, dput, dclr, dEndsC, fnW, pl_lint, pl_tint, eqv_lint, eqv_tint, decide_true, decide_false, djItems, seqJ, dLCG, gMul, dEnum, dLC, dYes, wipeD, dFld, fldOf, dSetF, putD, dMake, mkQ, mkQM, isOf, gIn, gIn2, dDct, gSorted, asI, pick, List.filterMap_cons, List.filterMap_nil, List.getElem?_nil, dSeq, dNext, dRet, dIfS, dAsg, dgName, dgTup, dgCons, dgNil, dgSub, dPar, dAug, dDrop, dNever, dOp, gI, gT, gPlus, gAdd, gEq, gNe, gIs, gIs2, gIx, dV, dC, dB, dAnd, dOr, dNot, dAndV, dNotV, dIf, dNeg, dNil, dCons, dTup, dLst, dLstM, dNoPart, dPart, dSl, dCB, dCall, gLen, gAbs, g2, gStrO, gInt, gInt2, dJoin, dSplit, gStr, gDivmod2, gIsTy, gTuple, gList, gAll, dAppend, dItems, itemsOf, dRange1, dFor, D.onB, D.tyn, D.isNon, asL, rsv, kb_di, kb_db, kb_ds, kb_dt, kb_dl, kb_ii, kb_bi, kb_ni, kb_si, kb_ti, kb_li, kb_ib, kb_bb, kb_nb, kb_sb, kb_tb, kb_lb, kb_is, kb_bs, kb_ns, kb_ss, kb_ts, kb_ls, kb_it, kb_bt, kb_nt, kb_st, kb_tt, kb_lt, startD, List.map_cons, List.map_nil, List.length_cons, List.length_nil, List.cons_append, List.nil_append, List.replicate, List.getElem?_cons_zero, List.getElem?_cons_succ, List.set_cons_zero, List.set_cons_succ, List.zip_cons_cons, List.zip_nil_right, List.foldl_cons, List.foldl_nil, Option.bind_some, Option.bind_none, um_same, um_um, Bool.false_eq_true, reduceCtorEq, false_implies, true_implies, forall_const, true_and, and_true, and_self, Bool.not_true, Bool.not_false, implies_true, decide_eq_true_eq, decide_eq_false_iff_not, Bool.not_eq_true, not_true_eq_false, not_false_eq_true, Bool.not_eq_true', Bool.not_eq_false', D.onB, sizeLine_eq, Nat.reduceAdd, Nat.reduceLeDiff, Nat.zero_add, Nat.reduceLT, pl_bl, pl_i, pl_n, eqv_bl, eqv_ii, eqv_nn, ints_inj, exists_eq_left', exists_eq_left, beq_iff_eq, beq_eq_false_iff_ne, ne_eq, true_or, or_true, false_or, or_false, false_and, and_false, if_true, if_false, List.lookup_cons, beq_self_eq_true, sp_law_choose, sp_law_gulp]
    refine ⟨fun c => ⟨hg, by decide, fun x M1 hx s1 => ?_⟩, fun c => ⟨hg, ⟨by decide, by decide⟩, fun r M1 r0 r1 s1 => ?_⟩⟩
    · have e : j = 0 := by omega
      subst e
      exact Wk.of (h x M1 (nz_0 x hx) (fun z => by omega) s1.gw)
    · obtain ⟨i, rfl⟩ : ∃ i, j = i + 1 := ⟨j - 1, by omega⟩
      obtain ⟨m, rfl⟩ : ∃ m, n = m + 1 := ⟨n - 1, by omega⟩
      refine ⟨⟨by omega, by omega⟩, fun p hp => ?_⟩
      have ng := s1.gd.ne hp
      have rl : (rangeD 0 r).length ≤ 2 := by unfold rangeD; simp; omega
      refine lcN_inv (fun j M' => ∃ acc, M' p = some (.lst acc) ∧ acc.length = j ∧ (∀ x ∈ acc, Nz i x) ∧ Gw g M M') _ _ 0 _ (Nat.zero_add _) ⟨[], um_same _ _ _, rfl, (fun _ h => nomatch h), s1.gw.new hp⟩ ?_ ?_
      · rintro j d M2 N hj hd ⟨acc, e1, e2, e3, e4⟩ hN
        have eR : R_law_nested (m + 1) = sp_law_nested m := rfl
        have ei : ((i + 1 : Nat) : Int) - 1 = (i : Nat) := by omega
        rw [eR]
        simp (config := { decide := false }) only [dgSubD, dgLs, D.wk, endsW, rowP, dCm, dCmK, dMakeV, rhsE, dRaise, dTry, dHds, dAct, dXf, dIsE, dput, dclr, dEndsC, fnW, pl_lint, pl_tint, eqv_lint, eqv_tint, decide_true, decide_false, djItems, seqJ, dLCG, gMul, dEnum, dLC, dYes, wipeD, dFld, fldOf, dSetF, putD, dMake, mkQ, mkQM, isOf, gIn, gIn2, dDct, gSorted, asI, pick, List.filterMap_cons, List.filterMap_nil, List.getElem?_nil, dSeq, dNext, dRet, dIfS, dAsg, dgName, dgTup, dgCons, dgNil, dgSub, dPar, dAug, dDrop, dNever, dOp, gI, gT, gPlus, gAdd, gEq, gNe, gIs, gIs2, gIx, dV, dC, dB, dAnd, dOr, dNot, dAndV, dNotV, dIf, dNeg, dNil, dCons, dTup, dLst, dLstM, dNoPart, dPart, dSl, dCB, dCall, gLen, gAbs, g2, gStrO, gInt, gInt2, dJoin, dSplit, gStr, gDivmod2, gIsTy, gTuple, gList, gAll, dAppend, dItems, itemsOf, dRange1, dFor, D.onB, D.tyn, D.isNon, asL, rsv, kb_di, kb_db, kb_ds, kb_dt, kb_dl, kb_ii, kb_bi, kb_ni, kb_si, kb_ti, kb_li, kb_ib, kb_bb, kb_nb, kb_sb, kb_tb, kb_lb, kb_is, kb_bs, kb_ns, kb_ss, kb_ts, kb_ls, kb_it, kb_bt, kb_nt, kb_st, kb_tt, kb_lt, startD, List.map_cons, List.map_nil, List.length_cons, List.length_nil, List.cons_append, List.nil_append, List.replicate, List.getElem?_cons_zero, List.getElem?_cons_succ, List.set_cons_zero, List.set_cons_succ, List.zip_cons_cons, List.zip_nil_right, List.foldl_cons, List.foldl_nil, Option.bind_some, Option.bind_none, um_same, um_um, Bool.false_eq_true, reduceCtorEq, false_implies, true_implies, forall_const, true_and, and_true, and_self, Bool.not_true, Bool.not_false, implies_true, decide_eq_true_eq, decide_eq_false_iff_not, Bool.not_eq_true, not_true_eq_false, not_false_eq_true, Bool.not_eq_true', Bool.not_eq_false', D.onB, sizeLine_eq, Nat.reduceAdd, Nat.reduceLeDiff, Nat.zero_add, Nat.reduceLT, pl_bl, pl_i, pl_n, eqv_bl, eqv_ii, eqv_nn, ints_inj, exists_eq_left', exists_eq_left, beq_iff_eq, beq_eq_false_iff_ne, ne_eq, true_or, or_true, false_or, or_false, false_and, and_false, if_true, if_false, List.lookup_cons, beq_self_eq_true, sp_law_nested, ei]
        refine ⟨e4.1, i, rfl, by omega, fun x M3 hx _ g3 => ?_⟩
        have e5 : M3 p = some (.lst acc) := g3.2 p _ ng e1
        refine ⟨_, e5, by rw [e2]; omega, hN _ ⟨_, um_same _ _ _, by rw [List.length_append, e2]; rfl, fun y hy => ?_, (e4.tr g3).set (s1.gw.none hp) ng⟩⟩
        rcases List.mem_append.mp hy with hy | hy
        · exact e3 y hy
        · rw [List.mem_singleton.mp hy]; exact hx
      · rintro M2 ⟨acc, e1, e2, e3, e4⟩
        refine ⟨acc, e1, ?_⟩
        obtain ⟨⟨u1, u2⟩, u3, u4⟩ := nz_up e3 (by omega)
        have gd : Gw g M (dm M2 p) := by
          refine ⟨?_, fun a u na e => ?_⟩
          · obtain ⟨a, b, c, h1, h2, e⟩ := e4.1
            exact ⟨a, b, c, h1, h2, by rw [dm_ne (Ne.symm ng)]; exact e⟩
          · rw [dm_ne fun z => by subst z; rw [s1.gw.none hp] at e; cases e]
            exact e4.2 a u na e
        generalize dm M2 p = M4 at gd ⊢
        simp (config := { decide := false }) only [dgSubD, dgLs, D.wk, endsW, rowP, dCm, dCmK, dMakeV, rhsE, dRaise, dTry, dHds, dAct, dXf, dIsE, dput, dclr, dEndsC, fnW, pl_lint, pl_tint, eqv_lint, eqv_tint, decide_true, decide_false, djItems, seqJ, dLCG, gMul, dEnum, dLC, dYes, wipeD, dFld, fldOf, dSetF, putD, dMake, mkQ, mkQM, isOf, gIn, gIn2, dDct, gSorted, asI, pick, List.filterMap_cons, List.filterMap_nil, List.getElem?_nil, dSeq, dNext, dRet, dIfS, dAsg, dgName, dgTup, dgCons, dgNil, dgSub, dPar, dAug, dDrop, dNever, dOp, gI, gT, gPlus, gAdd, gEq, gNe, gIs, gIs2, gIx, dV, dC, dB, dAnd, dOr, dNot, dAndV, dNotV, dIf, dNeg, dNil, dCons, dTup, dLst, dLstM, dNoPart, dPart, dSl, dCB, dCall, gLen, gAbs, g2, gStrO, gInt, gInt2, dJoin, dSplit, gStr, gDivmod2, gIsTy, gTuple, gList, gAll, dAppend, dItems, itemsOf, dRange1, dFor, D.onB, D.tyn, D.isNon, asL, rsv, kb_di, kb_db, kb_ds, kb_dt, kb_dl, kb_ii, kb_bi, kb_ni, kb_si, kb_ti, kb_li, kb_ib, kb_bb, kb_nb, kb_sb, kb_tb, kb_lb, kb_is, kb_bs, kb_ns, kb_ss, kb_ts, kb_ls, kb_it, kb_bt, kb_nt, kb_st, kb_tt, kb_lt, startD, List.map_cons, List.map_nil, List.length_cons, List.length_nil, List.cons_append, List.nil_append, List.replicate, List.getElem?_cons_zero, List.getElem?_cons_succ, List.set_cons_zero, List.set_cons_succ, List.zip_cons_cons, List.zip_nil_right, List.foldl_cons, List.foldl_nil, Option.bind_some, Option.bind_none, um_same, um_um, Bool.false_eq_true, reduceCtorEq, false_implies, true_implies, forall_const, true_and, and_true, and_self, Bool.not_true, Bool.not_false, implies_true, decide_eq_true_eq, decide_eq_false_iff_not, Bool.not_eq_true, not_true_eq_false, not_false_eq_true, Bool.not_eq_true', Bool.not_eq_false', D.onB, sizeLine_eq, Nat.reduceAdd, Nat.reduceLeDiff, Nat.zero_add, Nat.reduceLT, pl_bl, pl_i, pl_n, eqv_bl, eqv_ii, eqv_nn, ints_inj, exists_eq_left', exists_eq_left, beq_iff_eq, beq_eq_false_iff_ne, ne_eq, true_or, or_true, false_or, or_false, false_and, and_false, if_true, if_false, List.lookup_cons, beq_self_eq_true, dDsp1]
        intro q hq
        have nq := gd.1.ne hq
        have gq : Gw g M (dm (um M4 q (.dK [])) q) := by
          rw [dm_um hq]
          exact gd
        refine ⟨"2", rfl, gq.1, by decide, fun x M5 hx s5 => ?_⟩
        simp only [List.mem_cons, List.not_mem_nil, or_false] at hx
        rcases hx with rfl | rfl | rfl | rfl
        · exact Wk.of (h _ M5 u1 (fun _ => rfl) (gq.tr s5.gw))
        · exact Wk.of (h _ M5 u2 (fun _ => rfl) (gq.tr s5.gw))
        · exact Wk.of (h _ M5 u3 (fun _ => rfl) (gq.tr s5.gw))
        · exact Wk.of (h _ M5 u4 (fun _ => rfl) (gq.tr s5.gw))
  · exact h.elim
abbrev N_law_refused : List Str := ["_law_job", "e"]
def t_law_refused (f : Addr) (tl : TLam) (W : DW') : TDS :=
  dSeq (dTry [⟨[("InvalidText", true)], some 1, fun a x => dRet (dIf (dB (dIsE a x (.own "WrongValue") [("InvalidText", true)] (dCons (dV 1) (dCons (dC (.cls "WrongValue")) (dNil))))) (dCB gReprH (dCons (dXf a x ["InvalidText"] "given" (dV 1)) (dNil))) (dC (.str "other")))⟩] (fun W => dDrop (dAct f tl W)) W) <|
  dRet (dC (.str "told"))
def tt_law_refused : TTr := fun tl M Q E => ∀ f, t_law_refused f tl (fnW E) { nx := fun _ M' => Wk (Q .non) M', rt := fun d M' => Wk (Q d) M' } (startD N_law_refused [.ref f]) M
theorem txt_ph {s : Str} (hs : Asc s) : PyData.canLay0 (.str s) = true ∧ ∀ c ∈ s.cps.toList, c < 16 ^ 8 :=
  ⟨(strOk_iff s).mpr fun c hc => Nat.lt_trans (hs c hc) (by decide), fun c hc => Nat.lt_trans (hs c hc) (by decide)⟩
section
variable {W : DW'} {Q : DK} {M : Mp} {ρ : Rho} {i : Nat} {d : D}
/-- Lot.read(thing), thing in slot i -/
theorem told_read (hi : ρ[i]? = some (some d)) (b : Bad d) (h : Q (.str d.py.shown) M) :
    dLam tt_law_refused W (fun W => dCm "Lot" sp_Lot_read W (dCons (dV i) dNil)) ρ M Q := by
  unfold dLam tt_law_refused
  intro f
  simp (config := { decide := false }) only [dgSubD, dgLs, D.wk, endsW, rowP, dCm, dCmK, dMakeV, rhsE, dRaise, dTry, dHds, dAct, dXf, dIsE, dput, dclr, dEndsC, fnW, pl_lint, pl_tint, eqv_lint, eqv_tint, decide_true, decide_false, djItems, seqJ, dLCG, gMul, dEnum, dLC, dYes, wipeD, dFld, fldOf, dSetF, putD, dMake, mkQ, mkQM, isOf, gIn, gIn2, dDct, gSorted, asI, pick, List.filterMap_cons, List.filterMap_nil, List.getElem?_nil, dSeq, dNext, dRet, dIfS, dAsg, dgName, dgTup, dgCons, dgNil, dgSub, dPar, dAug, dDrop, dNever, dOp, gI, gT, gPlus, gAdd, gEq, gNe, gIs, gIs2, gIx, dV, dC, dB, dAnd, dOr, dNot, dAndV, dNotV, dIf, dNeg, dNil, dCons, dTup, dLst, dLstM, dNoPart, dPart, dSl, dCB, dCall, gLen, gAbs, g2, gStrO, gInt, gInt2, dJoin, dSplit, gStr, gDivmod2, gIsTy, gTuple, gList, gAll, dAppend, dItems, itemsOf, dRange1, dFor, D.onB, D.tyn, D.isNon, asL, rsv, kb_di, kb_db, kb_ds, kb_dt, kb_dl, kb_ii, kb_bi, kb_ni, kb_si, kb_ti, kb_li, kb_ib, kb_bb, kb_nb, kb_sb, kb_tb, kb_lb, kb_is, kb_bs, kb_ns, kb_ss, kb_ts, kb_ls, kb_it, kb_bt, kb_nt, kb_st, kb_tt, kb_lt, startD, List.map_cons, List.map_nil, List.length_cons, List.length_nil, List.cons_append, List.nil_append, List.replicate, List.getElem?_cons_zero, List.getElem?_cons_succ, List.set_cons_zero, List.set_cons_succ, List.zip_cons_cons, List.zip_nil_right, List.foldl_cons, List.foldl_nil, Option.bind_some, Option.bind_none, um_same, um_um, Bool.false_eq_true, reduceCtorEq, false_implies, true_implies, forall_const, true_and, and_true, and_self, Bool.not_true, Bool.not_false, implies_true, decide_eq_true_eq, decide_eq_false_iff_not, Bool.not_eq_true, not_true_eq_false, not_false_eq_true, Bool.not_eq_true', Bool.not_eq_false', D.onB, sizeLine_eq, Nat.reduceAdd, Nat.reduceLeDiff, Nat.zero_add, Nat.reduceLT, pl_bl, pl_i, pl_n, eqv_bl, eqv_ii, eqv_nn, ints_inj, exists_eq_left', exists_eq_left, beq_iff_eq, beq_eq_false_iff_ne, ne_eq, true_or, or_true, false_or, or_false, false_and, and_false, if_true, if_false, List.lookup_cons, beq_self_eq_true, t_law_refused, hi, sp_Lot_read]
  refine ⟨b.l, b.k, fun ps hp => absurd hp (b.n ps), fun _ a ha => ⟨rfl, by decide, ?_⟩⟩
  obtain ⟨e, e1, e2, e3⟩ := b.show M
  unfold gReprH
  simp only
  rw [e]
  exact ⟨⟨.inr e1, e2, e3⟩, Wk.of h⟩
theorem told_readK (hi : ρ[i]? = some (some d)) (b : Bad d) (h : Q (.str d.py.shown) M) :
    dLam tt_law_refused W (fun W => dCmK "Lot" 1 [0, 1] sp_Lot_read W (dCons (dV i) dNil)) ρ M Q := by
  unfold dLam tt_law_refused
  intro f
  simp (config := { decide := false }) only [dgSubD, dgLs, D.wk, endsW, rowP, dCm, dCmK, dMakeV, rhsE, dRaise, dTry, dHds, dAct, dXf, dIsE, dput, dclr, dEndsC, fnW, pl_lint, pl_tint, eqv_lint, eqv_tint, decide_true, decide_false, djItems, seqJ, dLCG, gMul, dEnum, dLC, dYes, wipeD, dFld, fldOf, dSetF, putD, dMake, mkQ, mkQM, isOf, gIn, gIn2, dDct, gSorted, asI, pick, List.filterMap_cons, List.filterMap_nil, List.getElem?_nil, dSeq, dNext, dRet, dIfS, dAsg, dgName, dgTup, dgCons, dgNil, dgSub, dPar, dAug, dDrop, dNever, dOp, gI, gT, gPlus, gAdd, gEq, gNe, gIs, gIs2, gIx, dV, dC, dB, dAnd, dOr, dNot, dAndV, dNotV, dIf, dNeg, dNil, dCons, dTup, dLst, dLstM, dNoPart, dPart, dSl, dCB, dCall, gLen, gAbs, g2, gStrO, gInt, gInt2, dJoin, dSplit, gStr, gDivmod2, gIsTy, gTuple, gList, gAll, dAppend, dItems, itemsOf, dRange1, dFor, D.onB, D.tyn, D.isNon, asL, rsv, kb_di, kb_db, kb_ds, kb_dt, kb_dl, kb_ii, kb_bi, kb_ni, kb_si, kb_ti, kb_li, kb_ib, kb_bb, kb_nb, kb_sb, kb_tb, kb_lb, kb_is, kb_bs, kb_ns, kb_ss, kb_ts, kb_ls, kb_it, kb_bt, kb_nt, kb_st, kb_tt, kb_lt, startD, List.map_cons, List.map_nil, List.length_cons, List.length_nil, List.cons_append, List.nil_append, List.replicate, List.getElem?_cons_zero, List.getElem?_cons_succ, List.set_cons_zero, List.set_cons_succ, List.zip_cons_cons, List.zip_nil_right, List.foldl_cons, List.foldl_nil, Option.bind_some, Option.bind_none, um_same, um_um, Bool.false_eq_true, reduceCtorEq, false_implies, true_implies, forall_const, true_and, and_true, and_self, Bool.not_true, Bool.not_false, implies_true, decide_eq_true_eq, decide_eq_false_iff_not, Bool.not_eq_true, not_true_eq_false, not_false_eq_true, Bool.not_eq_true', Bool.not_eq_false', D.onB, sizeLine_eq, Nat.reduceAdd, Nat.reduceLeDiff, Nat.zero_add, Nat.reduceLT, pl_bl, pl_i, pl_n, eqv_bl, eqv_ii, eqv_nn, ints_inj, exists_eq_left', exists_eq_left, beq_iff_eq, beq_eq_false_iff_ne, ne_eq, true_or, or_true, false_or, or_false, false_and, and_false, if_true, if_false, List.lookup_cons, beq_self_eq_true, t_law_refused, hi, sp_Lot_read]
  refine ⟨b.l, b.k, fun ps hp => absurd hp (b.n ps), fun _ a ha => ⟨rfl, by decide, ?_⟩⟩
  obtain ⟨e, e1, e2, e3⟩ := b.show M
  unfold gReprH
  simp only
  rw [e]
  exact ⟨⟨.inr e1, e2, e3⟩, Wk.of h⟩
theorem told_page {ps : List Int} {s : Str} (hi : ρ[i]? = some (some (.str s))) (hs : s.length ≤ 1000000) (b : pgOk (.str s) ps) (h : Q (.str "told") M) :
    dLam tt_law_refused W (fun W => dCm "Lot" sp_Lot_read W (dCons (dV i) dNil)) ρ M Q := by
  unfold dLam tt_law_refused
  intro f
  simp (config := { decide := false }) only [dgSubD, dgLs, D.wk, endsW, rowP, dCm, dCmK, dMakeV, rhsE, dRaise, dTry, dHds, dAct, dXf, dIsE, dput, dclr, dEndsC, fnW, pl_lint, pl_tint, eqv_lint, eqv_tint, decide_true, decide_false, djItems, seqJ, dLCG, gMul, dEnum, dLC, dYes, wipeD, dFld, fldOf, dSetF, putD, dMake, mkQ, mkQM, isOf, gIn, gIn2, dDct, gSorted, asI, pick, List.filterMap_cons, List.filterMap_nil, List.getElem?_nil, dSeq, dNext, dRet, dIfS, dAsg, dgName, dgTup, dgCons, dgNil, dgSub, dPar, dAug, dDrop, dNever, dOp, gI, gT, gPlus, gAdd, gEq, gNe, gIs, gIs2, gIx, dV, dC, dB, dAnd, dOr, dNot, dAndV, dNotV, dIf, dNeg, dNil, dCons, dTup, dLst, dLstM, dNoPart, dPart, dSl, dCB, dCall, gLen, gAbs, g2, gStrO, gInt, gInt2, dJoin, dSplit, gStr, gDivmod2, gIsTy, gTuple, gList, gAll, dAppend, dItems, itemsOf, dRange1, dFor, D.onB, D.tyn, D.isNon, asL, rsv, kb_di, kb_db, kb_ds, kb_dt, kb_dl, kb_ii, kb_bi, kb_ni, kb_si, kb_ti, kb_li, kb_ib, kb_bb, kb_nb, kb_sb, kb_tb, kb_lb, kb_is, kb_bs, kb_ns, kb_ss, kb_ts, kb_ls, kb_it, kb_bt, kb_nt, kb_st, kb_tt, kb_lt, startD, List.map_cons, List.map_nil, List.length_cons, List.length_nil, List.cons_append, List.nil_append, List.replicate, List.getElem?_cons_zero, List.getElem?_cons_succ, List.set_cons_zero, List.set_cons_succ, List.zip_cons_cons, List.zip_nil_right, List.foldl_cons, List.foldl_nil, Option.bind_some, Option.bind_none, um_same, um_um, Bool.false_eq_true, reduceCtorEq, false_implies, true_implies, forall_const, true_and, and_true, and_self, Bool.not_true, Bool.not_false, implies_true, decide_eq_true_eq, decide_eq_false_iff_not, Bool.not_eq_true, not_true_eq_false, not_false_eq_true, Bool.not_eq_true', Bool.not_eq_false', D.onB, sizeLine_eq, Nat.reduceAdd, Nat.reduceLeDiff, Nat.zero_add, Nat.reduceLT, pl_bl, pl_i, pl_n, eqv_bl, eqv_ii, eqv_nn, ints_inj, exists_eq_left', exists_eq_left, beq_iff_eq, beq_eq_false_iff_ne, ne_eq, true_or, or_true, false_or, or_false, false_and, and_false, if_true, if_false, List.lookup_cons, beq_self_eq_true, t_law_refused, hi, sp_Lot_read]
  exact ⟨fun z e => by cases e; exact hs, rfl, fun _ _ => Wk.of h, fun no => absurd b (no ps)⟩
end
theorem numL_hd : ∀ n : Nat, 1 ≤ n → (TL.numL n).head? ≠ some 48 := by
  intro n
  induction n using Nat.strongRecOn with
  | _ n ih =>
    intro h1
    by_cases h : n < 10
    · rw [TL.numL_lt h]
      simp only [List.head?_cons, ne_eq, Option.some.injEq]
      omega
    · rw [TL.numL_step (by omega), List.head?_append]
      have := ih (n / 10) (by omega) (by omega)
      have ne := TL.numL_ne (n / 10)
      cases e : TL.numL (n / 10) with
      | nil => exact absurd e ne
      | cons c r =>
        rw [e] at this
        simpa using this
theorem row_tl (ps : List Int) : (rowS ps).cps.toList = TL.joinL [32] (ps.map fun p => TL.numL p.toNat) := by
  unfold rowS rowT
  rw [TL.join_eq, show ∀ K, (Str.join " " K).cps.toList = TL.tl (Str.join " " K) from fun _ => rfl, TL.tl_join, tl_sp, List.map_map, List.map_map]
  congr 1
  exact List.map_congr_left fun p _ => tl_nT p.toNat
/-- the signs of a row's text -/
theorem row_chr {ps : List Int} {c : Nat} (h : c ∈ (rowS ps).cps.toList) : c = 32 ∨ (48 ≤ c ∧ c ≤ 57) := by
  rw [row_tl] at h
  rcases join_mem _ h with h | ⟨l, hl, h⟩
  · simp at h; exact .inl h
  · obtain ⟨p, _, rfl⟩ := List.mem_map.mp hl
    exact .inr (TL.numL_digits _ c h)
theorem joinL_head : ∀ {L : List (List Nat)} {a : List Nat}, a ≠ [] → (TL.joinL [32] (a :: L)).head? = a.head?
  | [], _, _ => rfl
  | b :: L, a, h => by
    show (a ++ _).head? = _
    cases a with
    | nil => exact absurd rfl h
    | cons x xs => rfl
theorem joinL_last : ∀ {L : List (List Nat)}, L ≠ [] → (∀ l ∈ L, l ≠ []) → ∃ l ∈ L, (TL.joinL [32] L).getLast? = l.getLast?
  | [a], _, _ => ⟨a, by simp, rfl⟩
  | a :: b :: L, _, h => by
    obtain ⟨l, hl, e⟩ := joinL_last (L := b :: L) (by simp) fun l hl => h l (List.mem_cons_of_mem _ hl)
    refine ⟨l, List.mem_cons_of_mem _ hl, ?_⟩
    rw [← e]
    show (a ++ ([32] ++ TL.joinL [32] (b :: L))).getLast? = _
    have ne : TL.joinL [32] (b :: L) ≠ [] := fun z => by
      have hb := h b (by simp)
      have := joinL_head (L := L) hb
      rw [z] at this
      cases b with
      | nil => exact hb rfl
      | cons x xs => cases this
    rw [List.getLast?_append, List.getLast?_append]
    cases q : (TL.joinL [32] (b :: L)).getLast? with
    | none => exact absurd (List.getLast?_eq_none_iff.mp q) ne
    | some c => simp
theorem row_head {ps : List Int} (ok : okRow 1 1 ps) (ne : ps ≠ []) : ∃ c, (rowS ps).cps.toList.head? = some c ∧ 49 ≤ c ∧ c ≤ 57 := by
  cases ps with
  | nil => exact absurd rfl ne
  | cons p ps =>
    have p2 := ok.1.1
    rw [row_tl, List.map_cons, joinL_head (TL.numL_ne _)]
    have h1 := numL_hd p.toNat (by omega)
    have h2 := TL.numL_digits p.toNat
    have h3 := TL.numL_ne p.toNat
    cases e : TL.numL p.toNat with
    | nil => exact absurd e h3
    | cons c r =>
      rw [e] at h1 h2
      have := h2 c (by simp)
      refine ⟨c, rfl, ?_, this.2⟩
      have : c ≠ 48 := fun z => h1 (by rw [z]; rfl)
      omega
theorem row_last {ps : List Int} (ne : ps ≠ []) : ∃ c, (rowS ps).cps.toList.getLast? = some c ∧ 48 ≤ c ∧ c ≤ 57 := by
  rw [row_tl]
  obtain ⟨l, hl, e⟩ := joinL_last (L := ps.map fun p => TL.numL p.toNat) (by simpa using ne) fun l hl => by
    obtain ⟨p, _, rfl⟩ := List.mem_map.mp hl
    exact TL.numL_ne _
  obtain ⟨p, _, rfl⟩ := List.mem_map.mp hl
  rw [e]
  have h2 := TL.numL_digits p.toNat
  have h3 := TL.numL_ne p.toNat
  refine ⟨(TL.numL p.toNat).getLast h3, List.getLast?_eq_some_getLast h3, h2 _ (List.getLast_mem h3)⟩
theorem rowS_inj {ps qs : List Int} (hp : ∀ p ∈ ps, 0 ≤ p) (hq : ∀ p ∈ qs, 0 ≤ p) (np : ps ≠ []) (nq : qs ≠ []) (e : rowS ps = rowS qs) : ps = qs := by
  have e1 := rows_split np
  have e2 := rows_split nq
  rw [e] at e1
  have e3 : (ps.map Int.toNat).map nT = (qs.map Int.toNat).map nT := e1.symm.trans e2
  have e4 : ps.map Int.toNat = qs.map Int.toNat := by
    have : ∀ a b : List Nat, a.map nT = b.map nT → a = b := by
      intro a
      induction a with
      | nil => intro b h; cases b with
        | nil => rfl
        | cons y ys => cases h
      | cons x xs ih => intro b h; cases b with
        | nil => cases h
        | cons y ys =>
          simp only [List.map_cons, List.cons.injEq] at h
          rw [nT_eq h.1, ih _ h.2]
    exact this _ _ e3
  have back : ∀ L : List Int, (∀ p ∈ L, 0 ≤ p) → (L.map Int.toNat).map (fun n : Nat => (n : Int)) = L := by
    intro L
    induction L with
    | nil => intro _; rfl
    | cons x xs ih =>
      intro h
      rw [List.map_cons, List.map_cons, ih fun y hy => h y (List.mem_cons_of_mem _ hy), Int.toNat_of_nonneg (h x (List.mem_cons_self ..))]
  rw [← back ps hp, ← back qs hq, e4]
theorem rowS_app {ps qs : List Int} (np : ps ≠ []) (nq : qs ≠ []) : rowS ps ++ " " ++ rowS qs = rowS (ps ++ qs) := by
  apply TL.ext_tl
  rw [TL.tl_append, TL.tl_append, tl_sp]
  show (rowS ps).cps.toList ++ [32] ++ (rowS qs).cps.toList = (rowS (ps ++ qs)).cps.toList
  rw [row_tl, row_tl, row_tl, List.map_append]
  have : ∀ (A B : List (List Nat)), A ≠ [] → B ≠ [] → TL.joinL [32] A ++ [32] ++ TL.joinL [32] B = TL.joinL [32] (A ++ B) := by
    intro A
    induction A with
    | nil => intro B h; exact absurd rfl h
    | cons a A ih =>
      intro B _ hB
      cases A with
      | nil =>
        cases B with
        | nil => exact absurd rfl hB
        | cons b B => show a ++ [32] ++ _ = a ++ ([32] ++ _); rw [List.append_assoc]
      | cons a2 A =>
        have := ih B (by simp) hB
        show (a ++ ([32] ++ TL.joinL [32] (a2 :: A))) ++ [32] ++ TL.joinL [32] B = a ++ ([32] ++ TL.joinL [32] (a2 :: A ++ B))
        rw [← this]
        simp only [List.append_assoc]
  exact this _ _ (by simpa using np) (by simpa using nq)
theorem pg_eq {s : Str} {ps : List Int} (h : pgOk (.str s) ps) : okRow 1 1 ps ∧ ps ≠ [] ∧ s = rowS ps := by
  obtain ⟨h1, h2, h3⟩ := h
  cases h3
  exact ⟨h1, h2, rfl⟩
/-- no text of a lot: a sign that is none of theirs -/
theorem no_chr {s : Str} {c : Nat} (hc : c ∈ s.cps.toList) (h : c ≠ 32 ∧ (c < 48 ∨ 57 < c)) : ∀ ps, ¬ pgOk (.str s) ps := fun ps hp => by
  obtain ⟨_, _, e⟩ := pg_eq hp
  rw [e] at hc
  have := row_chr hc
  omega
theorem no_head {s : Str} (h : ∀ c, s.cps.toList.head? = some c → c < 49) : ∀ ps, ¬ pgOk (.str s) ps := fun ps hp => by
  obtain ⟨o, ne, e⟩ := pg_eq hp
  obtain ⟨c, hc, h1, _⟩ := row_head o ne
  rw [← e] at hc
  have := h c hc
  omega
theorem no_last {s : Str} (h : s.cps.toList.getLast? = some 32) : ∀ ps, ¬ pgOk (.str s) ps := fun ps hp => by
  obtain ⟨o, ne, e⟩ := pg_eq hp
  obtain ⟨c, hc, h1, _⟩ := row_last ne
  rw [← e, h] at hc
  cases hc
  omega
theorem no_row {qs : List Int} (hq : ∀ p ∈ qs, 0 ≤ p) (nq : qs ≠ []) (h : ¬ okRow 1 1 qs) : ∀ ps, ¬ pgOk (.str (rowS qs)) ps := fun ps hp => by
  obtain ⟨o, ne, e⟩ := pg_eq hp
  have := rowS_inj hq (fun p hp => by have := (okRow_isP o p hp).1; omega) nq ne e
  rw [this] at h
  exact h o
theorem okRow_app : ∀ {ps qs : List Int} {b w : Int}, okRow b w (ps ++ qs) → (∀ p ∈ ps, b < p) ∧ ∀ q ∈ qs, (∀ p ∈ ps, p < q) ∧ isP q
  | [], qs, b, w, h => ⟨by simp, fun q hq => ⟨by simp, okRow_isP h q hq⟩⟩
  | p :: ps, qs, b, w, ⟨h1, h2, h3, h4⟩ => by
    obtain ⟨k1, k2⟩ := okRow_app (ps := ps) h4
    have gt : ∀ {L : List Int} {b w : Int}, okRow b w L → ∀ q ∈ L, b < q := by
      intro L
      induction L with
      | nil => intro _ _ _ q hq; cases hq
      | cons x xs ih =>
        intro b w h q hq
        rcases List.mem_cons.mp hq with rfl | hq
        · exact h.2.1
        · have := ih h.2.2.2 q hq
          have := h.2.1
          omega
    refine ⟨fun x hx => ?_, fun q hq => ⟨fun x hx => ?_, (k2 q hq).2⟩⟩
    · rcases List.mem_cons.mp hx with rfl | hx
      · exact h2
      · have := k1 x hx; omega
    · rcases List.mem_cons.mp hx with rfl | hx
      · exact gt h4 q (List.mem_append_right _ hq)
      · exact (k2 q hq).1 x hx
abbrev N_law_right : List Str := ["_law_gourd", "_law_turn", "_law_row_here", "_law_page", "_law_lot_here", "_law_some", "_law_thing", "_law_told", "_law_each"]
def sp_law_right : DSp := fun ds M Q E => match ds with
  | [.ref g] => Gd M g ∧ ∀ M', Gw g M M' → Q (.bl true) M'
  | _ => False
theorem len_law_right : ∀ ds M Q E, sp_law_right ds M Q E → ds.length = 1 := fun ds M Q E h => by
  unfold sp_law_right at h; split at h <;> first | rfl | exact h.elim
def u2_2_law_right (W : DW') : TDS :=
  dIfS (dB (dOp gNe (dV 7) (dOp gMul (dLst (dCons (dCB gReprH (dCons (dV 6) (dNil))) (dNil))) (dC (.int 2))))) (dRet (dC (.bl false))) (dNext)
def u2_1_law_right (W : DW') : TDS :=
  dSeq (dDrop (dAppend (dV 7) (dCons (dLam tt_law_refused W (fun W => dCmK "Lot" 1 [0, 1] sp_Lot_read W (dCons (dV 6) (dNil)))) (dNil)))) <|
  u2_2_law_right W
def b3_law_right (W : DW') : TDS :=
  dSeq (dAsg (dLstM (dCons (dLam tt_law_refused W (fun W => dCm "Lot" sp_Lot_read W (dCons (dV 6) (dNil)))) (dNil))) (dgName 7)) <|
  u2_1_law_right W
def u1_8_law_right (W : DW') : TDS :=
  dIfS (dOr (dB (dOp gNe (dCB (gStrO "Lot" sp_Lot___str) (dCons (dV 4) (dNil))) (dV 3))) (dB (dOp gNe (dLam tt_law_refused W (fun W => dCm "Lot" sp_Lot_read W (dCons (dV 3) (dNil)))) (dC (.str "told"))))) (dRet (dC (.bl false))) (dNext)
def u1_7_law_right (W : DW') : TDS :=
  dSeq (dFor (dItems (dV 5)) (dgName 6) (b3_law_right W)) <|
  u1_8_law_right W
def u1_6_law_right (W : DW') : TDS :=
  dSeq (dAsg (dOp gAdd (dV 5) (dLst (dCons (dOp gAddS (dV 3) (dC (.str " a"))) (dCons (dOp gAddS (dRepl (dV 3) " " ",") (dC (.str ","))) (dCons (dOp gAdd (dOp gAdd (dV 3) (dC (.str " "))) (dV 3)) (dCons (dC (.str "two")) (dCons (dC (.str "4")) (dCons (dOp gAdd (dV 3) (dC (.str " 1"))) (dNil))))))))) (dgName 5)) <|
  u1_7_law_right W
def u1_5_law_right (W : DW') : TDS :=
  dSeq (dAsg (dOp gAdd (dV 5) (dLst (dCons (dC (.str "")) (dCons (dC (.str " ")) (dCons (dC (.str "\n")) (dCons (dOp gAdd (dV 3) (dC (.str "\n"))) (dCons (dOp gAdd (dC (.str "\n")) (dV 3)) (dCons (dOp gAdd (dC (.str " ")) (dV 3)) (dCons (dOp gAdd (dV 3) (dC (.str " "))) (dCons (dOp gAdd (dC (.str "-")) (dV 3)) (dCons (dOp gAdd (dC (.str "0")) (dV 3)) (dCons (dC (.str "1")) (dNil))))))))))))) (dgName 5)) <|
  u1_6_law_right W
def u1_4_law_right (W : DW') : TDS :=
  dSeq (dAsg (dOp gAdd (dV 5) (dLst (dCons (dCall (sp_law_nested 5) W (dCons (dV 0) (dCons (dOp gAdd (dC (.int 1)) (dCall sp_law_gulp W (dCons (dV 0) (dCons (dC (.int 4)) (dNil))))) (dNil)))) (dCons (dTup (dCons (dV 3) (dNil))) (dCons (dLst (dCons (dV 3) (dNil))) (dCons (dDsp1 (dV 3) (dV 3)) (dCons (dOp (gI CPow fun i j => .int (i ^ j.toNat)) (dC (.int 10)) (dC (.int 60))) (dCons (dTup (dNil)) (dNil))))))))) (dgName 5)) <|
  u1_5_law_right W
def u1_3_law_right (W : DW') : TDS :=
  dSeq (dAsg (dLst (dCons (dC .non) (dCons (dC (.int 0)) (dCons (dC (.int 7)) (dCons (dC (.bl true)) (dCons (dC (.bl false)) (dCons (dV 2) (dCons (dCB gList (dCons (dV 2) (dNil))) (dCons (dSplit (dV 3) (dC (.str " "))) (dCons (dCB gTuple (dCons (dSplit (dV 3) (dC (.str " "))) (dNil))) (dCons (dDct) (dCons (dOp gIx (dV 2) (dC (.int 0))) (dCons (dNeg (dC (.int 2))) (dNil)))))))))))))) (dgName 5)) <|
  u1_4_law_right W
def u1_2_law_right (W : DW') : TDS :=
  dSeq (dAsg (dMake "Lot" sp_Lot___init W (dCons (dV 2) (dNil))) (dgName 4)) <|
  u1_3_law_right W
def u1_1_law_right (W : DW') : TDS :=
  dSeq (dAsg (dJoin (dC (.str " ")) (dLC [8] 8 (dItems (dV 2)) (dYes) (dCB gStr (dCons (dV 8) (dNil))))) (dgName 3)) <|
  u1_2_law_right W
def b12_law_right (W : DW') : TDS :=
  dSeq (dAsg (dCall sp_law_row W (dCons (dV 0) (dCons (dC (.int 30030)) (dNil)))) (dgName 2)) <|
  u1_1_law_right W
def r1_law_right (W : DW') : TDS :=
  dRet (dC (.bl true))
def t_law_right (W : DW') : TDS :=
  dSeq (dFor (dRange1 (dCons (dC (.int 6)) (dNil))) (dgName 1) (b12_law_right W)) <|
  r1_law_right W
theorem bad_str {s : Str} (hs : Asc s) (hl : s.length ≤ 5000) (n : ∀ ps, ¬ pgOk (.str s) ps) : Bad (.str s) := by
  have h5 : s.cps.size ≤ 5000 := hl
  exact ⟨by simp only [D.fitH]; exact txt_ph hs, by simp [D.hp], by simp only [D.hz]; omega, rfl, fun z e => by cases e; omega, n⟩
theorem bad_plain {d : D} (f : d.fitH) (p : d.hp ≤ 9) (z : d.hz ≤ 1000000) (k : knH d = true) (ns : ∀ s, d ≠ .str s) : Bad d :=
  ⟨f, p, z, k, fun s e => absurd e (ns s), fun ps hp => by obtain ⟨_, _, e⟩ := hp; exact ns _ e⟩
theorem fits_ints : ∀ {ps : List Int}, (∀ p ∈ ps, p.natAbs < 10 ^ 199) → fitsH (ps.map .int) ∧ hps (ps.map .int) = 0 ∧ hzs (ps.map .int) = 202 * ps.length
  | [], _ => by simp [fitsH, hps, hzs]
  | p :: ps, h => by
    obtain ⟨a, b, c⟩ := fits_ints (ps := ps) fun q hq => h q (List.mem_cons_of_mem _ hq)
    have hp := h p (List.mem_cons_self ..)
    simp only [List.map_cons, fitsH, hps, hzs, D.fitH, D.hp, D.hz, b, c, List.length_cons]
    exact ⟨⟨hp, a⟩, by omega, by omega⟩
theorem fits_strs : ∀ {ws : List Str}, (∀ w ∈ ws, Asc w) → fitsH (ws.map .str) ∧ hps (ws.map .str) = 0 ∧ hzs (ws.map .str) = 10 * (ws.map (·.length)).sum + 4 * ws.length
  | [], _ => by simp [fitsH, hps, hzs]
  | w :: ws, h => by
    obtain ⟨a, b, c⟩ := fits_strs (ws := ws) fun q hq => h q (List.mem_cons_of_mem _ hq)
    have hp := txt_ph (h w (List.mem_cons_self ..))
    have e : w.cps.size = w.length := rfl
    simp only [List.map_cons, fitsH, hps, hzs, D.fitH, D.hp, D.hz, b, c, List.length_cons, List.sum_cons, e]
    exact ⟨⟨hp, a⟩, by omega, by omega⟩
theorem row_len06 {ps : List Int} (ok : okRow 1 1 ps) (l14 : ps.length ≤ 14) : (rowS ps).length ≤ 900 := by
  have al := okRow_isP ok
  rw [TL.len_tl]
  show (rowS ps).cps.toList.length ≤ 900
  rw [row_tl]
  refine Nat.le_trans (joinL_leS [32] _) ?_
  have : ∀ L : List Int, (∀ p ∈ L, isP p) → (((L.map fun p => TL.numL p.toNat).map (·.length)).sum) ≤ 60 * L.length := by
    intro L
    induction L with
    | nil => intro _; simp
    | cons x xs ih =>
      intro h
      have := ih fun y hy => h y (List.mem_cons_of_mem _ hy)
      have hx := h x (List.mem_cons_self ..)
      have h2 := hx.2.1
      have h1 := hx.1
      have := TL.numL_len (n := x.toNat) (k := 60) (by decide) (Nat.lt_of_lt_of_le (show x.toNat < 30031 by omega) (by decide +kernel))
      simp only [List.map_cons, List.sum_cons, List.length_cons]
      omega
  have := this ps al
  simp only [List.length_map, List.length_cons, List.length_nil] at this ⊢
  omega
section
variable {g : Addr} {row : List Int}
/-- the row that a turn has -/
structure Rw (row : List Int) : Prop where
  ok : okRow 1 1 row
  ne : row ≠ []
  l : row.length ≤ 14
theorem Rw.asc (h : Rw row) : Asc (rowS row) := fun c hc => rowS_low row c hc
theorem Rw.len (h : Rw row) : (rowS row).length ≤ 900 := row_len06 h.ok h.l
theorem Rw.nat (h : Rw row) : ∀ p ∈ row, p.natAbs < 10 ^ 199 := fun p hp => by
  have := okRow_isP h.ok p hp
  have h1 := this.1
  have h2 := this.2.1
  exact Nat.lt_of_lt_of_le (show p.natAbs < 30031 by omega) (by decide +kernel)
/-- the values of the first list -/
theorem list1 (h : Rw row) {x : Int} (hx : x ∈ row) : ∀ d ∈ [D.non, .int 0, .int 7, .bl true, .bl false, .tup (row.map .int), .lst (row.map .int), .lst ((Txt.split (rowS row) " ").map .str), .tup ((Txt.split (rowS row) " ").map .str), .dct, .int x, .int (-2)], Bad d := by
  obtain ⟨a, b, c⟩ := fits_ints h.nat
  have ss := split_sum (rowS row)
  have rl := h.len
  have l14 := h.l
  obtain ⟨a2, b2, c2⟩ := fits_strs (ws := Txt.split (rowS row) " ") (asc_words h.asc)
  have hn := h.nat x hx
  intro d hd
  simp only [List.mem_cons, List.not_mem_nil, or_false] at hd
  rcases hd with rfl | rfl | rfl | rfl | rfl | rfl | rfl | rfl | rfl | rfl | rfl | rfl
  · exact bad_plain (by simp [D.fitH]) (by simp [D.hp]) (by simp [D.hz]) rfl (fun _ => nofun)
  · exact bad_plain (by simp only [D.fitH]; decide) (by simp [D.hp]) (by simp [D.hz]) rfl (fun _ => nofun)
  · exact bad_plain (by simp only [D.fitH]; decide) (by simp [D.hp]) (by simp [D.hz]) rfl (fun _ => nofun)
  · exact bad_plain (by simp [D.fitH]) (by simp [D.hp]) (by simp [D.hz]) rfl (fun _ => nofun)
  · exact bad_plain (by simp [D.fitH]) (by simp [D.hp]) (by simp [D.hz]) rfl (fun _ => nofun)
  · exact bad_plain (by simpa only [D.fitH] using a) (by simp only [D.hp]; omega) (by simp only [D.hz]; omega) rfl (fun _ => nofun)
  · exact bad_plain (by simpa only [D.fitH] using a) (by simp only [D.hp]; omega) (by simp only [D.hz]; omega) rfl (fun _ => nofun)
  · exact bad_plain (by simpa only [D.fitH] using a2) (by simp only [D.hp]; omega) (by simp only [D.hz]; omega) rfl (fun _ => nofun)
  · exact bad_plain (by simpa only [D.fitH] using a2) (by simp only [D.hp]; omega) (by simp only [D.hz]; omega) rfl (fun _ => nofun)
  · exact bad_plain (by simp [D.fitH]) (by simp [D.hp]) (by simp [D.hz]) rfl (fun _ => nofun)
  · exact bad_plain (by simp only [D.fitH]; exact hn) (by simp [D.hp]) (by simp [D.hz]) rfl (fun _ => nofun)
  · exact bad_plain (by simp only [D.fitH]; decide) (by simp [D.hp]) (by simp [D.hz]) rfl (fun _ => nofun)
/-- .. of the second one -/
theorem list2 (h : Rw row) {n : D} {j : Nat} (hn : Nz j n) (j1 : 1 ≤ j) (j4 : j ≤ 4) (hb : boxB n = true) : ∀ d ∈ [n, .tup [.str (rowS row)], .lst [.str (rowS row)], .dcs [rowS row] [.str (rowS row)], .int 1000000000000000000000000000000000000000000000000000000000000, .tup []], Bad d := by
  have rl := h.len
  have sz : (rowS row).cps.size ≤ 900 := rl
  have tp := txt_ph h.asc
  intro d hd
  simp only [List.mem_cons, List.not_mem_nil, or_false] at hd
  rcases hd with rfl | rfl | rfl | rfl | rfl | rfl
  · have p := hn.p
    have z := hn.z
    have : 2 ^ j ≤ 2 ^ 4 := Nat.pow_le_pow_right (by decide) j4
    exact bad_plain hn.f (by omega) (by omega) hn.k (fun s e => by rw [e] at hb; cases hb)
  · exact bad_plain (by simp only [D.fitH, fitsH]; exact ⟨tp, trivial⟩) (by simp [D.hp, hps]) (by simp only [D.hz, hzs]; omega) rfl (fun _ => nofun)
  · exact bad_plain (by simp only [D.fitH, fitsH]; exact ⟨tp, trivial⟩) (by simp [D.hp, hps]) (by simp only [D.hz, hzs]; omega) rfl (fun _ => nofun)
  · refine bad_plain ?_ (by simp [D.hp, hps]) (by simp only [D.hz, hzs, List.map_cons, List.map_nil, List.sum_cons, List.sum_nil]; omega) rfl (fun _ => nofun)
    simp only [D.fitH, fitsH, List.length_cons, List.length_nil, List.mem_cons, List.not_mem_nil, or_false, forall_eq]
    exact ⟨⟨trivial, tp⟩, tp, trivial⟩
  · exact bad_plain (by simp only [D.fitH]; decide +kernel) (by simp [D.hp]) (by simp [D.hz]) rfl (fun _ => nofun)
  · exact bad_plain (by simp [D.fitH, fitsH]) (by simp [D.hp, hps]) (by simp [D.hz, hzs]) rfl (fun _ => nofun)
theorem sp_one6 : (" " : Str) = ⟨#[32]⟩ := TL.ext_tl tl_sp
theorem app_len06 (a b : Str) : (a ++ b).length = a.length + b.length := by rw [TL.len_tl, TL.len_tl, TL.len_tl, TL.tl_append, List.length_append]
theorem asc_app06 {a b : Str} (ha : Asc a) (hb : Asc b) : Asc (a ++ b) := by
  intro c hc
  rw [show (a ++ b).cps.toList = TL.tl (a ++ b) from rfl, TL.tl_append] at hc
  exact (List.mem_append.mp hc).elim (ha c) (hb c)
theorem app_cps (a b : Str) : (a ++ b).cps.toList = a.cps.toList ++ b.cps.toList := TL.tl_append a b
def lits : List Str := ["", " ", "\n", "-", "0", "1", " a", ",", "two", "4", " 1"]
theorem lit_ok : ∀ s ∈ lits, Asc s ∧ s.length ≤ 3 := by
  have h : lits.all (fun t => (t.cps.toList.all fun c => decide (c < 128)) && decide (t.length ≤ 3)) = true := by decide +kernel
  intro t ht
  have := List.all_eq_true.mp h t ht
  simp only [Bool.and_eq_true, decide_eq_true_eq, List.all_eq_true] at this
  exact this
theorem list3 (h : Rw row) : ∀ d ∈ [D.str "", .str " ", .str "\n", .str (rowS row ++ "\n"), .str ("\n" ++ rowS row), .str (" " ++ rowS row), .str (rowS row ++ " "), .str ("-" ++ rowS row), .str ("0" ++ rowS row), .str "1"], Bad d := by
  have rl := h.len
  have ha := h.asc
  have one : ∀ s ∈ lits, (∀ ps, ¬ pgOk (.str s) ps) → Bad (.str s) := fun s hs n => bad_str (lit_ok s hs).1 (by have := (lit_ok s hs).2; omega) n
  have pre : ∀ s ∈ lits, (∀ ps, ¬ pgOk (.str (s ++ rowS row)) ps) → Bad (.str (s ++ rowS row)) := fun s hs n => bad_str (asc_app06 (lit_ok s hs).1 ha) (by rw [app_len06]; have := (lit_ok s hs).2; omega) n
  have suf : ∀ s ∈ lits, (∀ ps, ¬ pgOk (.str (rowS row ++ s)) ps) → Bad (.str (rowS row ++ s)) := fun s hs n => bad_str (asc_app06 ha (lit_ok s hs).1) (by rw [app_len06]; have := (lit_ok s hs).2; omega) n
  have nl : ("\n" : Str).cps.toList = [10] := by decide +kernel
  have sp : (" " : Str).cps.toList = [32] := by decide +kernel
  have mi : ("-" : Str).cps.toList = [45] := by decide +kernel
  have ze : ("0" : Str).cps.toList = [48] := by decide +kernel
  intro d hd
  simp only [List.mem_cons, List.not_mem_nil, or_false] at hd
  rcases hd with rfl | rfl | rfl | rfl | rfl | rfl | rfl | rfl | rfl | rfl
  · exact one _ (by decide +kernel) (no_head fun c hc => by rw [show ("" : Str).cps.toList = [] by decide +kernel] at hc; cases hc)
  · exact one _ (by decide +kernel) (no_head fun c hc => by rw [sp] at hc; cases hc; decide)
  · exact one _ (by decide +kernel) (no_chr (c := 10) (by rw [nl]; simp) ⟨by decide, .inl (by decide)⟩)
  · exact suf _ (by decide +kernel) (no_chr (c := 10) (by rw [app_cps, nl]; simp) ⟨by decide, .inl (by decide)⟩)
  · exact pre _ (by decide +kernel) (no_chr (c := 10) (by rw [app_cps, nl]; simp) ⟨by decide, .inl (by decide)⟩)
  · exact pre _ (by decide +kernel) (no_head fun c hc => by rw [app_cps, sp] at hc; cases hc; decide)
  · exact suf _ (by decide +kernel) (no_last (by rw [app_cps, sp]; simp))
  · exact pre _ (by decide +kernel) (no_chr (c := 45) (by rw [app_cps, mi]; simp) ⟨by decide, .inl (by decide)⟩)
  · exact pre _ (by decide +kernel) (no_head fun c hc => by rw [app_cps, ze] at hc; cases hc; decide)
  · refine one _ (by decide +kernel) ?_
    have e : ("1" : Str) = rowS [1] := by decide +kernel
    rw [e]
    exact no_row (by simp) (by simp) fun z => absurd z.1.1 (by decide)
theorem rep_cps (s : Str) : (Txt.replace s " " ",").cps.toList = TL.joinL [44] ((Txt.split s " ").map TL.tl) := by
  rw [sp_one6, StrLaws.replace_one, ← sp_one6]
  rw [show ∀ K, (Str.join "," K).cps.toList = TL.tl (Str.join "," K) from fun _ => rfl, TL.tl_join, show TL.tl ("," : Str) = [44] by decide +kernel]
theorem list4 (h : Rw row) : (Txt.replace (rowS row) " " ",").length ≤ 2000 ∧ ∀ d ∈ [D.str (rowS row ++ " a"), .str (Txt.replace (rowS row) " " "," ++ ","), .str (rowS row ++ " " ++ rowS row), .str "two", .str "4", .str (rowS row ++ " 1")], Bad d := by
  have rl := h.len
  have ha := h.asc
  have one : ∀ s ∈ lits, (∀ ps, ¬ pgOk (.str s) ps) → Bad (.str s) := fun s hs n => bad_str (lit_ok s hs).1 (by have := (lit_ok s hs).2; omega) n
  have suf : ∀ s ∈ lits, (∀ ps, ¬ pgOk (.str (rowS row ++ s)) ps) → Bad (.str (rowS row ++ s)) := fun s hs n => bad_str (asc_app06 ha (lit_ok s hs).1) (by rw [app_len06]; have := (lit_ok s hs).2; omega) n
  have ss := split_sum (rowS row)
  have rp := rep_cps (rowS row)
  have rpl : (Txt.replace (rowS row) " " ",").length ≤ 2000 := by
    rw [TL.len_tl]
    show (Txt.replace (rowS row) " " ",").cps.toList.length ≤ 2000
    rw [rp]
    refine Nat.le_trans (joinL_leS [44] _) ?_
    rw [map_len, List.length_map]
    simp only [List.length_cons, List.length_nil]
    omega
  have rpa : Asc (Txt.replace (rowS row) " " ",") := fun c hc => by
    rw [rp] at hc
    rcases join_mem _ hc with h1 | ⟨l, hl, h1⟩
    · simp at h1; omega
    · obtain ⟨w, hw, rfl⟩ := List.mem_map.mp hl
      exact asc_words ha w hw c h1
  have r0 : ∀ p ∈ row, 0 ≤ p := fun p hp => by have := (okRow_isP h.ok p hp).1; omega
  have c1 : ("," : Str).cps.toList = [44] := by decide +kernel
  refine ⟨rpl, fun d hd => ?_⟩
  simp only [List.mem_cons, List.not_mem_nil, or_false] at hd
  rcases hd with rfl | rfl | rfl | rfl | rfl | rfl
  · exact suf _ (by decide +kernel) (no_chr (c := 97) (by rw [app_cps, show (" a" : Str).cps.toList = [32, 97] by decide +kernel]; simp) ⟨by decide, .inr (by decide)⟩)
  · exact bad_str (asc_app06 rpa (lit_ok _ (by decide +kernel)).1) (by rw [app_len06]; have := (lit_ok "," (by decide +kernel)).2; omega) (no_chr (c := 44) (by rw [app_cps, c1]; simp) ⟨by decide, .inl (by decide)⟩)
  · refine bad_str (asc_app06 (asc_app06 ha (lit_ok _ (by decide +kernel)).1) ha) (by rw [app_len06, app_len06]; have := (lit_ok " " (by decide +kernel)).2; omega) ?_
    rw [rowS_app h.ne h.ne]
    refine no_row (fun p hp => (List.mem_append.mp hp).elim (r0 p) (r0 p)) (by simp [h.ne]) fun z => ?_
    obtain ⟨p, hp⟩ := List.exists_mem_of_ne_nil _ h.ne
    have := ((okRow_app z).2 p hp).1 p hp
    omega
  · exact one _ (by decide +kernel) (no_chr (c := 116) (by rw [show ("two" : Str).cps.toList = [116, 119, 111] by decide +kernel]; simp) ⟨by decide, .inr (by decide)⟩)
  · refine one _ (by decide +kernel) ?_
    have e : ("4" : Str) = rowS [4] := by decide +kernel
    rw [e]
    exact no_row (by simp) (by simp) fun z => absurd (z.1.2.2 2 (by decide) (by decide)) (by decide)
  · refine suf _ (by decide +kernel) ?_
    have e : rowS row ++ " 1" = rowS (row ++ [1]) := by
      rw [← rowS_app h.ne (by simp)]
      apply TL.ext_tl
      rw [TL.tl_append, TL.tl_append, TL.tl_append, List.append_assoc]
      congr 1
    rw [e]
    refine no_row (fun p hp => (List.mem_append.mp hp).elim (r0 p) fun z => by rw [List.mem_singleton.mp z]; decide) (by simp) fun z => ?_
    have := ((okRow_app z).2 1 (by simp)).2.1
    omega
end
section
variable {M0 M : Mp} {g : Addr} {E : XE'} {K : DEnds} {a1 a2 a3 a4 a5 a7 a8 : Option D}
/-- one value -/
theorem b3_ok {d : D} (gw : Gw g M0 M) (b : Bad d) (q : ∀ M' b7, Gw g M0 M' → K.nx [some (.ref g), a1, a2, a3, a4, a5, some d, b7, a8] M') :
    b3_law_right (fnW E) K [some (.ref g), a1, a2, a3, a4, a5, some d, a7, a8] M := by
  unfold b3_law_right u2_1_law_right u2_2_law_right
  simp only [dSeq, dAsg, dLstM, dCons, dNil, dgName, dDrop, dAppend, List.set_cons_succ, List.set_cons_zero]
  refine told_read (d := d) rfl b ?_
  refine ⟨by simp [sizeLine_eq], fun p hp => ?_⟩
  have ng := gw.1.ne hp
  simp only [dV, List.getElem?_cons_zero, List.getElem?_cons_succ]
  refine ⟨⟨_, um_same _ _ _⟩, told_readK (d := d) rfl b ?_⟩
  simp only [um_same]
  refine ⟨by simp [sizeLine_eq], ?_⟩
  have e2 : um (um M p (.lst [.str d.py.shown])) p (.lst ([.str d.py.shown] ++ [.str d.py.shown])) = um M p (.lst [.str d.py.shown, .str d.py.shown]) := by
    funext x
    by_cases z : x = p
    · subst z; rw [um_same, um_same]; rfl
    · rw [um_ne z, um_ne z, um_ne z]
  rw [e2]
  have gw2 : Gw g M0 (um M p (.lst [.str d.py.shown, .str d.py.shown])) := gw.set (gw.none hp) ng
  have hp2 : um M p (.lst [.str d.py.shown, .str d.py.shown]) p = some (.lst [.str d.py.shown, .str d.py.shown]) := um_same _ _ _
  generalize um M p (.lst [.str d.py.shown, .str d.py.shown]) = M2 at gw2 hp2 ⊢
  have pl := lay_H b.f 11
  obtain ⟨e, s1, s2, s3⟩ := b.show M2
  have pl2 : (D.lst [.str d.py.shown, .str d.py.shown]).pl 12 = true := by
    show pls 11 _ = true
    simp [pls, pl]
  simp only [dIfS, dB, dOp, dCB, dCons, dNil, dLst, dV, dC, List.getElem?_cons_zero, List.getElem?_cons_succ]
  unfold gReprH
  simp only
  rw [e]
  refine ⟨⟨.inr s1, s2, s3⟩, ?_⟩
  generalize d.py.shown = T at *
  simp (config := { decide := false }) only [dgSubD, dgLs, D.wk, endsW, rowP, dCm, dCmK, dMakeV, rhsE, dRaise, dTry, dHds, dAct, dXf, dIsE, dput, dclr, dEndsC, fnW, pl_lint, pl_tint, eqv_lint, eqv_tint, decide_true, decide_false, djItems, seqJ, dLCG, gMul, dEnum, dLC, dYes, wipeD, dFld, fldOf, dSetF, putD, dMake, mkQ, mkQM, isOf, gIn, gIn2, dDct, gSorted, asI, pick, List.filterMap_cons, List.filterMap_nil, List.getElem?_nil, dSeq, dNext, dRet, dIfS, dAsg, dgName, dgTup, dgCons, dgNil, dgSub, dPar, dAug, dDrop, dNever, dOp, gI, gT, gPlus, gAdd, gEq, gNe, gIs, gIs2, gIx, dV, dC, dB, dAnd, dOr, dNot, dAndV, dNotV, dIf, dNeg, dNil, dCons, dTup, dLst, dLstM, dNoPart, dPart, dSl, dCB, dCall, gLen, gAbs, g2, gStrO, gInt, gInt2, dJoin, dSplit, gStr, gDivmod2, gIsTy, gTuple, gList, gAll, dAppend, dItems, itemsOf, dRange1, dFor, D.onB, D.tyn, D.isNon, asL, rsv, kb_di, kb_db, kb_ds, kb_dt, kb_dl, kb_ii, kb_bi, kb_ni, kb_si, kb_ti, kb_li, kb_ib, kb_bb, kb_nb, kb_sb, kb_tb, kb_lb, kb_is, kb_bs, kb_ns, kb_ss, kb_ts, kb_ls, kb_it, kb_bt, kb_nt, kb_st, kb_tt, kb_lt, startD, List.map_cons, List.map_nil, List.length_cons, List.length_nil, List.cons_append, List.nil_append, List.replicate, List.getElem?_cons_zero, List.getElem?_cons_succ, List.set_cons_zero, List.set_cons_succ, List.zip_cons_cons, List.zip_nil_right, List.foldl_cons, List.foldl_nil, Option.bind_some, Option.bind_none, um_same, um_um, Bool.false_eq_true, reduceCtorEq, false_implies, true_implies, forall_const, true_and, and_true, and_self, Bool.not_true, Bool.not_false, implies_true, decide_eq_true_eq, decide_eq_false_iff_not, Bool.not_eq_true, not_true_eq_false, not_false_eq_true, Bool.not_eq_true', Bool.not_eq_false', D.onB, sizeLine_eq, Nat.reduceAdd, Nat.reduceLeDiff, Nat.zero_add, Nat.reduceLT, pl_bl, pl_i, pl_n, eqv_bl, eqv_ii, eqv_nn, ints_inj, exists_eq_left', exists_eq_left, beq_iff_eq, beq_eq_false_iff_ne, ne_eq, true_or, or_true, false_or, or_false, false_and, and_false, if_true, if_false, List.lookup_cons, beq_self_eq_true, hp2]
  have r2 : (List.replicate (Int.toNat 2) [D.str T]).flatten = [.str T, .str T] := rfl
  rw [r2]
  exact ⟨⟨by decide, by decide⟩, ⟨pl2, pl2⟩, fun z => absurd z (by rw [eqv_self pl2]; decide), fun _ => q _ _ gw2⟩
theorem u8_ok {row : List Int} (gw : Gw g M0 M) (h : Rw row) (q : K.nx [some (.ref g), a1, a2, some (.str (rowS row)), some (lotD row), a5, a3, a7, a8] M) :
    u1_8_law_right (fnW E) K [some (.ref g), a1, a2, some (.str (rowS row)), some (lotD row), a5, a3, a7, a8] M := by
  have tp := fun (Q : DK) hQ => told_page (W := fnW E) (Q := Q) (ρ := [some (.ref g), a1, a2, some (.str (rowS row)), some (lotD row), a5, a3, a7, a8]) (i := 3) (M := M) (s := rowS row) (ps := row) rfl (by have := h.len; omega) ⟨h.ok, h.ne, rfl⟩ hQ
  unfold u1_8_law_right
  generalize hl : (fun W : DW' => dCm "Lot" sp_Lot_read W (dCons (dV 3) dNil)) = L at *
  generalize dLam tt_law_refused (fnW E) = DL at *
  simp (config := { decide := false }) only [dgSubD, dgLs, D.wk, endsW, rowP, dCm, dCmK, dMakeV, rhsE, dRaise, dTry, dHds, dAct, dXf, dIsE, dput, dclr, dEndsC, fnW, pl_lint, pl_tint, eqv_lint, eqv_tint, decide_true, decide_false, djItems, seqJ, dLCG, gMul, dEnum, dLC, dYes, wipeD, dFld, fldOf, dSetF, putD, dMake, mkQ, mkQM, isOf, gIn, gIn2, dDct, gSorted, asI, pick, List.filterMap_cons, List.filterMap_nil, List.getElem?_nil, dSeq, dNext, dRet, dIfS, dAsg, dgName, dgTup, dgCons, dgNil, dgSub, dPar, dAug, dDrop, dNever, dOp, gI, gT, gPlus, gAdd, gEq, gNe, gIs, gIs2, gIx, dV, dC, dB, dAnd, dOr, dNot, dAndV, dNotV, dIf, dNeg, dNil, dCons, dTup, dLst, dLstM, dNoPart, dPart, dSl, dCB, dCall, gLen, gAbs, g2, gStrO, gInt, gInt2, dJoin, dSplit, gStr, gDivmod2, gIsTy, gTuple, gList, gAll, dAppend, dItems, itemsOf, dRange1, dFor, D.onB, D.tyn, D.isNon, asL, rsv, kb_di, kb_db, kb_ds, kb_dt, kb_dl, kb_ii, kb_bi, kb_ni, kb_si, kb_ti, kb_li, kb_ib, kb_bb, kb_nb, kb_sb, kb_tb, kb_lb, kb_is, kb_bs, kb_ns, kb_ss, kb_ts, kb_ls, kb_it, kb_bt, kb_nt, kb_st, kb_tt, kb_lt, startD, List.map_cons, List.map_nil, List.length_cons, List.length_nil, List.cons_append, List.nil_append, List.replicate, List.getElem?_cons_zero, List.getElem?_cons_succ, List.set_cons_zero, List.set_cons_succ, List.zip_cons_cons, List.zip_nil_right, List.foldl_cons, List.foldl_nil, Option.bind_some, Option.bind_none, um_same, um_um, Bool.false_eq_true, reduceCtorEq, false_implies, true_implies, forall_const, true_and, and_true, and_self, Bool.not_true, Bool.not_false, implies_true, decide_eq_true_eq, decide_eq_false_iff_not, Bool.not_eq_true, not_true_eq_false, not_false_eq_true, Bool.not_eq_true', Bool.not_eq_false', D.onB, sizeLine_eq, Nat.reduceAdd, Nat.reduceLeDiff, Nat.zero_add, Nat.reduceLT, pl_bl, pl_i, pl_n, eqv_bl, eqv_ii, eqv_nn, ints_inj, exists_eq_left', exists_eq_left, beq_iff_eq, beq_eq_false_iff_ne, ne_eq, true_or, or_true, false_or, or_false, false_and, and_false, if_true, if_false, List.lookup_cons, beq_self_eq_true, sp_Lot___str, cm_strL]
  refine ⟨row, rfl, okRow_P 1 1 row h.ok, by have := h.l; omega, fun z => absurd rfl z, fun _ => tp _ ?_⟩
  exact ⟨fun z => absurd rfl z, fun _ => q⟩
theorem u7_ok {row : List Int} {S : List D} (gw : Gw g M0 M) (h : Rw row) (hb : ∀ d ∈ S, Bad d) (q : ∀ M' b6 b7, Gw g M0 M' → K.nx [some (.ref g), a1, a2, some (.str (rowS row)), some (lotD row), some (.lst S), b6, b7, a8] M') :
    u1_7_law_right (fnW E) K [some (.ref g), a1, a2, some (.str (rowS row)), some (lotD row), some (.lst S), a3, a7, a8] M := by
  have k8 := fun (M : Mp) (b6 b7 : Option D) gw q => @u8_ok M0 M g E K a1 a2 b6 (some (.lst S)) b7 a8 row gw h q
  have k3 := fun (M : Mp) (d : D) (K : DEnds) (b7 : Option D) gw b q => @b3_ok M0 M g E K a1 a2 (some (.str (rowS row))) (some (lotD row)) (some (.lst S)) b7 a8 d gw b q
  unfold u1_7_law_right
  generalize u1_8_law_right (fnW E) = R at *
  generalize b3_law_right (fnW E) = B3 at *
  simp (config := { decide := false }) only [dgSubD, dgLs, D.wk, endsW, rowP, dCm, dCmK, dMakeV, rhsE, dRaise, dTry, dHds, dAct, dXf, dIsE, dput, dclr, dEndsC, fnW, pl_lint, pl_tint, eqv_lint, eqv_tint, decide_true, decide_false, djItems, seqJ, dLCG, gMul, dEnum, dLC, dYes, wipeD, dFld, fldOf, dSetF, putD, dMake, mkQ, mkQM, isOf, gIn, gIn2, dDct, gSorted, asI, pick, List.filterMap_cons, List.filterMap_nil, List.getElem?_nil, dSeq, dNext, dRet, dIfS, dAsg, dgName, dgTup, dgCons, dgNil, dgSub, dPar, dAug, dDrop, dNever, dOp, gI, gT, gPlus, gAdd, gEq, gNe, gIs, gIs2, gIx, dV, dC, dB, dAnd, dOr, dNot, dAndV, dNotV, dIf, dNeg, dNil, dCons, dTup, dLst, dLstM, dNoPart, dPart, dSl, dCB, dCall, gLen, gAbs, g2, gStrO, gInt, gInt2, dJoin, dSplit, gStr, gDivmod2, gIsTy, gTuple, gList, gAll, dAppend, dItems, itemsOf, dRange1, dFor, D.onB, D.tyn, D.isNon, asL, rsv, kb_di, kb_db, kb_ds, kb_dt, kb_dl, kb_ii, kb_bi, kb_ni, kb_si, kb_ti, kb_li, kb_ib, kb_bb, kb_nb, kb_sb, kb_tb, kb_lb, kb_is, kb_bs, kb_ns, kb_ss, kb_ts, kb_ls, kb_it, kb_bt, kb_nt, kb_st, kb_tt, kb_lt, startD, List.map_cons, List.map_nil, List.length_cons, List.length_nil, List.cons_append, List.nil_append, List.replicate, List.getElem?_cons_zero, List.getElem?_cons_succ, List.set_cons_zero, List.set_cons_succ, List.zip_cons_cons, List.zip_nil_right, List.foldl_cons, List.foldl_nil, Option.bind_some, Option.bind_none, um_same, um_um, Bool.false_eq_true, reduceCtorEq, false_implies, true_implies, forall_const, true_and, and_true, and_self, Bool.not_true, Bool.not_false, implies_true, decide_eq_true_eq, decide_eq_false_iff_not, Bool.not_eq_true, not_true_eq_false, not_false_eq_true, Bool.not_eq_true', Bool.not_eq_false', D.onB, sizeLine_eq, Nat.reduceAdd, Nat.reduceLeDiff, Nat.zero_add, Nat.reduceLT, pl_bl, pl_i, pl_n, eqv_bl, eqv_ii, eqv_nn, ints_inj, exists_eq_left', exists_eq_left, beq_iff_eq, beq_eq_false_iff_ne, ne_eq, true_or, or_true, false_or, or_false, false_and, and_false, if_true, if_false, List.lookup_cons, beq_self_eq_true]
  refine for_by (fun _ ρ M' => ∃ b6 b7, ρ = [some (.ref g), a1, a2, some (.str (rowS row)), some (lotD row), some (.lst S), b6, b7, a8] ∧ Gw g M0 M') ⟨_, _, rfl, gw⟩ ?_ ?_
  · rintro i d ρ M' P hi ⟨b6, b7, rfl, gw'⟩ hP
    simp only [dgName, List.set_cons_succ, List.set_cons_zero]
    exact k3 M' d _ b7 gw' (hb d (List.mem_of_getElem? hi)) fun M3 b7' g3 => Wk.of (hP _ _ ⟨_, _, rfl, g3⟩)
  · rintro ρ M' ⟨b6, b7, rfl, gw'⟩
    exact k8 M' b6 b7 gw' (q M' b6 b7 gw')
theorem u6_ok {row : List Int} {S : List D} (gw : Gw g M0 M) (h : Rw row) (hb : ∀ d ∈ S, Bad d) (hl : S.length ≤ 1000) (q : ∀ M' b5 b6 b7, Gw g M0 M' → K.nx [some (.ref g), a1, a2, some (.str (rowS row)), some (lotD row), b5, b6, b7, a8] M') :
    u1_6_law_right (fnW E) K [some (.ref g), a1, a2, some (.str (rowS row)), some (lotD row), some (.lst S), a3, a7, a8] M := by
  obtain ⟨rl, l4⟩ := list4 h
  have k7 := fun (S : List D) hb => @u7_ok M0 M g E K a1 a2 a3 a7 a8 row S gw h hb fun M' b6 b7 gw' => q M' _ b6 b7 gw'
  have pl := h.len
  unfold u1_6_law_right
  generalize u1_7_law_right (fnW E) = R at *
  have k7' := k7 (S ++ [D.str (rowS row ++ " a"), .str (Txt.replace (rowS row) " " "," ++ ","), .str (rowS row ++ " " ++ rowS row), .str "two", .str "4", .str (rowS row ++ " 1")]) fun d hd => (List.mem_append.mp hd).elim (hb d) (l4 d)
  have z1 : (" a" : Str).length = 2 := by decide
  have z2 : ("," : Str).length = 1 := by decide
  have z3 : (" " : Str).length = 1 := by decide
  have z4 : (" 1" : Str).length = 2 := by decide
  simp only [dSeq, dAsg, dOp, dLst, dCons, dNil, dV, dC, dRepl, gAddS, dgName, List.getElem?_cons_zero, List.getElem?_cons_succ, List.set_cons_succ, List.set_cons_zero]
  refine ⟨by rw [z1, sizeLine_eq]; omega, by rw [z2]; omega, by rw [z2, sizeLine_eq]; omega, ?_⟩
  simp (config := { decide := false }) only [dgSubD, dgLs, D.wk, endsW, rowP, dCm, dCmK, dMakeV, rhsE, dRaise, dTry, dHds, dAct, dXf, dIsE, dput, dclr, dEndsC, fnW, pl_lint, pl_tint, eqv_lint, eqv_tint, decide_true, decide_false, djItems, seqJ, dLCG, gMul, dEnum, dLC, dYes, wipeD, dFld, fldOf, dSetF, putD, dMake, mkQ, mkQM, isOf, gIn, gIn2, dDct, gSorted, asI, pick, List.filterMap_cons, List.filterMap_nil, List.getElem?_nil, dSeq, dNext, dRet, dIfS, dAsg, dgName, dgTup, dgCons, dgNil, dgSub, dPar, dAug, dDrop, dNever, dOp, gI, gT, gPlus, gAdd, gEq, gNe, gIs, gIs2, gIx, dV, dC, dB, dAnd, dOr, dNot, dAndV, dNotV, dIf, dNeg, dNil, dCons, dTup, dLst, dLstM, dNoPart, dPart, dSl, dCB, dCall, gLen, gAbs, g2, gStrO, gInt, gInt2, dJoin, dSplit, gStr, gDivmod2, gIsTy, gTuple, gList, gAll, dAppend, dItems, itemsOf, dRange1, dFor, D.onB, D.tyn, D.isNon, asL, rsv, kb_di, kb_db, kb_ds, kb_dt, kb_dl, kb_ii, kb_bi, kb_ni, kb_si, kb_ti, kb_li, kb_ib, kb_bb, kb_nb, kb_sb, kb_tb, kb_lb, kb_is, kb_bs, kb_ns, kb_ss, kb_ts, kb_ls, kb_it, kb_bt, kb_nt, kb_st, kb_tt, kb_lt, startD, List.map_cons, List.map_nil, List.length_cons, List.length_nil, List.cons_append, List.nil_append, List.replicate, List.getElem?_cons_zero, List.getElem?_cons_succ, List.set_cons_zero, List.set_cons_succ, List.zip_cons_cons, List.zip_nil_right, List.foldl_cons, List.foldl_nil, Option.bind_some, Option.bind_none, um_same, um_um, Bool.false_eq_true, reduceCtorEq, false_implies, true_implies, forall_const, true_and, and_true, and_self, Bool.not_true, Bool.not_false, implies_true, decide_eq_true_eq, decide_eq_false_iff_not, Bool.not_eq_true, not_true_eq_false, not_false_eq_true, Bool.not_eq_true', Bool.not_eq_false', D.onB, sizeLine_eq, Nat.reduceAdd, Nat.reduceLeDiff, Nat.zero_add, Nat.reduceLT, pl_bl, pl_i, pl_n, eqv_bl, eqv_ii, eqv_nn, ints_inj, exists_eq_left', exists_eq_left, beq_iff_eq, beq_eq_false_iff_ne, ne_eq, true_or, or_true, false_or, or_false, false_and, and_false, if_true, if_false, List.lookup_cons, beq_self_eq_true, z3, z4, app_len06]
  exact ⟨by omega, by omega, by omega, by omega, k7'⟩
theorem u5_ok {row : List Int} {S : List D} (gw : Gw g M0 M) (h : Rw row) (hb : ∀ d ∈ S, Bad d) (hl : S.length ≤ 900) (q : ∀ M' b5 b6 b7, Gw g M0 M' → K.nx [some (.ref g), a1, a2, some (.str (rowS row)), some (lotD row), b5, b6, b7, a8] M') :
    u1_5_law_right (fnW E) K [some (.ref g), a1, a2, some (.str (rowS row)), some (lotD row), some (.lst S), a3, a7, a8] M := by
  have l3 := list3 h
  have pl := h.len
  have k6 := u6_ok (E := E) (K := K) (a1 := a1) (a2 := a2) (a3 := a3) (a7 := a7) (a8 := a8) (S := S ++ [D.str "", .str " ", .str "\n", .str (rowS row ++ "\n"), .str ("\n" ++ rowS row), .str (" " ++ rowS row), .str (rowS row ++ " "), .str ("-" ++ rowS row), .str ("0" ++ rowS row), .str "1"]) gw h (fun d hd => (List.mem_append.mp hd).elim (hb d) (l3 d)) (by rw [List.length_append]; simp only [List.length_cons, List.length_nil]; omega) q
  unfold u1_5_law_right
  generalize u1_6_law_right (fnW E) = R at *
  have z1 : ("\n" : Str).length = 1 := by decide
  have z2 : ("-" : Str).length = 1 := by decide
  have z3 : (" " : Str).length = 1 := by decide
  have z4 : ("0" : Str).length = 1 := by decide
  simp (config := { decide := false }) only [dgSubD, dgLs, D.wk, endsW, rowP, dCm, dCmK, dMakeV, rhsE, dRaise, dTry, dHds, dAct, dXf, dIsE, dput, dclr, dEndsC, fnW, pl_lint, pl_tint, eqv_lint, eqv_tint, decide_true, decide_false, djItems, seqJ, dLCG, gMul, dEnum, dLC, dYes, wipeD, dFld, fldOf, dSetF, putD, dMake, mkQ, mkQM, isOf, gIn, gIn2, dDct, gSorted, asI, pick, List.filterMap_cons, List.filterMap_nil, List.getElem?_nil, dSeq, dNext, dRet, dIfS, dAsg, dgName, dgTup, dgCons, dgNil, dgSub, dPar, dAug, dDrop, dNever, dOp, gI, gT, gPlus, gAdd, gEq, gNe, gIs, gIs2, gIx, dV, dC, dB, dAnd, dOr, dNot, dAndV, dNotV, dIf, dNeg, dNil, dCons, dTup, dLst, dLstM, dNoPart, dPart, dSl, dCB, dCall, gLen, gAbs, g2, gStrO, gInt, gInt2, dJoin, dSplit, gStr, gDivmod2, gIsTy, gTuple, gList, gAll, dAppend, dItems, itemsOf, dRange1, dFor, D.onB, D.tyn, D.isNon, asL, rsv, kb_di, kb_db, kb_ds, kb_dt, kb_dl, kb_ii, kb_bi, kb_ni, kb_si, kb_ti, kb_li, kb_ib, kb_bb, kb_nb, kb_sb, kb_tb, kb_lb, kb_is, kb_bs, kb_ns, kb_ss, kb_ts, kb_ls, kb_it, kb_bt, kb_nt, kb_st, kb_tt, kb_lt, startD, List.map_cons, List.map_nil, List.length_cons, List.length_nil, List.cons_append, List.nil_append, List.replicate, List.getElem?_cons_zero, List.getElem?_cons_succ, List.set_cons_zero, List.set_cons_succ, List.zip_cons_cons, List.zip_nil_right, List.foldl_cons, List.foldl_nil, Option.bind_some, Option.bind_none, um_same, um_um, Bool.false_eq_true, reduceCtorEq, false_implies, true_implies, forall_const, true_and, and_true, and_self, Bool.not_true, Bool.not_false, implies_true, decide_eq_true_eq, decide_eq_false_iff_not, Bool.not_eq_true, not_true_eq_false, not_false_eq_true, Bool.not_eq_true', Bool.not_eq_false', D.onB, sizeLine_eq, Nat.reduceAdd, Nat.reduceLeDiff, Nat.zero_add, Nat.reduceLT, pl_bl, pl_i, pl_n, eqv_bl, eqv_ii, eqv_nn, ints_inj, exists_eq_left', exists_eq_left, beq_iff_eq, beq_eq_false_iff_ne, ne_eq, true_or, or_true, false_or, or_false, false_and, and_false, if_true, if_false, List.lookup_cons, beq_self_eq_true, z1, z2, z3, z4]
  refine ⟨by omega, by omega, by omega, by omega, by omega, by omega, by omega, k6⟩
theorem u4_ok {row : List Int} {S : List D} (gw : Gw g M0 M) (h : Rw row) (hb : ∀ d ∈ S, Bad d) (hl : S.length ≤ 800) (q : ∀ M' b5 b6 b7, Gw g M0 M' → K.nx [some (.ref g), a1, a2, some (.str (rowS row)), some (lotD row), b5, b6, b7, a8] M') :
    u1_4_law_right (fnW E) K [some (.ref g), a1, a2, some (.str (rowS row)), some (lotD row), some (.lst S), a3, a7, a8] M := by
  have k5 := fun (M : Mp) (n : D) gw hb => u5_ok (E := E) (K := K) (a1 := a1) (a2 := a2) (a3 := a3) (a7 := a7) (a8 := a8) (M0 := M0) (M := M) (S := S ++ [n, .tup [.str (rowS row)], .lst [.str (rowS row)], .dcs [rowS row] [.str (rowS row)], .int 1000000000000000000000000000000000000000000000000000000000000, .tup []]) gw h hb (by rw [List.length_append]; simp only [List.length_cons, List.length_nil]; omega) q
  unfold u1_4_law_right
  generalize u1_5_law_right (fnW E) = R at *
  have cp : CPow 10 60 := ⟨by decide, by decide, by decide⟩
  have e60 : (10 : Int) ^ Int.toNat 60 = 1000000000000000000000000000000000000000000000000000000000000 := by decide +kernel
  simp (config := { decide := false }) only [dgSubD, dgLs, D.wk, endsW, rowP, dCm, dCmK, dMakeV, rhsE, dRaise, dTry, dHds, dAct, dXf, dIsE, dput, dclr, dEndsC, fnW, pl_lint, pl_tint, eqv_lint, eqv_tint, decide_true, decide_false, djItems, seqJ, dLCG, gMul, dEnum, dLC, dYes, wipeD, dFld, fldOf, dSetF, putD, dMake, mkQ, mkQM, isOf, gIn, gIn2, dDct, gSorted, asI, pick, List.filterMap_cons, List.filterMap_nil, List.getElem?_nil, dSeq, dNext, dRet, dIfS, dAsg, dgName, dgTup, dgCons, dgNil, dgSub, dPar, dAug, dDrop, dNever, dOp, gI, gT, gPlus, gAdd, gEq, gNe, gIs, gIs2, gIx, dV, dC, dB, dAnd, dOr, dNot, dAndV, dNotV, dIf, dNeg, dNil, dCons, dTup, dLst, dLstM, dNoPart, dPart, dSl, dCB, dCall, gLen, gAbs, g2, gStrO, gInt, gInt2, dJoin, dSplit, gStr, gDivmod2, gIsTy, gTuple, gList, gAll, dAppend, dItems, itemsOf, dRange1, dFor, D.onB, D.tyn, D.isNon, asL, rsv, kb_di, kb_db, kb_ds, kb_dt, kb_dl, kb_ii, kb_bi, kb_ni, kb_si, kb_ti, kb_li, kb_ib, kb_bb, kb_nb, kb_sb, kb_tb, kb_lb, kb_is, kb_bs, kb_ns, kb_ss, kb_ts, kb_ls, kb_it, kb_bt, kb_nt, kb_st, kb_tt, kb_lt, startD, List.map_cons, List.map_nil, List.length_cons, List.length_nil, List.cons_append, List.nil_append, List.replicate, List.getElem?_cons_zero, List.getElem?_cons_succ, List.set_cons_zero, List.set_cons_succ, List.zip_cons_cons, List.zip_nil_right, List.foldl_cons, List.foldl_nil, Option.bind_some, Option.bind_none, um_same, um_um, Bool.false_eq_true, reduceCtorEq, false_implies, true_implies, forall_const, true_and, and_true, and_self, Bool.not_true, Bool.not_false, implies_true, decide_eq_true_eq, decide_eq_false_iff_not, Bool.not_eq_true, not_true_eq_false, not_false_eq_true, Bool.not_eq_true', Bool.not_eq_false', D.onB, sizeLine_eq, Nat.reduceAdd, Nat.reduceLeDiff, Nat.zero_add, Nat.reduceLT, pl_bl, pl_i, pl_n, eqv_bl, eqv_ii, eqv_nn, ints_inj, exists_eq_left', exists_eq_left, beq_iff_eq, beq_eq_false_iff_ne, ne_eq, true_or, or_true, false_or, or_false, false_and, and_false, if_true, if_false, List.lookup_cons, beq_self_eq_true, sp_law_gulp, cp, e60, dDsp1]
  refine ⟨gw.1, ⟨by decide, by decide⟩, fun r M1 r0 r1 s1 => ⟨s1.gd, (1 + r).toNat, by omega, by omega, fun d M2 hd hbx g2 p hp => ⟨_, rfl, by omega, ?_⟩⟩⟩
  rw [dm_um hp]
  exact k5 M2 d (gw.tr (s1.gw.tr g2)) fun x hx => (List.mem_append.mp hx).elim (hb x) (list2 h hd (by omega) (by omega) (hbx (by omega)) x)
theorem u2_ok {row : List Int} (gw : Gw g M0 M) (h : Rw row) (q : ∀ M' b5 b6 b7, Gw g M0 M' → K.nx [some (.ref g), a1, some (.tup (row.map .int)), some (.str (rowS row)), some (lotD row), b5, b6, b7, a8] M') :
    u1_2_law_right (fnW E) K [some (.ref g), a1, some (.tup (row.map .int)), some (.str (rowS row)), a4, a5, a3, a7, a8] M := by
  have lo : ∀ ps : List Int, D.inst (Str.ofString "Lot") [Str.ofString "row", Str.ofString "whole"] [D.tup (List.map D.int ps), D.int (prodL ps)] = lotD ps := fun _ => rfl
  have k4 := fun (S : List D) hb hl => u4_ok (E := E) (K := K) (a1 := a1) (a2 := some (.tup (row.map .int))) (a3 := a3) (a7 := a7) (a8 := a8) (M0 := M0) (M := M) (S := S) gw h hb hl q
  have l14 := h.l
  have pl := h.len
  have ss := split_sum (rowS row)
  have sl : ((" " : Str).length = 0) = False := by decide
  obtain ⟨x, xs, ex⟩ := List.exists_cons_of_ne_nil h.ne
  have at0 : atI (row.map D.int) 0 = some (.int x) := by rw [ex]; exact atI_nat (j := 0) rfl
  have hx : x ∈ row := by rw [ex]; exact List.mem_cons_self ..
  have l1 := list1 h hx
  unfold u1_2_law_right u1_3_law_right
  generalize u1_4_law_right (fnW E) = R at *
  simp (config := { decide := false }) only [dgSubD, dgLs, D.wk, endsW, rowP, dCm, dCmK, dMakeV, rhsE, dRaise, dTry, dHds, dAct, dXf, dIsE, dput, dclr, dEndsC, fnW, pl_lint, pl_tint, eqv_lint, eqv_tint, decide_true, decide_false, djItems, seqJ, dLCG, gMul, dEnum, dLC, dYes, wipeD, dFld, fldOf, dSetF, putD, dMake, mkQ, mkQM, isOf, gIn, gIn2, dDct, gSorted, asI, pick, List.filterMap_cons, List.filterMap_nil, List.getElem?_nil, dSeq, dNext, dRet, dIfS, dAsg, dgName, dgTup, dgCons, dgNil, dgSub, dPar, dAug, dDrop, dNever, dOp, gI, gT, gPlus, gAdd, gEq, gNe, gIs, gIs2, gIx, dV, dC, dB, dAnd, dOr, dNot, dAndV, dNotV, dIf, dNeg, dNil, dCons, dTup, dLst, dLstM, dNoPart, dPart, dSl, dCB, dCall, gLen, gAbs, g2, gStrO, gInt, gInt2, dJoin, dSplit, gStr, gDivmod2, gIsTy, gTuple, gList, gAll, dAppend, dItems, itemsOf, dRange1, dFor, D.onB, D.tyn, D.isNon, asL, rsv, kb_di, kb_db, kb_ds, kb_dt, kb_dl, kb_ii, kb_bi, kb_ni, kb_si, kb_ti, kb_li, kb_ib, kb_bb, kb_nb, kb_sb, kb_tb, kb_lb, kb_is, kb_bs, kb_ns, kb_ss, kb_ts, kb_ls, kb_it, kb_bt, kb_nt, kb_st, kb_tt, kb_lt, startD, List.map_cons, List.map_nil, List.length_cons, List.length_nil, List.cons_append, List.nil_append, List.replicate, List.getElem?_cons_zero, List.getElem?_cons_succ, List.set_cons_zero, List.set_cons_succ, List.zip_cons_cons, List.zip_nil_right, List.foldl_cons, List.foldl_nil, Option.bind_some, Option.bind_none, um_same, um_um, Bool.false_eq_true, reduceCtorEq, false_implies, true_implies, forall_const, true_and, and_true, and_self, Bool.not_true, Bool.not_false, implies_true, decide_eq_true_eq, decide_eq_false_iff_not, Bool.not_eq_true, not_true_eq_false, not_false_eq_true, Bool.not_eq_true', Bool.not_eq_false', D.onB, sizeLine_eq, Nat.reduceAdd, Nat.reduceLeDiff, Nat.zero_add, Nat.reduceLT, pl_bl, pl_i, pl_n, eqv_bl, eqv_ii, eqv_nn, ints_inj, exists_eq_left', exists_eq_left, beq_iff_eq, beq_eq_false_iff_ne, ne_eq, true_or, or_true, false_or, or_false, false_and, and_false, if_true, if_false, List.lookup_cons, beq_self_eq_true, sp_Lot___init]
  intro p hp
  refine ⟨h.ok, h.ne, ?_⟩
  rw [dm_um hp]
  simp (config := { decide := false }) only [dgSubD, dgLs, D.wk, endsW, rowP, dCm, dCmK, dMakeV, rhsE, dRaise, dTry, dHds, dAct, dXf, dIsE, dput, dclr, dEndsC, fnW, pl_lint, pl_tint, eqv_lint, eqv_tint, decide_true, decide_false, djItems, seqJ, dLCG, gMul, dEnum, dLC, dYes, wipeD, dFld, fldOf, dSetF, putD, dMake, mkQ, mkQM, isOf, gIn, gIn2, dDct, gSorted, asI, pick, List.filterMap_cons, List.filterMap_nil, List.getElem?_nil, dSeq, dNext, dRet, dIfS, dAsg, dgName, dgTup, dgCons, dgNil, dgSub, dPar, dAug, dDrop, dNever, dOp, gI, gT, gPlus, gAdd, gEq, gNe, gIs, gIs2, gIx, dV, dC, dB, dAnd, dOr, dNot, dAndV, dNotV, dIf, dNeg, dNil, dCons, dTup, dLst, dLstM, dNoPart, dPart, dSl, dCB, dCall, gLen, gAbs, g2, gStrO, gInt, gInt2, dJoin, dSplit, gStr, gDivmod2, gIsTy, gTuple, gList, gAll, dAppend, dItems, itemsOf, dRange1, dFor, D.onB, D.tyn, D.isNon, asL, rsv, kb_di, kb_db, kb_ds, kb_dt, kb_dl, kb_ii, kb_bi, kb_ni, kb_si, kb_ti, kb_li, kb_ib, kb_bb, kb_nb, kb_sb, kb_tb, kb_lb, kb_is, kb_bs, kb_ns, kb_ss, kb_ts, kb_ls, kb_it, kb_bt, kb_nt, kb_st, kb_tt, kb_lt, startD, List.map_cons, List.map_nil, List.length_cons, List.length_nil, List.cons_append, List.nil_append, List.replicate, List.getElem?_cons_zero, List.getElem?_cons_succ, List.set_cons_zero, List.set_cons_succ, List.zip_cons_cons, List.zip_nil_right, List.foldl_cons, List.foldl_nil, Option.bind_some, Option.bind_none, um_same, um_um, Bool.false_eq_true, reduceCtorEq, false_implies, true_implies, forall_const, true_and, and_true, and_self, Bool.not_true, Bool.not_false, implies_true, decide_eq_true_eq, decide_eq_false_iff_not, Bool.not_eq_true, not_true_eq_false, not_false_eq_true, Bool.not_eq_true', Bool.not_eq_false', D.onB, sizeLine_eq, Nat.reduceAdd, Nat.reduceLeDiff, Nat.zero_add, Nat.reduceLT, pl_bl, pl_i, pl_n, eqv_bl, eqv_ii, eqv_nn, ints_inj, exists_eq_left', exists_eq_left, beq_iff_eq, beq_eq_false_iff_ne, ne_eq, true_or, or_true, false_or, or_false, false_and, and_false, if_true, if_false, List.lookup_cons, beq_self_eq_true, lo, sl, at0]
  exact ⟨by omega, by omega, k4 _ l1 (by simp)⟩
theorem b12_ok {a6 : Option D} (gw : Gw g M0 M) (q : ∀ M' b2 b3 b4 b5 b6 b7, Gw g M0 M' → K.nx [some (.ref g), a1, b2, b3, b4, b5, b6, b7, a8] M') :
    b12_law_right (fnW E) K [some (.ref g), a1, a2, a3, a4, a5, a6, a7, a8] M := by
  have k2 := fun (M : Mp) (row : List Int) gw h => u2_ok (E := E) (K := K) (a1 := a1) (a3 := a6) (a4 := a4) (a5 := a5) (a7 := a7) (a8 := a8) (M0 := M0) (M := M) (row := row) gw h fun M' b5 b6 b7 g' => q M' _ _ _ b5 b6 b7 g'
  unfold b12_law_right u1_1_law_right
  generalize u1_2_law_right (fnW E) = R at *
  simp (config := { decide := false }) only [dgSubD, dgLs, D.wk, endsW, rowP, dCm, dCmK, dMakeV, rhsE, dRaise, dTry, dHds, dAct, dXf, dIsE, dput, dclr, dEndsC, fnW, pl_lint, pl_tint, eqv_lint, eqv_tint, decide_true, decide_false, djItems, seqJ, dLCG, gMul, dEnum, dLC, dYes, wipeD, dFld, fldOf, dSetF, putD, dMake, mkQ, mkQM, isOf, gIn, gIn2, dDct, gSorted, asI, pick, List.filterMap_cons, List.filterMap_nil, List.getElem?_nil, dSeq, dNext, dRet, dIfS, dAsg, dgName, dgTup, dgCons, dgNil, dgSub, dPar, dAug, dDrop, dNever, dOp, gI, gT, gPlus, gAdd, gEq, gNe, gIs, gIs2, gIx, dV, dC, dB, dAnd, dOr, dNot, dAndV, dNotV, dIf, dNeg, dNil, dCons, dTup, dLst, dLstM, dNoPart, dPart, dSl, dCB, dCall, gLen, gAbs, g2, gStrO, gInt, gInt2, dJoin, dSplit, gStr, gDivmod2, gIsTy, gTuple, gList, gAll, dAppend, dItems, itemsOf, dRange1, dFor, D.onB, D.tyn, D.isNon, asL, rsv, kb_di, kb_db, kb_ds, kb_dt, kb_dl, kb_ii, kb_bi, kb_ni, kb_si, kb_ti, kb_li, kb_ib, kb_bb, kb_nb, kb_sb, kb_tb, kb_lb, kb_is, kb_bs, kb_ns, kb_ss, kb_ts, kb_ls, kb_it, kb_bt, kb_nt, kb_st, kb_tt, kb_lt, startD, List.map_cons, List.map_nil, List.length_cons, List.length_nil, List.cons_append, List.nil_append, List.replicate, List.getElem?_cons_zero, List.getElem?_cons_succ, List.set_cons_zero, List.set_cons_succ, List.zip_cons_cons, List.zip_nil_right, List.foldl_cons, List.foldl_nil, Option.bind_some, Option.bind_none, um_same, um_um, Bool.false_eq_true, reduceCtorEq, false_implies, true_implies, forall_const, true_and, and_true, and_self, Bool.not_true, Bool.not_false, implies_true, decide_eq_true_eq, decide_eq_false_iff_not, Bool.not_eq_true, not_true_eq_false, not_false_eq_true, Bool.not_eq_true', Bool.not_eq_false', D.onB, sizeLine_eq, Nat.reduceAdd, Nat.reduceLeDiff, Nat.zero_add, Nat.reduceLT, pl_bl, pl_i, pl_n, eqv_bl, eqv_ii, eqv_nn, ints_inj, exists_eq_left', exists_eq_left, beq_iff_eq, beq_eq_false_iff_ne, ne_eq, true_or, or_true, false_or, or_false, false_and, and_false, if_true, if_false, List.lookup_cons, beq_self_eq_true, sp_law_row, dJoin]
  refine ⟨gw.1, by decide, fun row M1 ro g1 => ?_⟩
  obtain ⟨ok, ne, l14, _, _, _⟩ := ro
  have al := okRow_P 1 1 row ok
  refine lc_mapA (f := D.int) (h := D.str) (L := row) (fun p => nT p.toNat) (by rw [sizeLine_eq]; omega) (fun q hq p hp xs Kk K => ?_) fun q hq => ?_
  · have p0 : 0 ≤ p := by have := (al p hp).1; omega
    have p1 := (al p hp).2.1
    have p2 := (al p hp).1
    have lg : p.natAbs.log2 < 1920 := by
      have : p.natAbs.log2 < 15 := (Nat.log2_lt (by omega)).mpr (by omega)
      omega
    simp (config := { decide := false }) only [dgSubD, dgLs, D.wk, endsW, rowP, dCm, dCmK, dMakeV, rhsE, dRaise, dTry, dHds, dAct, dXf, dIsE, dput, dclr, dEndsC, fnW, pl_lint, pl_tint, eqv_lint, eqv_tint, decide_true, decide_false, djItems, seqJ, dLCG, gMul, dEnum, dLC, dYes, wipeD, dFld, fldOf, dSetF, putD, dMake, mkQ, mkQM, isOf, gIn, gIn2, dDct, gSorted, asI, pick, List.filterMap_cons, List.filterMap_nil, List.getElem?_nil, dSeq, dNext, dRet, dIfS, dAsg, dgName, dgTup, dgCons, dgNil, dgSub, dPar, dAug, dDrop, dNever, dOp, gI, gT, gPlus, gAdd, gEq, gNe, gIs, gIs2, gIx, dV, dC, dB, dAnd, dOr, dNot, dAndV, dNotV, dIf, dNeg, dNil, dCons, dTup, dLst, dLstM, dNoPart, dPart, dSl, dCB, dCall, gLen, gAbs, g2, gStrO, gInt, gInt2, dJoin, dSplit, gStr, gDivmod2, gIsTy, gTuple, gList, gAll, dAppend, dItems, itemsOf, dRange1, dFor, D.onB, D.tyn, D.isNon, asL, rsv, kb_di, kb_db, kb_ds, kb_dt, kb_dl, kb_ii, kb_bi, kb_ni, kb_si, kb_ti, kb_li, kb_ib, kb_bb, kb_nb, kb_sb, kb_tb, kb_lb, kb_is, kb_bs, kb_ns, kb_ss, kb_ts, kb_ls, kb_it, kb_bt, kb_nt, kb_st, kb_tt, kb_lt, startD, List.map_cons, List.map_nil, List.length_cons, List.length_nil, List.cons_append, List.nil_append, List.replicate, List.getElem?_cons_zero, List.getElem?_cons_succ, List.set_cons_zero, List.set_cons_succ, List.zip_cons_cons, List.zip_nil_right, List.foldl_cons, List.foldl_nil, Option.bind_some, Option.bind_none, um_same, um_um, Bool.false_eq_true, reduceCtorEq, false_implies, true_implies, forall_const, true_and, and_true, and_self, Bool.not_true, Bool.not_false, implies_true, decide_eq_true_eq, decide_eq_false_iff_not, Bool.not_eq_true, not_true_eq_false, not_false_eq_true, Bool.not_eq_true', Bool.not_eq_false', D.onB, sizeLine_eq, Nat.reduceAdd, Nat.reduceLeDiff, Nat.zero_add, Nat.reduceLT, pl_bl, pl_i, pl_n, eqv_bl, eqv_ii, eqv_nn, ints_inj, exists_eq_left', exists_eq_left, beq_iff_eq, beq_eq_false_iff_ne, ne_eq, true_or, or_true, false_or, or_false, false_and, and_false, if_true, if_false, List.lookup_cons, beq_self_eq_true, lg, nT_of p0]
    exact K
  · obtain ⟨j1, j2, j3⟩ := join_go (M := M1) al (by omega)
    simp (config := { decide := false }) only [dgSubD, dgLs, D.wk, endsW, rowP, dCm, dCmK, dMakeV, rhsE, dRaise, dTry, dHds, dAct, dXf, dIsE, dput, dclr, dEndsC, fnW, pl_lint, pl_tint, eqv_lint, eqv_tint, decide_true, decide_false, djItems, seqJ, dLCG, gMul, dEnum, dLC, dYes, wipeD, dFld, fldOf, dSetF, putD, dMake, mkQ, mkQM, isOf, gIn, gIn2, dDct, gSorted, asI, pick, List.filterMap_cons, List.filterMap_nil, List.getElem?_nil, dSeq, dNext, dRet, dIfS, dAsg, dgName, dgTup, dgCons, dgNil, dgSub, dPar, dAug, dDrop, dNever, dOp, gI, gT, gPlus, gAdd, gEq, gNe, gIs, gIs2, gIx, dV, dC, dB, dAnd, dOr, dNot, dAndV, dNotV, dIf, dNeg, dNil, dCons, dTup, dLst, dLstM, dNoPart, dPart, dSl, dCB, dCall, gLen, gAbs, g2, gStrO, gInt, gInt2, dJoin, dSplit, gStr, gDivmod2, gIsTy, gTuple, gList, gAll, dAppend, dItems, itemsOf, dRange1, dFor, D.onB, D.tyn, D.isNon, asL, rsv, kb_di, kb_db, kb_ds, kb_dt, kb_dl, kb_ii, kb_bi, kb_ni, kb_si, kb_ti, kb_li, kb_ib, kb_bb, kb_nb, kb_sb, kb_tb, kb_lb, kb_is, kb_bs, kb_ns, kb_ss, kb_ts, kb_ls, kb_it, kb_bt, kb_nt, kb_st, kb_tt, kb_lt, startD, List.map_cons, List.map_nil, List.length_cons, List.length_nil, List.cons_append, List.nil_append, List.replicate, List.getElem?_cons_zero, List.getElem?_cons_succ, List.set_cons_zero, List.set_cons_succ, List.zip_cons_cons, List.zip_nil_right, List.foldl_cons, List.foldl_nil, Option.bind_some, Option.bind_none, um_same, um_um, Bool.false_eq_true, reduceCtorEq, false_implies, true_implies, forall_const, true_and, and_true, and_self, Bool.not_true, Bool.not_false, implies_true, decide_eq_true_eq, decide_eq_false_iff_not, Bool.not_eq_true, not_true_eq_false, not_false_eq_true, Bool.not_eq_true', Bool.not_eq_false', D.onB, sizeLine_eq, Nat.reduceAdd, Nat.reduceLeDiff, Nat.zero_add, Nat.reduceLT, pl_bl, pl_i, pl_n, eqv_bl, eqv_ii, eqv_nn, ints_inj, exists_eq_left', exists_eq_left, beq_iff_eq, beq_eq_false_iff_ne, ne_eq, true_or, or_true, false_or, or_false, false_and, and_false, if_true, if_false, List.lookup_cons, beq_self_eq_true, dm_um hq, j1, j2, j3]
    exact k2 M1 row (gw.tr g1) ⟨ok, ne, l14⟩
end
theorem pure_law_right (ds : List D) (M : Mp) (Q : DK) (E : XE') (h : sp_law_right ds M Q E) : t_law_right (fnW E) { nx := fun _ M' => Wk (Q .non) M', rt := fun d M' => Wk (Q d) M' } (startD N_law_right ds) M := by
  unfold sp_law_right at h
  split at h
  rotate_left
  · exact h.elim
  rename_i g
  obtain ⟨hg, h⟩ := h
  have hg0 : Gw g M M := ⟨hg, fun a o _ e => e⟩
  have lo : ∀ ps : List Int, D.inst (Str.ofString "Lot") [Str.ofString "row", Str.ofString "whole"] [D.tup (List.map D.int ps), D.int (prodL ps)] = lotD ps := fun _ => rfl
  unfold t_law_right
  generalize hB : b12_law_right (fnW E) = B12 at *
  simp (config := { decide := false }) only [dgSubD, dgLs, D.wk, endsW, rowP, dCm, dCmK, dMakeV, rhsE, dRaise, dTry, dHds, dAct, dXf, dIsE, dput, dclr, dEndsC, fnW, pl_lint, pl_tint, eqv_lint, eqv_tint, decide_true, decide_false, djItems, seqJ, dLCG, gMul, dEnum, dLC, dYes, wipeD, dFld, fldOf, dSetF, putD, dMake, mkQ, mkQM, isOf, gIn, gIn2, dDct, gSorted, asI, pick, List.filterMap_cons, List.filterMap_nil, List.getElem?_nil, dSeq, dNext, dRet, dIfS, dAsg, dgName, dgTup, dgCons, dgNil, dgSub, dPar, dAug, dDrop, dNever, dOp, gI, gT, gPlus, gAdd, gEq, gNe, gIs, gIs2, gIx, dV, dC, dB, dAnd, dOr, dNot, dAndV, dNotV, dIf, dNeg, dNil, dCons, dTup, dLst, dLstM, dNoPart, dPart, dSl, dCB, dCall, gLen, gAbs, g2, gStrO, gInt, gInt2, dJoin, dSplit, gStr, gDivmod2, gIsTy, gTuple, gList, gAll, dAppend, dItems, itemsOf, dRange1, dFor, D.onB, D.tyn, D.isNon, asL, rsv, kb_di, kb_db, kb_ds, kb_dt, kb_dl, kb_ii, kb_bi, kb_ni, kb_si, kb_ti, kb_li, kb_ib, kb_bb, kb_nb, kb_sb, kb_tb, kb_lb, kb_is, kb_bs, kb_ns, kb_ss, kb_ts, kb_ls, kb_it, kb_bt, kb_nt, kb_st, kb_tt, kb_lt, startD, List.map_cons, List.map_nil, List.length_cons, List.length_nil, List.cons_append, List.nil_append, List.replicate, List.getElem?_cons_zero, List.getElem?_cons_succ, List.set_cons_zero, List.set_cons_succ, List.zip_cons_cons, List.zip_nil_right, List.foldl_cons, List.foldl_nil, Option.bind_some, Option.bind_none, um_same, um_um, Bool.false_eq_true, reduceCtorEq, false_implies, true_implies, forall_const, true_and, and_true, and_self, Bool.not_true, Bool.not_false, implies_true, decide_eq_true_eq, decide_eq_false_iff_not, Bool.not_eq_true, not_true_eq_false, not_false_eq_true, Bool.not_eq_true', Bool.not_eq_false', D.onB, sizeLine_eq, Nat.reduceAdd, Nat.reduceLeDiff, Nat.zero_add, Nat.reduceLT, pl_bl, pl_i, pl_n, eqv_bl, eqv_ii, eqv_nn, ints_inj, exists_eq_left', exists_eq_left, beq_iff_eq, beq_eq_false_iff_ne, ne_eq, true_or, or_true, false_or, or_false, false_and, and_false, if_true, if_false, List.lookup_cons, beq_self_eq_true]
  refine ⟨by decide, ?_⟩
  refine for_by (fun _ ρ M' => ∃ a1 a2 a3 a4 a5 a6 a7 a8, ρ = [some (.ref g), a1, a2, a3, a4, a5, a6, a7, a8] ∧ Gw g M M') ⟨_, _, _, _, _, _, _, _, rfl, hg0⟩ ?_ ?_
  · rintro i d ρ M' P hi ⟨a1, a2, a3, a4, a5, a6, a7, a8, rfl, gw'⟩ hP
    simp only [dgName, List.set_cons_succ, List.set_cons_zero]
    rw [← hB]
    exact b12_ok gw' fun M3 b2 b3 b4 b5 b6 b7 g3 => Wk.of (hP _ _ ⟨_, _, _, _, _, _, _, _, rfl, g3⟩)
  · rintro ρ M' ⟨a1, a2, a3, a4, a5, a6, a7, a8, rfl, gw'⟩
    simp (config := { decide := false }) only [dgSubD, dgLs, D.wk, endsW, rowP, dCm, dCmK, dMakeV, rhsE, dRaise, dTry, dHds, dAct, dXf, dIsE, dput, dclr, dEndsC, fnW, pl_lint, pl_tint, eqv_lint, eqv_tint, decide_true, decide_false, djItems, seqJ, dLCG, gMul, dEnum, dLC, dYes, wipeD, dFld, fldOf, dSetF, putD, dMake, mkQ, mkQM, isOf, gIn, gIn2, dDct, gSorted, asI, pick, List.filterMap_cons, List.filterMap_nil, List.getElem?_nil, dSeq, dNext, dRet, dIfS, dAsg, dgName, dgTup, dgCons, dgNil, dgSub, dPar, dAug, dDrop, dNever, dOp, gI, gT, gPlus, gAdd, gEq, gNe, gIs, gIs2, gIx, dV, dC, dB, dAnd, dOr, dNot, dAndV, dNotV, dIf, dNeg, dNil, dCons, dTup, dLst, dLstM, dNoPart, dPart, dSl, dCB, dCall, gLen, gAbs, g2, gStrO, gInt, gInt2, dJoin, dSplit, gStr, gDivmod2, gIsTy, gTuple, gList, gAll, dAppend, dItems, itemsOf, dRange1, dFor, D.onB, D.tyn, D.isNon, asL, rsv, kb_di, kb_db, kb_ds, kb_dt, kb_dl, kb_ii, kb_bi, kb_ni, kb_si, kb_ti, kb_li, kb_ib, kb_bb, kb_nb, kb_sb, kb_tb, kb_lb, kb_is, kb_bs, kb_ns, kb_ss, kb_ts, kb_ls, kb_it, kb_bt, kb_nt, kb_st, kb_tt, kb_lt, startD, List.map_cons, List.map_nil, List.length_cons, List.length_nil, List.cons_append, List.nil_append, List.replicate, List.getElem?_cons_zero, List.getElem?_cons_succ, List.set_cons_zero, List.set_cons_succ, List.zip_cons_cons, List.zip_nil_right, List.foldl_cons, List.foldl_nil, Option.bind_some, Option.bind_none, um_same, um_um, Bool.false_eq_true, reduceCtorEq, false_implies, true_implies, forall_const, true_and, and_true, and_self, Bool.not_true, Bool.not_false, implies_true, decide_eq_true_eq, decide_eq_false_iff_not, Bool.not_eq_true, not_true_eq_false, not_false_eq_true, Bool.not_eq_true', Bool.not_eq_false', D.onB, sizeLine_eq, Nat.reduceAdd, Nat.reduceLeDiff, Nat.zero_add, Nat.reduceLT, pl_bl, pl_i, pl_n, eqv_bl, eqv_ii, eqv_nn, ints_inj, exists_eq_left', exists_eq_left, beq_iff_eq, beq_eq_false_iff_ne, ne_eq, true_or, or_true, false_or, or_false, false_and, and_false, if_true, if_false, List.lookup_cons, beq_self_eq_true, r1_law_right]
    exact Wk.of (h _ gw')
abbrev N_law : List Str := ["_law_script", "_law_turn"]
abbrev sp_law : DSp := spLaw
theorem len_law : ∀ ds M Q E, sp_law ds M Q E → ds.length = 1 := fun ds M Q E h => by
  unfold sp_law spLaw at h; split at h <;> first | rfl | exact h.elim
theorem law_is : ∀ ds M Q E, spLaw ds M Q E → sp_law ds M Q E := fun _ _ _ _ h => h
def t_law (W : DW') : TDS :=
  dRet (dCB gAll (dCons (dLC [1] 1 (dRange1 (dCons (dCB (g2 max) (dCons (dC (.int 2)) (dCons (dCB (g2 min) (dCons (dCB gLen (dCons (dV 0) (dNil))) (dCons (dC (.int 6)) (dNil)))) (dNil)))) (dNil))) (dYes) (dCall sp_law_right noW (dCons (dCall sp_law_gourd_of noW (dCons (dV 0) (dCons (dV 1) (dNil)))) (dNil)))) (dNil)))
theorem pure_law (ds : List D) (M : Mp) (Q : DK) (E : XE') (h : sp_law ds M Q E) : t_law (fnW E) { nx := fun _ M' => Wk (Q .non) M', rt := fun d M' => Wk (Q d) M' } (startD N_law ds) M := by
  unfold sp_law spLaw at h
  split at h
  · rename_i ns
    obtain ⟨hl, h⟩ := h
    simp (config := { decide := false }) only [dgSubD, dgLs, D.wk, endsW, rowP, dCm, dCmK, dMakeV, rhsE, dRaise, dTry, dHds, dAct, dXf, dIsE, dput, dclr, dEndsC, fnW, pl_lint, pl_tint, eqv_lint, eqv_tint, decide_true, decide_false, djItems, seqJ, dLCG, gMul, dEnum, dLC, dYes, wipeD, dFld, fldOf, dSetF, putD, dMake, mkQ, mkQM, isOf, gIn, gIn2, dDct, gSorted, asI, pick, List.filterMap_cons, List.filterMap_nil, List.getElem?_nil, dSeq, dNext, dRet, dIfS, dAsg, dgName, dgTup, dgCons, dgNil, dgSub, dPar, dAug, dDrop, dNever, dOp, gI, gT, gPlus, gAdd, gEq, gNe, gIs, gIs2, gIx, dV, dC, dB, dAnd, dOr, dNot, dAndV, dNotV, dIf, dNeg, dNil, dCons, dTup, dLst, dLstM, dNoPart, dPart, dSl, dCB, dCall, gLen, gAbs, g2, gStrO, gInt, gInt2, dJoin, dSplit, gStr, gDivmod2, gIsTy, gTuple, gList, gAll, dAppend, dItems, itemsOf, dRange1, dFor, D.onB, D.tyn, D.isNon, asL, rsv, kb_di, kb_db, kb_ds, kb_dt, kb_dl, kb_ii, kb_bi, kb_ni, kb_si, kb_ti, kb_li, kb_ib, kb_bb, kb_nb, kb_sb, kb_tb, kb_lb, kb_is, kb_bs, kb_ns, kb_ss, kb_ts, kb_ls, kb_it, kb_bt, kb_nt, kb_st, kb_tt, kb_lt, startD, List.map_cons, List.map_nil, List.length_cons, List.length_nil, List.cons_append, List.nil_append, List.replicate, List.getElem?_cons_zero, List.getElem?_cons_succ, List.set_cons_zero, List.set_cons_succ, List.zip_cons_cons, List.zip_nil_right, List.foldl_cons, List.foldl_nil, Option.bind_some, Option.bind_none, um_same, um_um, Bool.false_eq_true, reduceCtorEq, false_implies, true_implies, forall_const, true_and, and_true, and_self, Bool.not_true, Bool.not_false, implies_true, decide_eq_true_eq, decide_eq_false_iff_not, Bool.not_eq_true, not_true_eq_false, not_false_eq_true, Bool.not_eq_true', Bool.not_eq_false', D.onB, sizeLine_eq, Nat.reduceAdd, Nat.reduceLeDiff, Nat.zero_add, Nat.reduceLT, t_law]
    refine ⟨⟨by omega, by omega⟩, fun p hp => ?_⟩
    refine lcN_inv (fun j M' => M' p = some (.lst (List.replicate j (.bl true))) ∧ ∀ a o, a ≠ p → M a = some o → M' a = some o) _ _ 0 _ (Nat.zero_add _) ⟨um_same _ _ _, fun a o n e => by rw [um_ne n]; exact e⟩ ?_ ?_
    · rintro j d M1 N hj hd ⟨e1, e2⟩ hN
      unfold rangeD at hj hd
      obtain ⟨v, hv, rfl⟩ := List.mem_map.mp hd
      have hv := List.mem_range.mp hv
      simp only [List.length_map, List.length_range] at hj
      simp (config := { decide := false }) only [dgSubD, dgLs, D.wk, endsW, rowP, dCm, dCmK, dMakeV, rhsE, dRaise, dTry, dHds, dAct, dXf, dIsE, dput, dclr, dEndsC, fnW, pl_lint, pl_tint, eqv_lint, eqv_tint, decide_true, decide_false, djItems, seqJ, dLCG, gMul, dEnum, dLC, dYes, wipeD, dFld, fldOf, dSetF, putD, dMake, mkQ, mkQM, isOf, gIn, gIn2, dDct, gSorted, asI, pick, List.filterMap_cons, List.filterMap_nil, List.getElem?_nil, dSeq, dNext, dRet, dIfS, dAsg, dgName, dgTup, dgCons, dgNil, dgSub, dPar, dAug, dDrop, dNever, dOp, gI, gT, gPlus, gAdd, gEq, gNe, gIs, gIs2, gIx, dV, dC, dB, dAnd, dOr, dNot, dAndV, dNotV, dIf, dNeg, dNil, dCons, dTup, dLst, dLstM, dNoPart, dPart, dSl, dCB, dCall, gLen, gAbs, g2, gStrO, gInt, gInt2, dJoin, dSplit, gStr, gDivmod2, gIsTy, gTuple, gList, gAll, dAppend, dItems, itemsOf, dRange1, dFor, D.onB, D.tyn, D.isNon, asL, rsv, kb_di, kb_db, kb_ds, kb_dt, kb_dl, kb_ii, kb_bi, kb_ni, kb_si, kb_ti, kb_li, kb_ib, kb_bb, kb_nb, kb_sb, kb_tb, kb_lb, kb_is, kb_bs, kb_ns, kb_ss, kb_ts, kb_ls, kb_it, kb_bt, kb_nt, kb_st, kb_tt, kb_lt, startD, List.map_cons, List.map_nil, List.length_cons, List.length_nil, List.cons_append, List.nil_append, List.replicate, List.getElem?_cons_zero, List.getElem?_cons_succ, List.set_cons_zero, List.set_cons_succ, List.zip_cons_cons, List.zip_nil_right, List.foldl_cons, List.foldl_nil, Option.bind_some, Option.bind_none, um_same, um_um, Bool.false_eq_true, reduceCtorEq, false_implies, true_implies, forall_const, true_and, and_true, and_self, Bool.not_true, Bool.not_false, implies_true, decide_eq_true_eq, decide_eq_false_iff_not, Bool.not_eq_true, not_true_eq_false, not_false_eq_true, Bool.not_eq_true', Bool.not_eq_false', D.onB, sizeLine_eq, Nat.reduceAdd, Nat.reduceLeDiff, Nat.zero_add, Nat.reduceLT, sp_law_gourd_of, sp_law_right]
      refine ⟨⟨by omega, by omega⟩, fun q M2 hq s2 => ⟨s2.gd, fun M3 g3 => ?_⟩⟩
      have npq : p ≠ q := fun z => by subst z; rw [hq] at e1; cases e1
      have e3 : M3 p = some (.lst (List.replicate j (.bl true))) := g3.2 p _ npq (by rw [s2.ne npq]; exact e1)
      refine ⟨_, e3, by rw [List.length_replicate]; omega, hN _ ⟨by rw [um_same, List.replicate_succ'], fun a o na e => ?_⟩⟩
      rw [um_ne na]
      have e4 := e2 a o na e
      have naq : a ≠ q := fun z => by subst z; rw [hq] at e4; cases e4
      exact g3.2 a o naq (by rw [s2.ne naq]; exact e4)
    · rintro M1 ⟨e1, e2⟩
      refine ⟨_, e1, ?_⟩
      rw [bls_true]
      simp only [List.all_replicate, id, ite_self]
      refine ⟨M, fun a o e => ?_, by simpa using h⟩
      have na : a ≠ p := fun z => by subst z; rw [hp] at e; cases e
      rw [dm_ne na]
      exact e2 a o na e
  · exact h.elim
/-! ### the text -/
theorem sc_law_gulp : FnScope N_law_gulp ["_law_gourd", "_law_top"] (defScope s_law_gulp) := ⟨rfl, rfl, rfl, by decide +kernel, rfl, by decide +kernel, by decide +kernel⟩
theorem sc_law_choose : FnScope N_law_choose ["_law_gourd", "_law_menu"] (defScope s_law_choose) := ⟨rfl, rfl, rfl, by decide +kernel, rfl, by decide +kernel, by decide +kernel⟩
theorem sc_law_row : FnScope N_law_row ["_law_gourd", "_law_cap"] (defScope s_law_row) := ⟨rfl, rfl, rfl, by decide +kernel, rfl, by decide +kernel, by decide +kernel⟩
theorem sc_is_integer : FnScope N_is_integer ["value"] (defScope s_is_integer) := ⟨rfl, rfl, rfl, by decide +kernel, rfl, by decide +kernel, by decide +kernel⟩
theorem sc_is_prime : FnScope N_is_prime ["value"] (defScope s_is_prime) := ⟨rfl, rfl, rfl, by decide +kernel, rfl, by decide +kernel, by decide +kernel⟩
theorem sc_wrong_prime : FnScope N_wrong_prime ["primes"] (defScope s_wrong_prime) := ⟨rfl, rfl, rfl, by decide +kernel, rfl, by decide +kernel, by decide +kernel⟩
theorem sc_product_of : FnScope N_product_of ["primes"] (defScope s_product_of) := ⟨rfl, rfl, rfl, by decide +kernel, rfl, by decide +kernel, by decide +kernel⟩
theorem sc_Lot___init : FnScope N_Lot___init ["self", "primes"] (defScope s_Lot___init) := ⟨rfl, rfl, rfl, by decide +kernel, rfl, by decide +kernel, by decide +kernel⟩
theorem sc_law_nested : FnScope N_law_nested ["_law_gourd", "_law_deep"] (defScope s_law_nested) := ⟨rfl, rfl, rfl, by decide +kernel, rfl, by decide +kernel, by decide +kernel⟩
theorem sc_law_refused : FnScope N_law_refused ["_law_job"] (defScope s_law_refused) := ⟨rfl, rfl, rfl, by decide +kernel, rfl, by decide +kernel, by decide +kernel⟩
theorem sc_read_number : FnScope N_read_number ["word"] (defScope s_read_number) := ⟨rfl, rfl, rfl, by decide +kernel, rfl, by decide +kernel, by decide +kernel⟩
theorem sc_read_lot : FnScope N_read_lot ["text"] (defScope s_read_lot) := ⟨rfl, rfl, rfl, by decide +kernel, rfl, by decide +kernel, by decide +kernel⟩
theorem sc_Lot_read : FnScope N_Lot_read ["cls", "text"] (defScope s_Lot_read) := ⟨rfl, rfl, rfl, by decide +kernel, rfl, by decide +kernel, by decide +kernel⟩
theorem sc_Lot___str : FnScope N_Lot___str ["self"] (defScope s_Lot___str) := ⟨rfl, rfl, rfl, by decide +kernel, rfl, by decide +kernel, by decide +kernel⟩
theorem sc_law_right : FnScope N_law_right ["_law_gourd"] (defScope s_law_right) := ⟨rfl, rfl, rfl, by decide +kernel, rfl, by decide +kernel, by decide +kernel⟩
theorem sc_law_gourd_of : FnScope N_law_gourd_of ["_law_script", "_law_turn"] (defScope s_law_gourd_of) := ⟨rfl, rfl, rfl, by decide +kernel, rfl, by decide +kernel, by decide +kernel⟩
theorem sc_law : FnScope N_law ["_law_script"] (defScope s_law) := ⟨rfl, rfl, rfl, by decide +kernel, rfl, by decide +kernel, by decide +kernel⟩
structure Txt (K : PySem.W.Frag) (mg : Str → Option Value) : Prop where
  f_all : mg "all" = none
  f_range : mg "range" = none
  f_max : mg "max" = none
  f_min : mg "min" = none
  f_len : mg "len" = none
  f_str : mg "str" = none
  f_list : mg "list" = none
  f_tuple : mg "tuple" = none
  f_repr : mg "repr" = none
  sy_ : SysD K
  f_sorted : mg "sorted" = none
  f_divmod : mg "divmod" = none
  f_int : mg "int" = none
  d_Lot_row : FldN K mg "Lot" "row"
  d_Lot_whole : FldN K mg "Lot" "whole"
  f_isinstance : mg "isinstance" = none
  f_enumerate : mg "enumerate" = none
  i_MOST_PRODUCT : ∃ t, mg "MOST_PRODUCT" = some (.int 30030 t)
  f_bool : mg "bool" = none
  m_InvalidText : LkP (fun c b => ExmN K mg c "InvalidText" b) [("InvalidText", true)]
  g_InvalidText : ∃ C, mg "InvalidText" = some (.ref C)
  q_WrongValue : LkP (fun c b => IseN K mg c (.own "WrongValue") b) [("InvalidText", true)]
  g_WrongValue : ∃ C, mg "WrongValue" = some (.ref C)
  x_given : LkC (fun c => XfN K mg c "given") ["InvalidText"]
  e_InvalidText : OwnEN K mg "InvalidText" "given"
  s_DIGITS : ∃ t, mg "DIGITS" = some (.str "0123456789" t)
  f_abs : mg "abs" = none
section
variable {P : Program} {w : World} {K : PySem.W.Frag} {mg : Str → Option Value} {base : Heap}
theorem dd_law_gulp (T : Txt K mg)  {f : Addr} {cdv : Value} {A : Around} {outer : List Env} {s : Shared} {H : Hp} {M : Mp} {E : XE'} (c : Cy (A.deeper (PyProof.Rows.envOfC "_law_gulp" (defScope s_law_gulp) s.heap.objs.size f cdv)) 0) :
    DSs (cxD P w K mg base N_law_gulp "_law_gulp" s_law_gulp f cdv A outer s H M E) ⟨M, H⟩ (defBody s_law_gulp) (t_law_gulp (fnW E)) :=
  have S := sc_law_gulp
  have tk := tk_fn (P := P) (w := w) (K := K) (mg := mg) (base := base) (N := N_law_gulp) (qual := "_law_gulp") (st := s_law_gulp) (f := f) (cdv := cdv) (A := A) (outer := outer) (s := s) (H := H) (M := M) (E := E)
  (dss_cons (ds_if (dt_cmp cd_gt (de_ix (dv 0) de_int) de_int) (dss_cons (ds_asg (de_callB c_divmod2 rfl T.f_divmod b_divmod (da_cons (de_ix (dv 0) de_int) (da_cons (dv 1) da_nil))) (dg_tup rfl (dgs_cons (dg_sub (dv 0) de_int) (dgs_cons (dg_name (i := 2) S.nd rfl (.inl rfl)) dgs_nil)) (ul_cons mt_sub (ul_cons mt_name ul_nil))))
  (dss_one (ds_ret (dv 2)))) dss_nil)
  (dss_cons (ds_asg (de_add (de_ix (dv 0) de_int) de_int) (dg_sub (dv 0) de_int))
  (dss_cons (ds_set (i := 3) S.nd rfl (.inl rfl) (de_mod (de_callTy c_int2 rfl T.f_int b_int (da_cons (de_add (de_ix (dv 0) de_int) (de_mulL de_int (de_ix (dv 0) de_int))) da_nil)) de_int))
  (dss_cons (ds_asg (de_mod (de_callTy c_int2 rfl T.f_int b_int (da_cons (de_add (de_add (de_mulL (dv 3) (de_add (de_mod (de_callTy c_int2 rfl T.f_int b_int (da_cons (dv 3) da_nil)) de_int) de_int)) (de_mulL de_int (de_ix (dv 0) de_int))) de_int) da_nil)) de_int) (dg_sub (dv 0) de_int))
  (dss_one (ds_ret (de_mod (de_div (de_callTy c_int2 rfl T.f_int b_int (da_cons (de_ix (dv 0) de_int) da_nil)) de_int) (dv 1))))))))
theorem ok_law_gulp (T : Txt K mg)  {f : Addr} {fd : FuncData} (F : FunP K "_law_gulp" "_law_gulp" s_law_gulp f fd) : DFn P w K mg base 1 f fd ["_law_gourd", "_law_top"] sp_law_gulp :=
  dfn_of F sc_law_gulp len_law_gulp fun cdv A outer s H M ds Q E c h => ⟨_, dd_law_gulp T  c, pure_law_gulp ds M Q E h⟩
theorem dd_law_choose (T : Txt K mg) (G_law_gulp : GFn P w K mg base 1 "_law_gulp" sp_law_gulp) {f : Addr} {cdv : Value} {A : Around} {outer : List Env} {s : Shared} {H : Hp} {M : Mp} {E : XE'} (c : Cy (A.deeper (PyProof.Rows.envOfC "_law_choose" (defScope s_law_choose) s.heap.objs.size f cdv)) 1) :
    DSs (cxD P w K mg base N_law_choose "_law_choose" s_law_choose f cdv A outer s H M E) ⟨M, H⟩ (defBody s_law_choose) (t_law_choose (fnW E)) :=
  have S := sc_law_choose
  have tk := tk_fn (P := P) (w := w) (K := K) (mg := mg) (base := base) (N := N_law_choose) (qual := "_law_choose") (st := s_law_choose) (f := f) (cdv := cdv) (A := A) (outer := outer) (s := s) (H := H) (M := M) (E := E)
  (dss_one (ds_ret (de_ix (dv 1) (de_call (G_law_gulp.mono (by decide)) c tk rfl (da_cons (dv 0) (da_cons (de_callB c_len rfl T.f_len b_len (da_cons (dv 1) da_nil)) da_nil))))))
theorem ok_law_choose (T : Txt K mg) (G_law_gulp : GFn P w K mg base 1 "_law_gulp" sp_law_gulp) {f : Addr} {fd : FuncData} (F : FunP K "_law_choose" "_law_choose" s_law_choose f fd) : DFn P w K mg base 2 f fd ["_law_gourd", "_law_menu"] sp_law_choose :=
  dfn_of F sc_law_choose len_law_choose fun cdv A outer s H M ds Q E c h => ⟨_, dd_law_choose T G_law_gulp c, pure_law_choose ds M Q E h⟩
theorem dd_law_row (T : Txt K mg) (G_law_gulp : GFn P w K mg base 1 "_law_gulp" sp_law_gulp) (G_law_choose : GFn P w K mg base 2 "_law_choose" sp_law_choose) {f : Addr} {cdv : Value} {A : Around} {outer : List Env} {s : Shared} {H : Hp} {M : Mp} {E : XE'} (c : Cy (A.deeper (PyProof.Rows.envOfC "_law_row" (defScope s_law_row) s.heap.objs.size f cdv)) 2) :
    DSs (cxD P w K mg base N_law_row "_law_row" s_law_row f cdv A outer s H M E) ⟨M, H⟩ (defBody s_law_row) (t_law_row (fnW E)) :=
  have S := sc_law_row
  have tk := tk_fn (P := P) (w := w) (K := K) (mg := mg) (base := base) (N := N_law_row) (qual := "_law_row") (st := s_law_row) (f := f) (cdv := cdv) (A := A) (outer := outer) (s := s) (H := H) (M := M) (E := E)
  (dss_cons (ds_par3 (i := 2) (j := 3) (l := 4) rfl S.nd rfl rfl rfl (by decide) (by decide) (by decide) rfl rfl rfl (da_cons (de_lst (da_cons de_int (da_cons de_int (da_cons de_int (da_cons de_int (da_cons de_int (da_cons de_int (da_cons de_int (da_cons de_int (da_cons de_int (da_cons de_int (da_cons de_int (da_cons de_int (da_cons de_int (da_cons de_int (da_cons de_int (da_cons de_int (da_cons de_int (da_cons de_int (da_cons de_int da_nil)))))))))))))))))))) (da_cons (de_lstM (da_cons de_int da_nil)) (da_cons de_int da_nil))) (by rfl))
  (dss_cons (ds_if (dt_cmp (cd_eq c.hu) (de_call (G_law_gulp.mono (by decide)) c tk rfl (da_cons (dv 0) (da_cons de_int da_nil))) de_int) (dss_cons (ds_set (i := 3) S.nd rfl (.inl rfl) (de_lstM (da_cons (de_call (G_law_choose.mono (by decide)) c tk rfl (da_cons (dv 0) (da_cons (de_lc (own := [("_law_each", 7)]) (i := 7) rfl S.nd (di_items (dv 2)) (blkOk_by (own := [("_law_each", 7)]) (N := N_law_row) (sc := defScope s_law_row) (by decide +kernel)) (by decide) (fun _ _ _ _ _ => pg_name (i := 7) S.nd rfl (Or.inl rfl)) (fun _ _ _ _ _ => (dtl_one (dt_cmp cd_le (dv 7) (dv 1)))) (fun _ _ _ _ _ => (dv 7))) da_nil))) da_nil)))
  (dss_one (ds_set (i := 4) S.nd rfl (.inl rfl) (de_ix (dv 3) de_int)))) dss_nil)
  (dss_cons (ds_for (passes_of rfl) rfl (di_range1 rfl T.f_range (da_cons (de_call (G_law_gulp.mono (by decide)) c tk rfl (da_cons (dv 0) (da_cons de_int da_nil))) da_nil)) (dg_name (i := 5) S.nd rfl (.inl rfl)) (dss_cons (ds_set (i := 6) S.nd rfl (.inl rfl) (de_call (G_law_choose.mono (by decide)) c tk rfl (da_cons (dv 0) (da_cons (dv 2) da_nil))))
  (dss_one (ds_if (dw (dw_and (dt_cmp (cd_notin2 c.hu65) (dv 6) (dv 3)) (dw_and1 (dt_cmp cd_le (de_mulL (dv 4) (dv 6)) (dv 1))))) (dss_cons (ds_expr (de_append (dv 3) (da_cons (dv 6) da_nil)))
  (dss_one (ds_set (i := 4) S.nd rfl (.inl rfl) (de_mulL (dv 4) (dv 6))))) dss_nil))))
  (dss_one (ds_ret (de_callTy c_tuple rfl T.f_tuple b_tuple (da_cons (de_callB c_sorted rfl T.f_sorted b_sorted (da_cons (dv 3) da_nil)) da_nil)))))))
theorem ok_law_row (T : Txt K mg) (G_law_gulp : GFn P w K mg base 1 "_law_gulp" sp_law_gulp) (G_law_choose : GFn P w K mg base 2 "_law_choose" sp_law_choose) {f : Addr} {fd : FuncData} (F : FunP K "_law_row" "_law_row" s_law_row f fd) : DFn P w K mg base 3 f fd ["_law_gourd", "_law_cap"] sp_law_row :=
  dfn_of F sc_law_row len_law_row fun cdv A outer s H M ds Q E c h => ⟨_, dd_law_row T G_law_gulp G_law_choose c, pure_law_row ds M Q E h⟩
theorem dd_is_integer (T : Txt K mg)  {f : Addr} {cdv : Value} {A : Around} {outer : List Env} {s : Shared} {H : Hp} {M : Mp} {E : XE'} (c : Cy (A.deeper (PyProof.Rows.envOfC "is_integer" (defScope s_is_integer) s.heap.objs.size f cdv)) 0) :
    DSs (cxD P w K mg base N_is_integer "is_integer" s_is_integer f cdv A outer s H M E) ⟨M, H⟩ (defBody s_is_integer) (t_is_integer (fnW E)) :=
  have S := sc_is_integer
  have tk := tk_fn (P := P) (w := w) (K := K) (mg := mg) (base := base) (N := N_is_integer) (qual := "is_integer") (st := s_is_integer) (f := f) (cdv := cdv) (A := A) (outer := outer) (s := s) (H := H) (M := M) (E := E)
  (dss_one (ds_ret (de_and (de_callB c_isTy rfl T.f_isinstance b_isinstance (da_cons (dv 0) (da_cons (de_ty rfl T.f_int b_int) da_nil))) (de_one (de_not (de_callB c_isTy rfl T.f_isinstance b_isinstance (da_cons (dv 0) (da_cons (de_ty rfl T.f_bool b_bool) da_nil))))))))
theorem ok_is_integer (T : Txt K mg)  {f : Addr} {fd : FuncData} (F : FunP K "is_integer" "is_integer" s_is_integer f fd) : DFn P w K mg base 1 f fd ["value"] sp_is_integer :=
  dfn_of F sc_is_integer len_is_integer fun cdv A outer s H M ds Q E c h => ⟨_, dd_is_integer T  c, pure_is_integer ds M Q E h⟩
theorem dd_is_prime (T : Txt K mg) (G_is_integer : GFn P w K mg base 1 "is_integer" sp_is_integer) {f : Addr} {cdv : Value} {A : Around} {outer : List Env} {s : Shared} {H : Hp} {M : Mp} {E : XE'} (c : Cy (A.deeper (PyProof.Rows.envOfC "is_prime" (defScope s_is_prime) s.heap.objs.size f cdv)) 1) :
    DSs (cxD P w K mg base N_is_prime "is_prime" s_is_prime f cdv A outer s H M E) ⟨M, H⟩ (defBody s_is_prime) (t_is_prime (fnW E)) :=
  have S := sc_is_prime
  have tk := tk_fn (P := P) (w := w) (K := K) (mg := mg) (base := base) (N := N_is_prime) (qual := "is_prime") (st := s_is_prime) (f := f) (cdv := cdv) (A := A) (outer := outer) (s := s) (H := H) (M := M) (E := E)
  (dss_cons (ds_if (dw (dw_or (dt_not (dt_val (de_call (G_is_integer.mono (by decide)) c tk rfl (da_cons (dv 0) da_nil)))) (dw_or (dt_cmp cd_lt (dv 0) de_int) (dw_or1 (dt_cmp cd_gt (dv 0) (de_gI rfl T.i_MOST_PRODUCT)))))) (dss_one (ds_ret de_bl)) dss_nil)
  (dss_cons (ds_set (i := 1) S.nd rfl (.inl rfl) de_int)
  (dss_cons (ds_while (passes_of rfl) (dt_cmp cd_le (de_mulL (dv 1) (dv 1)) (dv 0)) (dss_cons (ds_if (dt_cmp (cd_eq c.hu) (de_mod (dv 0) (dv 1)) de_int) (dss_one (ds_ret de_bl)) dss_nil)
  (dss_one (ds_aug (i := 1) ia_add.1 ia_add.2 S.nd rfl (.inl rfl) de_int))))
  (dss_one (ds_ret de_bl)))))
theorem ok_is_prime (T : Txt K mg) (G_is_integer : GFn P w K mg base 1 "is_integer" sp_is_integer) {f : Addr} {fd : FuncData} (F : FunP K "is_prime" "is_prime" s_is_prime f fd) : DFn P w K mg base 2 f fd ["value"] sp_is_prime :=
  dfn_of F sc_is_prime len_is_prime fun cdv A outer s H M ds Q E c h => ⟨_, dd_is_prime T G_is_integer c, pure_is_prime ds M Q E h⟩
theorem dd_wrong_prime (T : Txt K mg) (G_is_prime : GFn P w K mg base 2 "is_prime" sp_is_prime) {f : Addr} {cdv : Value} {A : Around} {outer : List Env} {s : Shared} {H : Hp} {M : Mp} {E : XE'} (c : Cy (A.deeper (PyProof.Rows.envOfC "wrong_prime" (defScope s_wrong_prime) s.heap.objs.size f cdv)) 2) :
    DSs (cxD P w K mg base N_wrong_prime "wrong_prime" s_wrong_prime f cdv A outer s H M E) ⟨M, H⟩ (defBody s_wrong_prime) (t_wrong_prime (fnW E)) :=
  have S := sc_wrong_prime
  have tk := tk_fn (P := P) (w := w) (K := K) (mg := mg) (base := base) (N := N_wrong_prime) (qual := "wrong_prime") (st := s_wrong_prime) (f := f) (cdv := cdv) (A := A) (outer := outer) (s := s) (H := H) (M := M) (E := E)
  (dss_cons (ds_if (dw (dw_or (dt_not (dt_val (de_callB c_isTy rfl T.f_isinstance b_isinstance (da_cons (dv 0) (da_cons (de_ty rfl T.f_tuple b_tuple) da_nil))))) (dw_or1 (dt_cmp (cd_eq c.hu) (de_callB c_len rfl T.f_len b_len (da_cons (dv 0) da_nil)) de_int)))) (dss_one (ds_ret (de_tup (da_cons de_non da_nil)))) dss_nil)
  (dss_cons (ds_asg (de_tup (da_cons de_int (da_cons de_int da_nil))) (dg_tup rfl (dgs_cons (dg_name (i := 1) S.nd rfl (.inl rfl)) (dgs_cons (dg_name (i := 2) S.nd rfl (.inl rfl)) dgs_nil)) (ul_cons mt_name (ul_cons mt_name ul_nil))))
  (dss_cons (ds_for (passes_of rfl) rfl (di_enum rfl T.f_enumerate (da_cons (dv 0) da_nil)) (dg_tup rfl (dgs_cons (dg_name (i := 3) S.nd rfl (.inl rfl)) (dgs_cons (dg_name (i := 4) S.nd rfl (.inl rfl)) dgs_nil)) (ul_cons mt_name (ul_cons mt_name ul_nil))) (dss_cons (ds_if (dw (dw_or (dt_not (dt_val (de_call (G_is_prime.mono (by decide)) c tk rfl (da_cons (dv 4) da_nil)))) (dw_or (dt_cmp cd_le (dv 4) (dv 1)) (dw_or1 (dt_cmp cd_gt (de_mulL (dv 2) (dv 4)) (de_gI rfl T.i_MOST_PRODUCT)))))) (dss_one (ds_ret (de_tup (da_cons (dv 3) da_nil)))) dss_nil)
  (dss_one (ds_par (i := 1) (j := 2) rfl S.nd rfl rfl (by decide) rfl rfl (da_cons (dv 4) (da_cons (de_mulL (dv 2) (dv 4)) da_nil)) (by rfl)))))
  (dss_one (ds_ret (de_tup da_nil))))))
theorem ok_wrong_prime (T : Txt K mg) (G_is_prime : GFn P w K mg base 2 "is_prime" sp_is_prime) {f : Addr} {fd : FuncData} (F : FunP K "wrong_prime" "wrong_prime" s_wrong_prime f fd) : DFn P w K mg base 3 f fd ["primes"] sp_wrong_prime :=
  dfn_of F sc_wrong_prime len_wrong_prime fun cdv A outer s H M ds Q E c h => ⟨_, dd_wrong_prime T G_is_prime c, pure_wrong_prime ds M Q E h⟩
theorem dd_product_of (T : Txt K mg)  {f : Addr} {cdv : Value} {A : Around} {outer : List Env} {s : Shared} {H : Hp} {M : Mp} {E : XE'} (c : Cy (A.deeper (PyProof.Rows.envOfC "product_of" (defScope s_product_of) s.heap.objs.size f cdv)) 0) :
    DSs (cxD P w K mg base N_product_of "product_of" s_product_of f cdv A outer s H M E) ⟨M, H⟩ (defBody s_product_of) (t_product_of (fnW E)) :=
  have S := sc_product_of
  have tk := tk_fn (P := P) (w := w) (K := K) (mg := mg) (base := base) (N := N_product_of) (qual := "product_of") (st := s_product_of) (f := f) (cdv := cdv) (A := A) (outer := outer) (s := s) (H := H) (M := M) (E := E)
  (dss_cons (ds_set (i := 1) S.nd rfl (.inl rfl) de_int)
  (dss_cons (ds_for (passes_of rfl) rfl (di_items (dv 0)) (dg_name (i := 2) S.nd rfl (.inl rfl)) (dss_one (ds_aug (i := 1) ia_mul.1 ia_mul.2 S.nd rfl (.inl rfl) (dv 2))))
  (dss_one (ds_ret (dv 1)))))
theorem ok_product_of (T : Txt K mg)  {f : Addr} {fd : FuncData} (F : FunP K "product_of" "product_of" s_product_of f fd) : DFn P w K mg base 1 f fd ["primes"] sp_product_of :=
  dfn_of F sc_product_of len_product_of fun cdv A outer s H M ds Q E c h => ⟨_, dd_product_of T  c, pure_product_of ds M Q E h⟩
theorem dd_Lot___init (T : Txt K mg) (G_wrong_prime : GFn P w K mg base 3 "wrong_prime" sp_wrong_prime) (G_product_of : GFn P w K mg base 1 "product_of" sp_product_of) {f : Addr} {cdv : Value} {A : Around} {outer : List Env} {s : Shared} {H : Hp} {M : Mp} {E : XE'} (c : Cy (A.deeper (PyProof.Rows.envOfC "Lot.__init__" (defScope s_Lot___init) s.heap.objs.size f cdv)) 3) :
    DSs (cxD P w K mg base N_Lot___init "Lot.__init__" s_Lot___init f cdv A outer s H M E) ⟨M, H⟩ (defBody s_Lot___init) (t_Lot___init (fnW E)) :=
  have S := sc_Lot___init
  have tk := tk_fn (P := P) (w := w) (K := K) (mg := mg) (base := base) (N := N_Lot___init) (qual := "Lot.__init__") (st := s_Lot___init) (f := f) (cdv := cdv) (A := A) (outer := outer) (s := s) (H := H) (M := M) (E := E)
  (dss_cons (ds_set (i := 2) S.nd rfl (.inl rfl) (de_call (G_wrong_prime.mono (by decide)) c tk rfl (da_cons (dv 1) da_nil)))
  (dss_cons (ds_if (dt_cmp (cd_ne c.hu) (dv 2) (de_tup da_nil)) (dss_one ds_never) dss_nil)
  (dss_cons (ds_setF T.d_Lot_row (dv 1) (dv 0))
  (dss_one (ds_setF T.d_Lot_whole (de_call (G_product_of.mono (by decide)) c tk rfl (da_cons (dv 1) da_nil)) (dv 0))))))
theorem ok_Lot___init (T : Txt K mg) (G_wrong_prime : GFn P w K mg base 3 "wrong_prime" sp_wrong_prime) (G_product_of : GFn P w K mg base 1 "product_of" sp_product_of) {f : Addr} {fd : FuncData} (F : FunP K "__init__" "Lot.__init__" s_Lot___init f fd) : DFn P w K mg base 4 f fd ["self", "primes"] sp_Lot___init :=
  dfn_of F sc_Lot___init len_Lot___init fun cdv A outer s H M ds Q E c h => ⟨_, dd_Lot___init T G_wrong_prime G_product_of c, pure_Lot___init ds M Q E h⟩
theorem dd_law_nested (T : Txt K mg) (G_law_choose : GFn P w K mg base 2 "_law_choose" sp_law_choose) (G_law_gulp : GFn P w K mg base 1 "_law_gulp" sp_law_gulp) {kk : Nat} {R : DSp} (G_R : GFn P w K mg base (kk + 2) "_law_nested" R) {f : Addr} {cdv : Value} {A : Around} {outer : List Env} {s : Shared} {H : Hp} {M : Mp} {E : XE'} (c : Cy (A.deeper (PyProof.Rows.envOfC "_law_nested" (defScope s_law_nested) s.heap.objs.size f cdv)) (kk + 2)) :
    DSs (cxD P w K mg base N_law_nested "_law_nested" s_law_nested f cdv A outer s H M E) ⟨M, H⟩ (defBody s_law_nested) (t_law_nested R (fnW E)) :=
  have S := sc_law_nested
  have tk := tk_fn (P := P) (w := w) (K := K) (mg := mg) (base := base) (N := N_law_nested) (qual := "_law_nested") (st := s_law_nested) (f := f) (cdv := cdv) (A := A) (outer := outer) (s := s) (H := H) (M := M) (E := E)
  (dss_cons (ds_if (dt_cmp (cd_eq c.hu) (dv 1) de_int) (dss_one (ds_ret (de_call (G_law_choose.mono (by omega)) c tk rfl (da_cons (dv 0) (da_cons (de_lst (da_cons de_non (da_cons de_int (da_cons de_str (da_cons de_str (da_cons de_bl (da_cons (de_tup da_nil) da_nil))))))) da_nil))))) dss_nil)
  (dss_cons (ds_setLc (iy := 2) (own := [("_law_k", 3)]) (i := 3) rfl S.nd rfl rfl (sw_true rfl rfl rfl (by decide +kernel)) (di_range1 rfl T.f_range (da_cons (de_call (G_law_gulp.mono (by omega)) c tk rfl (da_cons (dv 0) (da_cons de_int da_nil))) da_nil)) (blkOk_by (own := [("_law_k", 3)]) (N := N_law_nested) (sc := defScope s_law_nested) (by decide +kernel)) (by decide) (fun _ _ _ _ _ => pg_name (i := 3) S.nd rfl (Or.inl rfl)) (fun _ _ _ _ _ => dtl_nil) (fun _ _ _ _ _ => (de_call (G_R.mono (Nat.le_refl _)) c tk_no rfl (da_cons (dv 0) (da_cons (de_sub (dv 1) de_int) da_nil)))))
  (dss_one (ds_ret (de_call (G_law_choose.mono (by omega)) c tk rfl (da_cons (dv 0) (da_cons (de_lst (da_cons (de_callTy c_tuple rfl T.f_tuple b_tuple (da_cons (dv 2) da_nil)) (da_cons (dv 2) (da_cons (de_dsp1 de_str (dv 2)) (da_cons (de_tup (da_cons (dv 2) da_nil)) da_nil))))) da_nil)))))))
theorem ok_law_nested (T : Txt K mg) (G_law_choose : GFn P w K mg base 2 "_law_choose" sp_law_choose) (G_law_gulp : GFn P w K mg base 1 "_law_gulp" sp_law_gulp) {f : Addr} {fd : FuncData} (F : FunP K "_law_nested" "_law_nested" s_law_nested f fd) (hm : mg "_law_nested" = some (.ref f)) (b : Binds K fd ["_law_gourd", "_law_deep"] []) : ∀ n : Nat, DFn P w K mg base (n + 2 + 1) f fd ["_law_gourd", "_law_deep"] (sp_law_nested n)
  | 0 => dfn_of F sc_law_nested (len_law_nested 0) fun cdv A outer s H M ds Q E c h => ⟨_, dd_law_nested T G_law_choose G_law_gulp (R := R_law_nested 0) (kk := 0) ⟨f, fd, _, DFn.bot, hm, F.kp, b⟩ (c.mono (by omega)), pure_law_nested 0 ds M Q E h⟩
  | n + 1 => dfn_of F sc_law_nested (len_law_nested (n + 1)) fun cdv A outer s H M ds Q E c h => ⟨_, dd_law_nested T G_law_choose G_law_gulp (R := R_law_nested (n + 1)) (kk := n + 1) ⟨f, fd, _, (ok_law_nested T G_law_choose G_law_gulp F hm b n).mono (by omega), hm, F.kp, b⟩ (c.mono (by omega)), pure_law_nested (n + 1) ds M Q E h⟩
theorem dd_law_refused (T : Txt K mg)  {g : Addr} {cdv : Value} {A : Around} {outer : List Env} {s : Shared} {H : Hp} {M : Mp} {E : XE'} {f : Addr} {tl : TLam} (c : Cy (A.deeper (PyProof.Rows.envOfC "_law_refused" (defScope s_law_refused) s.heap.objs.size g cdv)) 0) (act : ∀ (B1 : At) (W : DW') (pn : List (Addr × Obj)) (xe : Value → Shared → Prop) (p1 p2 : Pos), Keep M H B1.M B1.H → DTk ((cxD P w K mg base N_law_refused "_law_refused" s_law_refused g cdv A outer s H M E).tr pn xe) B1 W → DE ((cxD P w K mg base N_law_refused "_law_refused" s_law_refused g cdv A outer s H M E).tr pn xe) B1 (.Call (.Name "_law_job" p1) [] [] p2) (dAct f tl W)) :
    DSs (cxD P w K mg base N_law_refused "_law_refused" s_law_refused g cdv A outer s H M E) ⟨M, H⟩ (defBody s_law_refused) (t_law_refused f tl (fnW E)) :=
  have S := sc_law_refused
  have tk := tk_fn (P := P) (w := w) (K := K) (mg := mg) (base := base) (N := N_law_refused) (qual := "_law_refused") (st := s_law_refused) (f := g) (cdv := cdv) (A := A) (outer := outer) (s := s) (H := H) (M := M) (E := E)
  (dss_cons (ds_try rfl rfl tk (fun B1 kb W pn xe tk _ => (dss_one (ds_expr (act _ W pn xe _ _ kb tk)))) (.as S.nd rfl rfl rfl (by decide) (Classical.choose_spec T.g_InvalidText) (lk_all T.m_InvalidText) (fun a oe cls d pn B1 x hz hf r => (dss_one (ds_ret (de_if (dt_val (de_isE (lk_all T.q_WrongValue) hz hf r rfl T.f_isinstance b_isinstance (da_cons (dv 1) (da_cons (de_cls rfl (Classical.choose_spec T.g_WrongValue)) da_nil)))) (de_callB (c_reprH T.sy_ c.gd c.hu) rfl T.f_repr b_repr (da_cons (de_xf (mem_all T.x_given) hz hf r (dv 1)) da_nil)) de_str)))) .nil))
  (dss_one (ds_ret de_str)))
theorem ok_law_refused (T : Txt K mg)  {g : Addr} {fd : FuncData} (F : FunP K "_law_refused" "_law_refused" s_law_refused g fd) (hm : mg "_law_refused" = some (.ref g)) (b : Binds K fd ["_law_job"] []) : GFnL P w K mg base 0 "_law_refused" "_law_job" tt_law_refused :=
  ⟨g, fd, s_law_refused, N_law_refused, hm, F.kp, F, b, sc_law_refused, rfl, by first | exact .inl (by decide +kernel) | exact .inr (.inl (by decide +kernel)), fun cdv A outer s H M f tl Q E c act h => ⟨_, dd_law_refused T  c act, h f⟩⟩
theorem dd_read_number (T : Txt K mg)  {f : Addr} {cdv : Value} {A : Around} {outer : List Env} {s : Shared} {H : Hp} {M : Mp} {E : XE'} (c : Cy (A.deeper (PyProof.Rows.envOfC "read_number" (defScope s_read_number) s.heap.objs.size f cdv)) 0) :
    DSs (cxD P w K mg base N_read_number "read_number" s_read_number f cdv A outer s H M E) ⟨M, H⟩ (defBody s_read_number) (t_read_number (fnW E)) :=
  have S := sc_read_number
  have tk := tk_fn (P := P) (w := w) (K := K) (mg := mg) (base := base) (N := N_read_number) (qual := "read_number") (st := s_read_number) (f := f) (cdv := cdv) (A := A) (outer := outer) (s := s) (H := H) (M := M) (E := E)
  (dss_cons (ds_if (dw (dw_or (dt_cmp (cd_eq c.hu) (dv 0) de_str) (dw_or (dt_cmp cd_gt (de_callB c_len rfl T.f_len b_len (da_cons (dv 0) da_nil)) de_int) (dw_or1 (dt_not (dt_val (de_callB (c_all rfl) rfl T.f_all b_all (da_cons (de_lcG (own := [("sign", 2)]) (c := (CT.one 2)) rfl S.nd (dj_items (dv 0)) (blkOk_by (own := [("sign", 2)]) (N := N_read_number) (sc := defScope s_read_number) (by decide +kernel)) (by decide) (fun _ _ _ _ _ => (pg_name (i := 2) S.nd rfl (Or.inl rfl))) (fun _ _ _ _ _ => dtl_nil) (fun _ _ _ _ _ => (de_cmp (cd_in2 c.hu65) (dv 2) (de_gS rfl T.s_DIGITS)))) da_nil)))))))) (dss_one (ds_ret de_non)) dss_nil)
  (dss_cons (ds_set (i := 1) S.nd rfl (.inl rfl) (de_callTy c_int2 rfl T.f_int b_int (da_cons (dv 0) da_nil)))
  (dss_one (ds_ret (de_if (dt_cmp (cd_eq c.hu) (de_callTy c_str rfl T.f_str b_str (da_cons (dv 1) da_nil)) (dv 0)) (dv 1) de_non)))))
theorem ok_read_number (T : Txt K mg)  {f : Addr} {fd : FuncData} (F : FunP K "read_number" "read_number" s_read_number f fd) : DFn P w K mg base 1 f fd ["word"] sp_read_number :=
  dfn_of F sc_read_number len_read_number fun cdv A outer s H M ds Q E c h => ⟨_, dd_read_number T  c, pure_read_number ds M Q E h⟩
theorem dd_read_lot (T : Txt K mg) (G_read_number : GFn P w K mg base 1 "read_number" sp_read_number) (G_wrong_prime : GFn P w K mg base 3 "wrong_prime" sp_wrong_prime) {f : Addr} {cdv : Value} {A : Around} {outer : List Env} {s : Shared} {H : Hp} {M : Mp} {E : XE'} (c : Cy (A.deeper (PyProof.Rows.envOfC "read_lot" (defScope s_read_lot) s.heap.objs.size f cdv)) 3) :
    DSs (cxD P w K mg base N_read_lot "read_lot" s_read_lot f cdv A outer s H M E) ⟨M, H⟩ (defBody s_read_lot) (t_read_lot (fnW E)) :=
  have S := sc_read_lot
  have tk := tk_fn (P := P) (w := w) (K := K) (mg := mg) (base := base) (N := N_read_lot) (qual := "read_lot") (st := s_read_lot) (f := f) (cdv := cdv) (A := A) (outer := outer) (s := s) (H := H) (M := M) (E := E)
  (dss_cons (ds_if (dt_not (dt_val (de_callB c_isTyH rfl T.f_isinstance b_isinstance (da_cons (dv 0) (da_cons (de_ty rfl T.f_str b_str) da_nil))))) (dss_one (ds_ret de_non)) dss_nil)
  (dss_cons (ds_set (i := 1) S.nd rfl (.inl rfl) (de_callTy c_tuple rfl T.f_tuple b_tuple (da_cons (de_lc (own := [("word", 2)]) (i := 2) rfl S.nd (di_items (de_split (dv 0) de_str)) (blkOk_by (own := [("word", 2)]) (N := N_read_lot) (sc := defScope s_read_lot) (by decide +kernel)) (by decide) (fun _ _ _ _ _ => pg_name (i := 2) S.nd rfl (Or.inl rfl)) (fun _ _ _ _ _ => dtl_nil) (fun _ _ _ _ _ => (de_call (G_read_number.mono (by decide)) c tk_no rfl (da_cons (dv 2) da_nil)))) da_nil)))
  (dss_one (ds_ret (de_if (dt_cmp (cd_eq c.hu) (de_call (G_wrong_prime.mono (by decide)) c tk rfl (da_cons (dv 1) da_nil)) (de_tup da_nil)) (dv 1) de_non)))))
theorem ok_read_lot (T : Txt K mg) (G_read_number : GFn P w K mg base 1 "read_number" sp_read_number) (G_wrong_prime : GFn P w K mg base 3 "wrong_prime" sp_wrong_prime) {f : Addr} {fd : FuncData} (F : FunP K "read_lot" "read_lot" s_read_lot f fd) : DFn P w K mg base 4 f fd ["text"] sp_read_lot :=
  dfn_of F sc_read_lot len_read_lot fun cdv A outer s H M ds Q E c h => ⟨_, dd_read_lot T G_read_number G_wrong_prime c, pure_read_lot ds M Q E h⟩
theorem dd_Lot_read (T : Txt K mg) (G_read_lot : GFn P w K mg base 4 "read_lot" sp_read_lot) (G_Lot___init : GMk P w K mg base 4 "Lot" ["self", "primes"] sp_Lot___init) {f : Addr} {cdv : Value} {A : Around} {outer : List Env} {s : Shared} {H : Hp} {M : Mp} {E : XE'} (c : Cy (A.deeper (PyProof.Rows.envOfC "Lot.read" (defScope s_Lot_read) s.heap.objs.size f cdv)) 5) :
    DSs (cxD P w K mg base N_Lot_read "Lot.read" s_Lot_read f cdv A outer s H M E) ⟨M, H⟩ (defBody s_Lot_read) (t_Lot_read (fnW E)) :=
  have S := sc_Lot_read
  have tk := tk_fn (P := P) (w := w) (K := K) (mg := mg) (base := base) (N := N_Lot_read) (qual := "Lot.read") (st := s_Lot_read) (f := f) (cdv := cdv) (A := A) (outer := outer) (s := s) (H := H) (M := M) (E := E)
  (dss_cons (ds_set (i := 2) S.nd rfl (.inl rfl) (de_call (G_read_lot.mono (by decide)) c tk rfl (da_cons (dv 1) da_nil)))
  (dss_cons (ds_if (dt_cmp cd_is2 (dv 2) de_non) (dss_one (ds_raise rfl T.e_InvalidText c tk (da_cons (dv 1) da_nil) rfl)) dss_nil)
  (dss_one (ds_ret (de_makeV (i := 0) (G_Lot___init.mono (by decide)) c tk rfl (by first | exact Or.inl rfl | exact Or.inr (Or.inl rfl) | exact Or.inr (Or.inr rfl)) (da_cons (dv 2) da_nil))))))
theorem ok_Lot_read (T : Txt K mg) (G_read_lot : GFn P w K mg base 4 "read_lot" sp_read_lot) (G_Lot___init : GMk P w K mg base 4 "Lot" ["self", "primes"] sp_Lot___init) {f : Addr} {fd : FuncData} (F : FunP K "read" "Lot.read" s_Lot_read f fd) : DFn P w K mg base 6 f fd ["cls", "text"] sp_Lot_read :=
  dfn_of F sc_Lot_read len_Lot_read fun cdv A outer s H M ds Q E c h => ⟨_, dd_Lot_read T G_read_lot G_Lot___init c, pure_Lot_read ds M Q E h⟩
theorem dd_Lot___str (T : Txt K mg)  {f : Addr} {cdv : Value} {A : Around} {outer : List Env} {s : Shared} {H : Hp} {M : Mp} {E : XE'} (c : Cy (A.deeper (PyProof.Rows.envOfC "Lot.__str__" (defScope s_Lot___str) s.heap.objs.size f cdv)) 0) :
    DSs (cxD P w K mg base N_Lot___str "Lot.__str__" s_Lot___str f cdv A outer s H M E) ⟨M, H⟩ (defBody s_Lot___str) (t_Lot___str (fnW E)) :=
  have S := sc_Lot___str
  have tk := tk_fn (P := P) (w := w) (K := K) (mg := mg) (base := base) (N := N_Lot___str) (qual := "Lot.__str__") (st := s_Lot___str) (f := f) (cdv := cdv) (A := A) (outer := outer) (s := s) (H := H) (M := M) (E := E)
  (dss_one (ds_ret (de_join de_str (de_lc (own := [("prime", 1)]) (i := 1) rfl S.nd (di_items (de_fld T.d_Lot_row (dv 0))) (blkOk_by (own := [("prime", 1)]) (N := N_Lot___str) (sc := defScope s_Lot___str) (by decide +kernel)) (by decide) (fun _ _ _ _ _ => pg_name (i := 1) S.nd rfl (Or.inl rfl)) (fun _ _ _ _ _ => dtl_nil) (fun _ _ _ _ _ => (de_callTy c_str rfl T.f_str b_str (da_cons (dv 1) da_nil)))))))
theorem ok_Lot___str (T : Txt K mg)  {f : Addr} {fd : FuncData} (F : FunP K "__str__" "Lot.__str__" s_Lot___str f fd) : DFn P w K mg base 1 f fd ["self"] sp_Lot___str :=
  dfn_of F sc_Lot___str len_Lot___str fun cdv A outer s H M ds Q E c h => ⟨_, dd_Lot___str T  c, pure_Lot___str ds M Q E h⟩
theorem dd_law_right (T : Txt K mg) (TS : TBs K mg base) (G_law_row : GFn P w K mg base 3 "_law_row" sp_law_row) (G_Lot___init : GMk P w K mg base 4 "Lot" ["self", "primes"] sp_Lot___init) (G_law_nested : GFn P w K mg base 8 "_law_nested" (sp_law_nested 5)) (G_law_gulp : GFn P w K mg base 1 "_law_gulp" sp_law_gulp) (G_law_refused : GFnL P w K mg base 0 "_law_refused" "_law_job" tt_law_refused) (G_Lot_read : GCm P w K mg base 6 "Lot" "read" ["cls", "text"] sp_Lot_read) (G_Lot___str : GMeth P w K mg base 1 "Lot" "__str__" ["self"] sp_Lot___str) (Gk0_Lot_read : GCmK P w K mg base 6 "Lot" "read" ["text"] [0, 1] sp_Lot_read) {f : Addr} {cdv : Value} {A : Around} {outer : List Env} {s : Shared} {H : Hp} {M : Mp} {E : XE'} (hL : LamC K "_law_right" cdv) (c : Cy (A.deeper (PyProof.Rows.envOfC "_law_right" (defScope s_law_right) s.heap.objs.size f cdv)) 8) :
    DSs (cxD P w K mg base N_law_right "_law_right" s_law_right f cdv A outer s H M E) ⟨M, H⟩ (defBody s_law_right) (t_law_right (fnW E)) :=
  have S := sc_law_right
  have tk := tk_fn (P := P) (w := w) (K := K) (mg := mg) (base := base) (N := N_law_right) (qual := "_law_right") (st := s_law_right) (f := f) (cdv := cdv) (A := A) (outer := outer) (s := s) (H := H) (M := M) (E := E)
  (dss_cons (ds_for (passes_of rfl) rfl (di_range1 rfl T.f_range (da_cons de_int da_nil)) (dg_name (i := 1) S.nd rfl (.inl rfl)) (dss_cons (ds_set (i := 2) S.nd rfl (.inl rfl) (de_call (G_law_row.mono (by decide)) c tk rfl (da_cons (dv 0) (da_cons de_int da_nil))))
  (dss_cons (ds_set (i := 3) S.nd rfl (.inr rfl) (de_join de_str (de_lc (own := [("_law_each", 8)]) (i := 8) rfl S.nd (di_items (dv 2)) (blkOk_by (own := [("_law_each", 8)]) (N := N_law_right) (sc := defScope s_law_right) (by decide +kernel)) (by decide) (fun _ _ _ _ _ => pg_name (i := 8) S.nd rfl (Or.inl rfl)) (fun _ _ _ _ _ => dtl_nil) (fun _ _ _ _ _ => (de_callTy c_str rfl T.f_str b_str (da_cons (dv 8) da_nil))))))
  (dss_cons (ds_set (i := 4) S.nd rfl (.inl rfl) (de_make (G_Lot___init.mono (by decide)) c tk rfl (da_cons (dv 2) da_nil)))
  (dss_cons (ds_set (i := 5) S.nd rfl (.inl rfl) (de_lst (da_cons de_non (da_cons de_int (da_cons de_int (da_cons de_bl (da_cons de_bl (da_cons (dv 2) (da_cons (de_callTy c_list rfl T.f_list b_list (da_cons (dv 2) da_nil)) (da_cons (de_split (dv 3) de_str) (da_cons (de_callTy c_tuple rfl T.f_tuple b_tuple (da_cons (de_split (dv 3) de_str) da_nil)) (da_cons de_dct (da_cons (de_ix (dv 2) de_int) (da_cons (de_neg de_int) da_nil))))))))))))))
  (dss_cons (ds_set (i := 5) S.nd rfl (.inl rfl) (de_add (dv 5) (de_lst (da_cons (de_call (G_law_nested.mono (by decide)) c tk rfl (da_cons (dv 0) (da_cons (de_add de_int (de_call (G_law_gulp.mono (by decide)) c tk rfl (da_cons (dv 0) (da_cons de_int da_nil)))) da_nil))) (da_cons (de_tup (da_cons (dv 3) da_nil)) (da_cons (de_lst (da_cons (dv 3) da_nil)) (da_cons (de_dsp1 (dv 3) (dv 3)) (da_cons (de_pow de_int de_int) (da_cons (de_tup da_nil) da_nil)))))))))
  (dss_cons (ds_set (i := 5) S.nd rfl (.inl rfl) (de_add (dv 5) (de_lst (da_cons de_str (da_cons de_str (da_cons de_str (da_cons (de_add (dv 3) de_str) (da_cons (de_add de_str (dv 3)) (da_cons (de_add de_str (dv 3)) (da_cons (de_add (dv 3) de_str) (da_cons (de_add de_str (dv 3)) (da_cons (de_add de_str (dv 3)) (da_cons de_str da_nil)))))))))))))
  (dss_cons (ds_set (i := 5) S.nd rfl (.inl rfl) (de_add (dv 5) (de_lst (da_consT (dep_op op_add_str oc_addS (dv 3)) (det_op op_add_str oc_addS (det_repl (dv 3)) de_str) (da_cons (de_add (de_add (dv 3) de_str) (dv 3)) (da_cons de_str (da_cons de_str (da_cons (de_add (dv 3) de_str) da_nil))))))))
  (dss_cons (ds_for (passes_of rfl) rfl (di_items (dv 5)) (dg_name (i := 6) S.nd rfl (.inr rfl)) (dss_cons (ds_set (i := 7) S.nd rfl (.inl rfl) (de_lstM (da_cons (de_lam (G_law_refused.mono (by decide)) c tk TS (lamx hL) rfl (LamX.lamS_by (by first | rfl | with_unfolding_all rfl)) rfl (fun _ _ _ _ _ => rfl) (fun _ _ _ _ _ _ _ _ W c hY tk => (de_cm (G_Lot_read.mono (by decide)) c tk rfl (da_cons (dv 6) da_nil)))) da_nil)))
  (dss_cons (ds_expr (de_append (dv 7) (da_cons (de_lam (G_law_refused.mono (by decide)) c tk TS (lamx hL) rfl (LamX.lamS_by (by first | rfl | with_unfolding_all rfl)) rfl (fun _ _ _ _ _ => rfl) (fun _ _ _ _ _ _ _ _ W c hY tk => (de_cmK (ks := ["text"]) (Gk0_Lot_read.mono (by decide)) c tk rfl (dk_cons (dv 6) dk_nil)))) da_nil)))
  (dss_one (ds_if (dt_cmp (cd_ne c.hu) (dv 7) (de_mulL (de_lst (da_cons (de_callB (c_reprH T.sy_ c.gd c.hu) rfl T.f_repr b_repr (da_cons (dv 6) da_nil)) da_nil)) de_int)) (dss_one (ds_ret de_bl)) dss_nil)))))
  (dss_one (ds_if (dw (dw_or (dt_cmp (cd_ne c.hu) (de_callTy (c_strO G_Lot___str (Cy.le c)) rfl T.f_str b_str (da_cons (dv 4) da_nil)) (dv 3)) (dw_or1 (dt_cmp (cd_ne c.hu) (de_lam (G_law_refused.mono (by decide)) c tk TS (lamx hL) rfl (LamX.lamS_by (by first | rfl | with_unfolding_all rfl)) rfl (fun _ _ _ _ _ => rfl) (fun _ _ _ _ _ _ _ _ W c hY tk => (de_cm (G_Lot_read.mono (by decide)) c tk rfl (da_cons (dv 3) da_nil)))) de_str)))) (dss_one (ds_ret de_bl)) dss_nil)))))))))))
  (dss_one (ds_ret de_bl)))
theorem ok_law_right (T : Txt K mg) (TS : TBs K mg base) (G_law_row : GFn P w K mg base 3 "_law_row" sp_law_row) (G_Lot___init : GMk P w K mg base 4 "Lot" ["self", "primes"] sp_Lot___init) (G_law_nested : GFn P w K mg base 8 "_law_nested" (sp_law_nested 5)) (G_law_gulp : GFn P w K mg base 1 "_law_gulp" sp_law_gulp) (G_law_refused : GFnL P w K mg base 0 "_law_refused" "_law_job" tt_law_refused) (G_Lot_read : GCm P w K mg base 6 "Lot" "read" ["cls", "text"] sp_Lot_read) (G_Lot___str : GMeth P w K mg base 1 "Lot" "__str__" ["self"] sp_Lot___str) (Gk0_Lot_read : GCmK P w K mg base 6 "Lot" "read" ["text"] [0, 1] sp_Lot_read) {f : Addr} {fd : FuncData} (F : FunP K "_law_right" "_law_right" s_law_right f fd) (LO : LamOk K f) : DFn P w K mg base 9 f fd ["_law_gourd"] sp_law_right :=
  dfn_ofL F sc_law_right LO len_law_right fun cdv hL A outer s H M ds Q E c h => ⟨_, dd_law_right T TS G_law_row G_Lot___init G_law_nested G_law_gulp G_law_refused G_Lot_read G_Lot___str Gk0_Lot_read hL c, pure_law_right ds M Q E h⟩
theorem dd_law_gourd_of (T : Txt K mg)  {f : Addr} {cdv : Value} {A : Around} {outer : List Env} {s : Shared} {H : Hp} {M : Mp} {E : XE'} (c : Cy (A.deeper (PyProof.Rows.envOfC "_law_gourd_of" (defScope s_law_gourd_of) s.heap.objs.size f cdv)) 0) :
    DSs (cxD P w K mg base N_law_gourd_of "_law_gourd_of" s_law_gourd_of f cdv A outer s H M E) ⟨M, H⟩ (defBody s_law_gourd_of) (t_law_gourd_of (fnW E)) :=
  have S := sc_law_gourd_of
  have tk := tk_fn (P := P) (w := w) (K := K) (mg := mg) (base := base) (N := N_law_gourd_of) (qual := "_law_gourd_of") (st := s_law_gourd_of) (f := f) (cdv := cdv) (A := A) (outer := outer) (s := s) (H := H) (M := M) (E := E)
  (dss_cons (ds_par (i := 2) (j := 3) rfl S.nd rfl rfl (by decide) rfl rfl (da_cons (de_if (dt_cmp cd_lt (dv 1) (de_callB c_len rfl T.f_len b_len (da_cons (dv 0) da_nil))) (de_ix (dv 0) (dv 1)) de_int) (da_cons (de_add de_int (de_mulL de_int (dv 1))) da_nil)) (by rfl))
  (dss_cons (ds_for (passes_of rfl) rfl (di_enum rfl T.f_enumerate (da_cons (de_slice (dv 0) do_none (do_some de_int)) da_nil)) (dg_tup rfl (dgs_cons (dg_name (i := 4) S.nd rfl (.inl rfl)) (dgs_cons (dg_name (i := 5) S.nd rfl (.inl rfl)) dgs_nil)) (ul_cons mt_name (ul_cons mt_name ul_nil))) (dss_one (ds_set (i := 3) S.nd rfl (.inl rfl) (de_mod (de_callTy c_int2 rfl T.f_int b_int (da_cons (de_add (de_mulL (dv 3) (de_add de_int (de_mulL de_int (dv 4)))) (de_mulL de_int (dv 5))) da_nil)) de_int))))
  (dss_one (ds_ret (de_lstM (da_cons (de_if (dw (dw_or (dt_cmp cd_lt (dv 2) de_int) (dw_or1 (dt_cmp cd_ge (dv 2) (de_pow de_int de_int))))) (de_callB c_abs rfl T.f_abs b_abs (da_cons (dv 2) da_nil)) de_int) (da_cons (de_mod (de_callTy c_int2 rfl T.f_int b_int (da_cons (de_add (dv 3) (de_mulL de_int (dv 2))) da_nil)) de_int) (da_cons de_int da_nil))))))))
theorem ok_law_gourd_of (T : Txt K mg)  {f : Addr} {fd : FuncData} (F : FunP K "_law_gourd_of" "_law_gourd_of" s_law_gourd_of f fd) : DFn P w K mg base 1 f fd ["_law_script", "_law_turn"] sp_law_gourd_of :=
  dfn_of F sc_law_gourd_of len_law_gourd_of fun cdv A outer s H M ds Q E c h => ⟨_, dd_law_gourd_of T  c, pure_law_gourd_of ds M Q E h⟩
theorem dd_law (T : Txt K mg) (G_law_right : GFn P w K mg base 9 "_law_right" sp_law_right) (G_law_gourd_of : GFn P w K mg base 1 "_law_gourd_of" sp_law_gourd_of) {f : Addr} {cdv : Value} {A : Around} {outer : List Env} {s : Shared} {H : Hp} {M : Mp} {E : XE'} (c : Cy (A.deeper (PyProof.Rows.envOfC "law" (defScope s_law) s.heap.objs.size f cdv)) 9) :
    DSs (cxD P w K mg base N_law "law" s_law f cdv A outer s H M E) ⟨M, H⟩ (defBody s_law) (t_law (fnW E)) :=
  have S := sc_law
  have tk := tk_fn (P := P) (w := w) (K := K) (mg := mg) (base := base) (N := N_law) (qual := "law") (st := s_law) (f := f) (cdv := cdv) (A := A) (outer := outer) (s := s) (H := H) (M := M) (E := E)
  (dss_one (ds_ret (de_callB (c_all rfl) rfl T.f_all b_all (da_cons (de_lc (own := [("_law_turn", 1)]) (i := 1) rfl S.nd (di_range1 rfl T.f_range (da_cons (de_callB (c_max rfl) rfl T.f_max b_max (da_cons de_int (da_cons (de_callB (c_min rfl) rfl T.f_min b_min (da_cons (de_callB c_len rfl T.f_len b_len (da_cons (dv 0) da_nil)) (da_cons de_int da_nil))) da_nil))) da_nil)) (blkOk_by (own := [("_law_turn", 1)]) (N := N_law) (sc := defScope s_law) (by decide +kernel)) (by decide) (fun _ _ _ _ _ => pg_name (i := 1) S.nd rfl (Or.inl rfl)) (fun _ _ _ _ _ => dtl_nil) (fun _ _ _ _ _ => (de_call (G_law_right.mono (by decide)) c tk_no rfl (da_cons (de_call (G_law_gourd_of.mono (by decide)) c tk_no rfl (da_cons (dv 0) (da_cons (dv 1) da_nil))) da_nil)))) da_nil))))
theorem ok_law (T : Txt K mg) (G_law_right : GFn P w K mg base 9 "_law_right" sp_law_right) (G_law_gourd_of : GFn P w K mg base 1 "_law_gourd_of" sp_law_gourd_of) {f : Addr} {fd : FuncData} (F : FunP K "law" "law" s_law f fd) : DFn P w K mg base 10 f fd ["_law_script"] sp_law :=
  dfn_of F sc_law len_law fun cdv A outer s H M ds Q E c h => ⟨_, dd_law T G_law_right G_law_gourd_of c, pure_law ds M Q E h⟩
end
theorem facts {P : Program} {w : World} {K : PySem.W.Frag} {h : Heap} {mg : Str → Option Value} {f : Addr} (X : K.In h) (G : h.Ns mainGlobals mg) (hfa : mg ("law" : Str) = some (.ref f)) (c : SaysA faL fnL K) :
    ∃ fd : FuncData, (∀ (s : Shared) (v : Value), BindsTo s fd ⟨[v], []⟩ [("_law_script", v)]) ∧ ∀ base : Heap, K.In base → base.Ns mainGlobals mg → TBs K mg base → DFn P w K mg base 10 f fd ["_law_script"] sp_law := by
  obtain ⟨fd_law_gulp, F_law_gulp⟩ := c.def_ 0 (d := df_law_gulp) rfl
  obtain ⟨fd_law_choose, F_law_choose⟩ := c.def_ 1 (d := df_law_choose) rfl
  obtain ⟨fd_law_row, F_law_row⟩ := c.def_ 2 (d := df_law_row) rfl
  obtain ⟨fd_is_integer, F_is_integer⟩ := c.def_ 3 (d := df_is_integer) rfl
  obtain ⟨fd_is_prime, F_is_prime⟩ := c.def_ 4 (d := df_is_prime) rfl
  obtain ⟨fd_wrong_prime, F_wrong_prime⟩ := c.def_ 5 (d := df_wrong_prime) rfl
  obtain ⟨fd_product_of, F_product_of⟩ := c.def_ 6 (d := df_product_of) rfl
  obtain ⟨fd_Lot___init, F_Lot___init⟩ := c.def_ 7 (d := df_Lot___init) rfl
  obtain ⟨fd_law_nested, F_law_nested⟩ := c.def_ 8 (d := df_law_nested) rfl
  obtain ⟨fd_law_refused, F_law_refused⟩ := c.def_ 9 (d := df_law_refused) rfl
  obtain ⟨fd_read_number, F_read_number⟩ := c.def_ 10 (d := df_read_number) rfl
  obtain ⟨fd_read_lot, F_read_lot⟩ := c.def_ 11 (d := df_read_lot) rfl
  obtain ⟨fd_Lot_read, F_Lot_read⟩ := c.def_ 12 (d := df_Lot_read) rfl
  obtain ⟨fd_Lot___str, F_Lot___str⟩ := c.def_ 13 (d := df_Lot___str) rfl
  obtain ⟨fd_law_right, F_law_right⟩ := c.def_ 14 (d := df_law_right) rfl
  obtain ⟨fd_law_gourd_of, F_law_gourd_of⟩ := c.def_ 15 (d := df_law_gourd_of) rfl
  obtain ⟨fd_law, F_law⟩ := c.def_ 16 (d := df_law) rfl
  obtain ⟨fd_EInvalidText, F_EInvalidText⟩ := c.def_ 17 (d := df_EInvalidText) rfl
  have T : Txt K mg := ⟨He.free_ok X G (fa_ok (c.fact 0 (f := .fa (.free "all")) rfl)), He.free_ok X G (fa_ok (c.fact 1 (f := .fa (.free "range")) rfl)), He.free_ok X G (fa_ok (c.fact 2 (f := .fa (.free "max")) rfl)), He.free_ok X G (fa_ok (c.fact 3 (f := .fa (.free "min")) rfl)), He.free_ok X G (fa_ok (c.fact 4 (f := .fa (.free "len")) rfl)), He.free_ok X G (fa_ok (c.fact 5 (f := .fa (.free "str")) rfl)), He.free_ok X G (fa_ok (c.fact 6 (f := .fa (.free "list")) rfl)), He.free_ok X G (fa_ok (c.fact 7 (f := .fa (.free "tuple")) rfl)), He.free_ok X G (fa_ok (c.fact 8 (f := .fa (.free "repr")) rfl)), sysd_n (c.fact 9 (f := .sysd) rfl), He.free_ok X G (fa_ok (c.fact 10 (f := .fa (.free "sorted")) rfl)), He.free_ok X G (fa_ok (c.fact 11 (f := .fa (.free "divmod")) rfl)), He.free_ok X G (fa_ok (c.fact 12 (f := .fa (.free "int")) rfl)), fld_n X G (c.fact 13 (f := .fa (.glo "Lot")) rfl) (c.fact 14 (f := .ins "Lot") rfl) (c.fact 15 (f := .fa (.noat "Lot" "row")) rfl), fld_n X G (c.fact 13 (f := .fa (.glo "Lot")) rfl) (c.fact 14 (f := .ins "Lot") rfl) (c.fact 16 (f := .fa (.noat "Lot" "whole")) rfl), He.free_ok X G (fa_ok (c.fact 17 (f := .fa (.free "isinstance")) rfl)), He.free_ok X G (fa_ok (c.fact 18 (f := .fa (.free "enumerate")) rfl)), He.int_ok X G (fa_ok (c.fact 19 (f := .fa (.int "MOST_PRODUCT" 30030)) rfl)), He.free_ok X G (fa_ok (c.fact 20 (f := .fa (.free "bool")) rfl)), ⟨exm_n X G (c.fact 21 (f := .fa (.glo "InvalidText")) rfl) (c.fact 21 (f := .fa (.glo "InvalidText")) rfl) (c.fact 22 (f := .exm "InvalidText" "InvalidText" true) rfl), trivial⟩, cls_g X G (c.fact 21 (f := .fa (.glo "InvalidText")) rfl), ⟨ise_own X G (c.fact 21 (f := .fa (.glo "InvalidText")) rfl) (c.fact 23 (f := .exc "InvalidText") rfl) (c.fact 24 (f := .fa (.glo "WrongValue")) rfl) (c.fact 25 (f := .kit (.own "InvalidText") (.own "WrongValue") true) rfl), trivial⟩, cls_g X G (c.fact 24 (f := .fa (.glo "WrongValue")) rfl), ⟨xf_n X G (c.fact 21 (f := .fa (.glo "InvalidText")) rfl) (c.fact 26 (f := .xf "InvalidText" "given") rfl), trivial⟩, own_n (st := s_EInvalidText) (b := 0) (by decide) X G (c.fact 21 (f := .fa (.glo "InvalidText")) rfl) (c.fact 27 (f := .owne "InvalidText" "given" 0) rfl) F_EInvalidText ⟨_, _, _, _, _, _, rfl, rfl, rfl⟩, He.str_ok X G (fa_ok (c.fact 28 (f := .fa (.str "DIGITS" "0123456789")) rfl)), He.free_ok X G (fa_ok (c.fact 29 (f := .fa (.free "abs")) rfl))⟩
  have e := hfa.symm.trans (He.glo_ok X G (fa_ok (c.fact 30 (f := .fa (.glo "law")) rfl)))
  cases e
  have b_law_gulp := FunD.bindsN (ps := ["_law_gourd", "_law_top"]) F_law_gulp fun _ _ _ _ _ _ us hl => match us, hl with | [_, _], _ => rfl
  have b_law_choose := FunD.bindsN (ps := ["_law_gourd", "_law_menu"]) F_law_choose fun _ _ _ _ _ _ us hl => match us, hl with | [_, _], _ => rfl
  have b_law_row := FunD.bindsN (ps := ["_law_gourd", "_law_cap"]) F_law_row fun _ _ _ _ _ _ us hl => match us, hl with | [_, _], _ => rfl
  have b_is_integer := FunD.bindsN (ps := ["value"]) F_is_integer fun _ _ _ _ _ _ us hl => match us, hl with | [_], _ => rfl
  have b_is_prime := FunD.bindsN (ps := ["value"]) F_is_prime fun _ _ _ _ _ _ us hl => match us, hl with | [_], _ => rfl
  have b_wrong_prime := FunD.bindsN (ps := ["primes"]) F_wrong_prime fun _ _ _ _ _ _ us hl => match us, hl with | [_], _ => rfl
  have b_product_of := FunD.bindsN (ps := ["primes"]) F_product_of fun _ _ _ _ _ _ us hl => match us, hl with | [_], _ => rfl
  have b_Lot___init := FunD.bindsN (ps := ["self", "primes"]) F_Lot___init fun _ _ _ _ _ _ us hl => match us, hl with | [_, _], _ => rfl
  have b_law_nested := FunD.bindsN (ps := ["_law_gourd", "_law_deep"]) F_law_nested fun _ _ _ _ _ _ us hl => match us, hl with | [_, _], _ => rfl
  have b_law_refused := FunD.bindsN (ps := ["_law_job"]) F_law_refused fun _ _ _ _ _ _ us hl => match us, hl with | [_], _ => rfl
  have b_read_number := FunD.bindsN (ps := ["word"]) F_read_number fun _ _ _ _ _ _ us hl => match us, hl with | [_], _ => rfl
  have b_read_lot := FunD.bindsN (ps := ["text"]) F_read_lot fun _ _ _ _ _ _ us hl => match us, hl with | [_], _ => rfl
  have b_Lot_read := FunD.bindsN (ps := ["cls", "text"]) F_Lot_read fun _ _ _ _ _ _ us hl => match us, hl with | [_, _], _ => rfl
  have b_Lot___str := FunD.bindsN (ps := ["self"]) F_Lot___str fun _ _ _ _ _ _ us hl => match us, hl with | [_], _ => rfl
  have b_law_right := FunD.bindsN (ps := ["_law_gourd"]) F_law_right fun _ _ _ _ _ _ us hl => match us, hl with | [_], _ => rfl
  have b_law_gourd_of := FunD.bindsN (ps := ["_law_script", "_law_turn"]) F_law_gourd_of fun _ _ _ _ _ _ us hl => match us, hl with | [_, _], _ => rfl
  have b_law := FunD.bindsN (ps := ["_law_script"]) F_law fun _ _ _ _ _ _ us hl => match us, hl with | [_], _ => rfl
  have kGk0_Lot_read : KwB K fd_Lot_read ["cls", "text"] 1 ["text"] [0, 1] := FunD.kw F_Lot_read fun _ _ _ _ _ _ us ws h1 h2 => match us, ws, h1, h2 with | [_], [_], _, _ => rfl
  refine ⟨fd_law, fun s v => FunD.bindsA (ps := ["_law_script"]) F_law (fun _ _ _ _ _ _ us hl => match us, hl with | [_], _ => rfl) s [v] rfl, fun base _ _ TS => ?_⟩
  have D_law_gulp := ok_law_gulp (P := P) (w := w) (base := base) T  F_law_gulp
  have G_law_gulp : GFn P w K mg base 1 "_law_gulp" sp_law_gulp := ⟨_, _, _, D_law_gulp, He.glo_ok X G (fa_ok (c.fact 31 (f := .fa (.glo "_law_gulp")) rfl)), F_law_gulp.kp, b_law_gulp⟩
  have D_law_choose := ok_law_choose (P := P) (w := w) (base := base) T G_law_gulp F_law_choose
  have G_law_choose : GFn P w K mg base 2 "_law_choose" sp_law_choose := ⟨_, _, _, D_law_choose, He.glo_ok X G (fa_ok (c.fact 32 (f := .fa (.glo "_law_choose")) rfl)), F_law_choose.kp, b_law_choose⟩
  have D_law_row := ok_law_row (P := P) (w := w) (base := base) T G_law_gulp G_law_choose F_law_row
  have G_law_row : GFn P w K mg base 3 "_law_row" sp_law_row := ⟨_, _, _, D_law_row, He.glo_ok X G (fa_ok (c.fact 33 (f := .fa (.glo "_law_row")) rfl)), F_law_row.kp, b_law_row⟩
  have D_is_integer := ok_is_integer (P := P) (w := w) (base := base) T  F_is_integer
  have G_is_integer : GFn P w K mg base 1 "is_integer" sp_is_integer := ⟨_, _, _, D_is_integer, He.glo_ok X G (fa_ok (c.fact 34 (f := .fa (.glo "is_integer")) rfl)), F_is_integer.kp, b_is_integer⟩
  have D_is_prime := ok_is_prime (P := P) (w := w) (base := base) T G_is_integer F_is_prime
  have G_is_prime : GFn P w K mg base 2 "is_prime" sp_is_prime := ⟨_, _, _, D_is_prime, He.glo_ok X G (fa_ok (c.fact 35 (f := .fa (.glo "is_prime")) rfl)), F_is_prime.kp, b_is_prime⟩
  have D_wrong_prime := ok_wrong_prime (P := P) (w := w) (base := base) T G_is_prime F_wrong_prime
  have G_wrong_prime : GFn P w K mg base 3 "wrong_prime" sp_wrong_prime := ⟨_, _, _, D_wrong_prime, He.glo_ok X G (fa_ok (c.fact 36 (f := .fa (.glo "wrong_prime")) rfl)), F_wrong_prime.kp, b_wrong_prime⟩
  have D_product_of := ok_product_of (P := P) (w := w) (base := base) T  F_product_of
  have G_product_of : GFn P w K mg base 1 "product_of" sp_product_of := ⟨_, _, _, D_product_of, He.glo_ok X G (fa_ok (c.fact 37 (f := .fa (.glo "product_of")) rfl)), F_product_of.kp, b_product_of⟩
  have D_Lot___init := ok_Lot___init (P := P) (w := w) (base := base) T G_wrong_prime G_product_of F_Lot___init
  have G_Lot___init : GMk P w K mg base 4 "Lot" ["self", "primes"] sp_Lot___init := mk_g X G (c.fact 13 (f := .fa (.glo "Lot")) rfl) (c.fact 38 (f := .fa (.mkr "Lot")) rfl) D_Lot___init b_Lot___init
  have D_law_nested := ok_law_nested (P := P) (w := w) (base := base) T G_law_choose G_law_gulp F_law_nested (He.glo_ok X G (fa_ok (c.fact 39 (f := .fa (.glo "_law_nested")) rfl))) b_law_nested 5
  have G_law_nested : GFn P w K mg base 8 "_law_nested" (sp_law_nested 5) := ⟨_, _, _, D_law_nested, He.glo_ok X G (fa_ok (c.fact 39 (f := .fa (.glo "_law_nested")) rfl)), F_law_nested.kp, b_law_nested⟩
  have G_law_refused : GFnL P w K mg base 0 "_law_refused" "_law_job" tt_law_refused := ok_law_refused (P := P) (w := w) (base := base) T  F_law_refused (He.glo_ok X G (fa_ok (c.fact 40 (f := .fa (.glo "_law_refused")) rfl))) b_law_refused
  have D_read_number := ok_read_number (P := P) (w := w) (base := base) T  F_read_number
  have G_read_number : GFn P w K mg base 1 "read_number" sp_read_number := ⟨_, _, _, D_read_number, He.glo_ok X G (fa_ok (c.fact 41 (f := .fa (.glo "read_number")) rfl)), F_read_number.kp, b_read_number⟩
  have D_read_lot := ok_read_lot (P := P) (w := w) (base := base) T G_read_number G_wrong_prime F_read_lot
  have G_read_lot : GFn P w K mg base 4 "read_lot" sp_read_lot := ⟨_, _, _, D_read_lot, He.glo_ok X G (fa_ok (c.fact 42 (f := .fa (.glo "read_lot")) rfl)), F_read_lot.kp, b_read_lot⟩
  have D_Lot_read := ok_Lot_read (P := P) (w := w) (base := base) T G_read_lot G_Lot___init F_Lot_read
  have G_Lot_read : GCm P w K mg base 6 "Lot" "read" ["cls", "text"] sp_Lot_read := cm_g X G (c.fact 13 (f := .fa (.glo "Lot")) rfl) (c.fact 43 (f := .cm "Lot" "read") rfl) D_Lot_read b_Lot_read
  have Gk0_Lot_read : GCmK P w K mg base 6 "Lot" "read" ["text"] [0, 1] sp_Lot_read := cmk_g X G (c.fact 13 (f := .fa (.glo "Lot")) rfl) (c.fact 43 (f := .cm "Lot" "read") rfl) D_Lot_read kGk0_Lot_read
  have D_Lot___str := ok_Lot___str (P := P) (w := w) (base := base) T  F_Lot___str
  have G_Lot___str : GMeth P w K mg base 1 "Lot" "__str__" ["self"] sp_Lot___str := meth_g X G (c.fact 13 (f := .fa (.glo "Lot")) rfl) (c.fact 14 (f := .ins "Lot") rfl) (c.fact 44 (f := .fa (.meth "Lot" "__str__")) rfl) D_Lot___str b_Lot___str
  have D_law_right := ok_law_right (P := P) (w := w) (base := base) T TS G_law_row G_Lot___init G_law_nested G_law_gulp G_law_refused G_Lot_read G_Lot___str Gk0_Lot_read F_law_right (lam_ok (c.fact 46 (f := .lam (.glo "_law_right")) rfl))
  have G_law_right : GFn P w K mg base 9 "_law_right" sp_law_right := ⟨_, _, _, D_law_right, He.glo_ok X G (fa_ok (c.fact 45 (f := .fa (.glo "_law_right")) rfl)), F_law_right.kp, b_law_right⟩
  have D_law_gourd_of := ok_law_gourd_of (P := P) (w := w) (base := base) T  F_law_gourd_of
  have G_law_gourd_of : GFn P w K mg base 1 "_law_gourd_of" sp_law_gourd_of := ⟨_, _, _, D_law_gourd_of, He.glo_ok X G (fa_ok (c.fact 47 (f := .fa (.glo "_law_gourd_of")) rfl)), F_law_gourd_of.kp, b_law_gourd_of⟩
  exact ok_law (P := P) (w := w) (base := base) T G_law_right G_law_gourd_of F_law
end Law
open PySem PySem.W PySem.Calls
set_option maxRecDepth 100000 in
set_option maxHeartbeats 0 in
theorem PySem.Challenge.cw_smoothpairs_k06_texts_of_other_kinds_ref_holds : PySem.Challenge.rw_smoothpairs_k06_texts_of_other_kinds_ref.Holds := by
  w_on; o_law
  refine HandSHeadRun.head_any (r := OpenLaw.row PySem.Challenge.rw_smoothpairs_k06_texts_of_other_kinds_ref) (q := view (OpenLaw.row PySem.Challenge.rw_smoothpairs_k06_texts_of_other_kinds_ref).prog [24]) (H := Law.hkk) (ob := Law.obb) (M := 20000) (loose := Law.looseL) (d := HandSHeadRun.topDef (OpenLaw.row PySem.Challenge.rw_smoothpairs_k06_texts_of_other_kinds_ref).prog 24) (kwd := []) Law.obb_eq
    (by kernel_rfl) (fun s => by kernel_rfl) Law.runW (by kernel_rfl) (by kernel_rfl) (by kernel_rfl) (by rfl) (by first | assumption | decide +kernel) (by decide +kernel) ⟨rfl, rfl, rfl, rfl, rfl, by decide +kernel⟩ ?hw ?hc
  case hw => w_witness2
  case hc =>
    refine DL.walk_D (l := PySem.Challenge.rw_smoothpairs_k06_texts_of_other_kinds_ref) (k := 10) (x := "_law_script") rfl (by kernel_rfl) ⟨rfl, by decide, by decide⟩ ?F
    intro w mg fa h Y G hmg0
    obtain ⟨K, KX, c, TH⟩ := Y
    have hmg : mg ("law" : PySem.Str) = some (.ref fa) := by
      have e : (HandSHeadRun.topDef (OpenLaw.row PySem.Challenge.rw_smoothpairs_k06_texts_of_other_kinds_ref).prog 24).name = ("law" : PySem.Str) := by kernel_rfl
      rw [← e]
      exact hmg0
    obtain ⟨fd, hb, hF⟩ := Law.facts (P := (PySem.Challenge.rw_smoothpairs_k06_texts_of_other_kinds_ref).prog) (w := w) KX G hmg c
    exact ⟨K, fd, KX, TH, hb, fun base k1 k2 k3 => (hF base k1 k2 k3).imp Law.law_is⟩
