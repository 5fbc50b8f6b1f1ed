import PyProof.Rows.All
import HandS.ForMost
import HandS.ForExc
import HandS.CallSlots
import HandS.TupAny
import HandS.Wide
import HandS.Deep
import HandS.IsInst
import HandS.Style
import HandS.Defaults
import HandS.Head0
import HandS.Head1
import HandS.Head2
import HandS.HeadEnd
import HandS.HeadHook1
import HandS.HeadHook2
import HandS.Property
import HandS.Comp
import HandS.SortInts
import PyProof.ReprRoads
import HandS.Iter
import KE.GoesEnum
import KE.GoesMore
import PyProof.ReprLen
import HandS.Zip
import PySem.Challenge.RW_smoothpairs_k83_whole_solutions_claimed
set_option Elab.async false
set_option linter.all false
set_option maxRecDepth 100000
set_option maxHeartbeats 4000000
/-! The D layer, part a: deep data over the tracked heap. -/
namespace DL
open PySem PySem.Spec L2

/-- a value as data: tuples, settled lists and settled instances stand inline -/
inductive D where
  | non | bl (b : Bool) | int (i : Int) | str (s : Str)
  | tup (xs : List D) | lst (xs : List D) | scr (ns : List Int)
  | inst (c : Str) (fn : List Str) (xs : List D) | ref (a : Addr) | cls (c : Str) | ty (n : String) | dct
/-- what may still change -/
inductive MO where
  | lst (xs : List D)
  | ins (c : Str) (fs : List (Str × D))
abbrev Mp := Addr → Option MO
def um (M : Mp) (a : Addr) (o : MO) : Mp := fun b => if b = a then some o else M b
def dm (M : Mp) (a : Addr) : Mp := fun b => if b = a then none else M b
@[simp] theorem um_same (M : Mp) (a : Addr) (o : MO) : um M a o a = some o := by simp [um]
theorem um_ne {M : Mp} {a b : Addr} {o : MO} (h : b ≠ a) : um M a o b = M b := by simp [um, h]
@[simp] theorem um_um (M : Mp) (a : Addr) (o u : MO) : um (um M a o) a u = um M a u := by
  funext b; by_cases h : b = a <;> simp [um, h]
@[simp] theorem dm_same (M : Mp) (a : Addr) : dm M a a = none := by simp [dm]
theorem dm_ne {M : Mp} {a b : Addr} (h : b ≠ a) : dm M a b = M b := by simp [dm, h]
theorem dm_um {M : Mp} {a : Addr} {o : MO} (h : M a = none) : dm (um M a o) a = M := by
  funext b
  by_cases q : b = a
  · rw [q, dm_same, h]
  · rw [dm_ne q, um_ne q]
theorem mo_ne {M : Mp} {a b : Addr} {o : MO} (h : M a = some o) (h' : M b = none) : a ≠ b := by
  intro e; subst e; rw [h] at h'; cases h'
/-- less is told -/
def MLe (M M' : Mp) : Prop := ∀ a o, M a = some o → M' a = some o
theorem MLe.rfl' {M : Mp} : MLe M M := fun _ _ h => h
theorem MLe.trans {M M1 M2 : Mp} (a : MLe M M1) (b : MLe M1 M2) : MLe M M2 := fun c o h => b c o (a c o h)
theorem MLe.um {M : Mp} {p : Addr} {o : MO} (h : M p = none) : MLe M (um M p o) := fun a u e => by
  rw [um_ne (mo_ne e h)]; exact e
theorem MLe.none {M M' : Mp} (l : MLe M M') {a : Addr} (h : M' a = none) : M a = none := by
  cases e : M a with
  | none => rfl
  | some o => rw [l a o e] at h; cases h

section
variable (K : PySem.W.Frag) (mg : Str → Option Value) (M : Mp) (H : Hp)
mutual
def RepV : D → V → Prop
  | .non, v => v = .non
  | .bl b, v => v = .bl b
  | .int i, v => v = .int i
  | .str s, v => v = .str s
  | .tup xs, v => ∃ a vs, v = .ref a ∧ M a = none ∧ H a = some (.tup vs) ∧ RepVs xs vs
  | .lst xs, v => ∃ a vs, v = .ref a ∧ M a = none ∧ H a = some (.lst vs) ∧ RepVs xs vs
  | .scr ns, v => ∃ a, v = .ref a ∧ ((M a = none ∧ Rd H a (.lst (ns.map V.int))) ∨ SqL K (fun _ => none) a (ns.map V.int))
  | .inst c fn xs, v => ∃ a C dx fs, v = .ref a ∧ M a = none ∧ mg c = some (.ref C) ∧ H a = some (.ins C dx fs) ∧ fs.map (·.1) = fn ∧ RepVs xs (fs.map (·.2))
  | .ref a, v => v = .ref a
  | .cls c, v => ∃ C, v = .ref C ∧ mg c = some (.ref C)
  | .ty n, v => v = .ty n
  | .dct, v => ∃ a, v = .ref a ∧ M a = none ∧ H a = some (.dK [])
def RepVs : List D → List V → Prop
  | [], vs => vs = []
  | d :: ds, vs => ∃ v vr, vs = v :: vr ∧ RepV d v ∧ RepVs ds vr
end
end

/-- all that is not told in M stays -/
structure Keep (M : Mp) (H : Hp) (M' : Mp) (H' : Hp) : Prop where
  k : ∀ b o, H b = some o → M b = none → H' b = some o ∧ M' b = none
theorem Keep.rfl' {M : Mp} {H : Hp} : Keep M H M H := ⟨fun _ _ h n => ⟨h, n⟩⟩
theorem Keep.trans {M M1 M2 : Mp} {H H1 H2 : Hp} (a : Keep M H M1 H1) (b : Keep M1 H1 M2 H2) : Keep M H M2 H2 :=
  ⟨fun c o h n => let ⟨x, y⟩ := a.k c o h n; b.k c o x y⟩
theorem Keep.less {M M1 M0 : Mp} {H H1 : Hp} (a : Keep M H M1 H1) (l : MLe M0 M1) : Keep M H M0 H1 :=
  ⟨fun c o h n => let ⟨x, y⟩ := a.k c o h n; ⟨x, l.none y⟩⟩

section
variable {K : PySem.W.Frag} {mg : Str → Option Value} {M M' : Mp} {H H' : Hp}
mutual
theorem RepV.keep (k : Keep M H M' H') : ∀ (d : D) (v : V), RepV K mg M H d v → RepV K mg M' H' d v
  | .non, v, h => by unfold RepV at *; exact h
  | .bl b, v, h => by unfold RepV at *; exact h
  | .int i, v, h => by unfold RepV at *; exact h
  | .str s, v, h => by unfold RepV at *; exact h
  | .tup xs, v, h => by
    unfold RepV at *
    obtain ⟨a, vs, e, n, ha, r⟩ := h
    exact ⟨a, vs, e, (k.k _ _ ha n).2, (k.k _ _ ha n).1, RepVs.keep k xs vs r⟩
  | .lst xs, v, h => by
    unfold RepV at *
    obtain ⟨a, vs, e, n, ha, r⟩ := h
    exact ⟨a, vs, e, (k.k _ _ ha n).2, (k.k _ _ ha n).1, RepVs.keep k xs vs r⟩
  | .scr ns, v, h => by
    unfold RepV at *
    obtain ⟨a, e, r⟩ := h
    refine ⟨a, e, ?_⟩
    rcases r with ⟨n, r | ⟨o, r⟩⟩ | r
    · exact .inl ⟨(k.k _ _ r n).2, .inl (k.k _ _ r n).1⟩
    · exact .inl ⟨(k.k _ _ r n).2, .inr ⟨o, (k.k _ _ r n).1⟩⟩
    · exact .inr r
  | .inst c fn xs, v, h => by
    unfold RepV at *
    obtain ⟨a, C, dx, fs, e, n, hc, ha, hf, r⟩ := h
    exact ⟨a, C, dx, fs, e, (k.k _ _ ha n).2, hc, (k.k _ _ ha n).1, hf, RepVs.keep k xs _ r⟩
  | .ref a, v, h => by unfold RepV at *; exact h
  | .cls c, v, h => by unfold RepV at *; exact h
  | .ty c, v, h => by unfold RepV at *; exact h
  | .dct, v, h => by
    unfold RepV at *
    obtain ⟨a, e, n, ha⟩ := h
    exact ⟨a, e, (k.k _ _ ha n).2, (k.k _ _ ha n).1⟩
theorem RepVs.keep (k : Keep M H M' H') : ∀ (ds : List D) (vs : List V), RepVs K mg M H ds vs → RepVs K mg M' H' ds vs
  | [], vs, h => by unfold RepVs at *; exact h
  | d :: ds, vs, h => by
    unfold RepVs at *
    obtain ⟨v, vr, e, r, rs⟩ := h
    exact ⟨v, vr, e, RepV.keep k d v r, RepVs.keep k ds vr rs⟩
end
end
end DL
/-! The D layer, part b: states, judgements. -/
namespace DL
open PySem PySem.Spec L2

section
variable (K : PySem.W.Frag) (mg : Str → Option Value) (M : Mp) (H : Hp)
def RepF (fs : List (Str × D)) (gs : List (Str × V)) : Prop := gs.map (·.1) = fs.map (·.1) ∧ RepVs K mg M H (fs.map (·.2)) (gs.map (·.2))
def RepO (a : Addr) : MO → Prop
  | .lst ds => ∃ vs, H a = some (.lst vs) ∧ RepVs K mg M H ds vs
  | .ins c fs => ∃ C dx gs, mg c = some (.ref C) ∧ H a = some (.ins C dx gs) ∧ RepF K mg M H fs gs
def RepM : Prop := ∀ a o, M a = some o → RepO K mg M H a o
abbrev Rho := List (Option D)
def RepS (ρ : Rho) (σ : St) : Prop := ρ.length = σ.length ∧ ∀ (i : Nat) (d : D), ρ[i]? = some (some d) → ∃ v, σ[i]? = some (some v) ∧ RepV K mg M H d v
end

section
variable {K : PySem.W.Frag} {mg : Str → Option Value} {M M' M0 : Mp} {H H' H0 : Hp} {ρ : Rho} {σ : St}
theorem RepF.keep (k : Keep M H M' H') {fs : List (Str × D)} {gs : List (Str × V)} (h : RepF K mg M H fs gs) : RepF K mg M' H' fs gs := ⟨h.1, RepVs.keep k _ _ h.2⟩
theorem RepS.keep (k : Keep M H M' H') (h : RepS K mg M H ρ σ) : RepS K mg M' H' ρ σ :=
  ⟨h.1, fun i d e => let ⟨v, e1, r⟩ := h.2 i d e; ⟨v, e1, RepV.keep k d v r⟩⟩
theorem RepVs.length : ∀ {ds : List D} {vs : List V}, RepVs K mg M H ds vs → ds.length = vs.length
  | [], vs, h => by unfold RepVs at h; subst h; rfl
  | d :: ds, vs, h => by
    unfold RepVs at h
    obtain ⟨v, vr, rfl, _, r⟩ := h
    simp [RepVs.length r]
theorem RepVs.get : ∀ {ds : List D} {vs : List V} {i : Nat} {d : D}, RepVs K mg M H ds vs → ds[i]? = some d → ∃ v, vs[i]? = some v ∧ RepV K mg M H d v
  | [], _, _, _, _, e => by simp at e
  | x :: ds, vs, i, d, h, e => by
    unfold RepVs at h
    obtain ⟨v, vr, rfl, r, rs⟩ := h
    cases i with
    | zero => simp at e; subst e; exact ⟨v, rfl, r⟩
    | succ i => simpa using RepVs.get rs (by simpa using e)
theorem RepVs.append : ∀ {ds es : List D} {vs ws : List V}, RepVs K mg M H ds vs → RepVs K mg M H es ws → RepVs K mg M H (ds ++ es) (vs ++ ws)
  | [], es, vs, ws, h, h' => by unfold RepVs at h; subst h; simpa using h'
  | x :: ds, es, vs, ws, h, h' => by
    unfold RepVs at h
    obtain ⟨v, vr, rfl, r, rs⟩ := h
    show RepVs K mg M H (x :: (ds ++ es)) (v :: (vr ++ ws))
    unfold RepVs
    exact ⟨v, _, rfl, r, RepVs.append rs h'⟩
theorem RepVs.take : ∀ (n : Nat) {ds : List D} {vs : List V}, RepVs K mg M H ds vs → RepVs K mg M H (ds.take n) (vs.take n)
  | 0, ds, vs, h => by simp [RepVs]
  | n + 1, [], vs, h => by unfold RepVs at h; subst h; simp [RepVs]
  | n + 1, x :: ds, vs, h => by
    unfold RepVs at h
    obtain ⟨v, vr, rfl, r, rs⟩ := h
    show RepVs K mg M H (x :: ds.take n) (v :: vr.take n)
    unfold RepVs
    exact ⟨v, _, rfl, r, RepVs.take n rs⟩
theorem RepVs.drop : ∀ (n : Nat) {ds : List D} {vs : List V}, RepVs K mg M H ds vs → RepVs K mg M H (ds.drop n) (vs.drop n)
  | 0, ds, vs, h => by simpa using h
  | n + 1, [], vs, h => by unfold RepVs at h; subst h; simp [RepVs]
  | n + 1, x :: ds, vs, h => by
    unfold RepVs at h
    obtain ⟨v, vr, rfl, r, rs⟩ := h
    simpa using RepVs.drop n rs
theorem RepVs.set : ∀ (n : Nat) {ds : List D} {vs : List V} {d : D} {v : V}, RepV K mg M H d v → RepVs K mg M H ds vs → RepVs K mg M H (ds.set n d) (vs.set n v)
  | n, [], vs, d, v, r, h => by unfold RepVs at h; subst h; simp [RepVs]
  | 0, x :: ds, vs, d, v, r, h => by
    unfold RepVs at h
    obtain ⟨_, vr, rfl, _, rs⟩ := h
    show RepVs K mg M H (d :: ds) (v :: vr)
    unfold RepVs
    exact ⟨v, vr, rfl, r, rs⟩
  | n + 1, x :: ds, vs, d, v, r, h => by
    unfold RepVs at h
    obtain ⟨w, vr, rfl, r', rs⟩ := h
    show RepVs K mg M H (x :: ds.set n d) (w :: vr.set n v)
    unfold RepVs
    exact ⟨w, _, rfl, r', RepVs.set n r rs⟩
theorem RepVs.ints : ∀ (ns : List Int), RepVs K mg M H (ns.map D.int) (ns.map V.int)
  | [] => by simp [RepVs]
  | n :: ns => by
    show RepVs K mg M H (D.int n :: ns.map D.int) (V.int n :: ns.map V.int)
    unfold RepVs
    exact ⟨_, _, rfl, by simp [RepV], RepVs.ints ns⟩
theorem RepVs.nil : RepVs K mg M H [] [] := by simp [RepVs]
theorem RepVs.cons {d : D} {v : V} {ds : List D} {vs : List V} (r : RepV K mg M H d v) (rs : RepVs K mg M H ds vs) : RepVs K mg M H (d :: ds) (v :: vs) := by
  unfold RepVs; exact ⟨v, vs, rfl, r, rs⟩
theorem RepM.free (h : RepM K mg M H) {a : Addr} (n : H a = none) : M a = none := by
  cases e : M a with
  | none => rfl
  | some o =>
    have q := h a o e
    cases o with
    | lst ds => obtain ⟨vs, q, _⟩ := q; rw [n] at q; cases q
    | ins c fs => obtain ⟨C, dx, gs, _, q, _⟩ := q; rw [n] at q; cases q
/-- a new object that is not told of -/
theorem Keep.new {p : Addr} {o : HO} (h : RepM K mg M H) (n : H p = none) : Keep M H M (upd H p o) :=
  ⟨fun b u e m => ⟨by rw [upd_ne (ne_of_none e n)]; exact e, m⟩⟩
theorem Keep.newM {p : Addr} {o : HO} {u : MO} (h : RepM K mg M H) (n : H p = none) : Keep M H (um M p u) (upd H p o) :=
  ⟨fun b w e m => ⟨by rw [upd_ne (ne_of_none e n)]; exact e, by rw [um_ne (ne_of_none e n)]; exact m⟩⟩
/-- what is told of is written -/
theorem Keep.write {p : Addr} {o : HO} {u w : MO} (e : M p = some w) : Keep M H (um M p u) (upd H p o) :=
  ⟨fun b x hb m => by
    have ne : b ≠ p := fun z => by subst z; rw [e] at m; cases m
    exact ⟨by rw [upd_ne ne]; exact hb, by rw [um_ne ne]; exact m⟩⟩
theorem RepO.keep (k : Keep M H M' H') {a : Addr} {o : MO} (ha : H' a = H a) (h : RepO K mg M H a o) : RepO K mg M' H' a o := by
  cases o with
  | lst ds => obtain ⟨vs, q, r⟩ := h; exact ⟨vs, ha.trans q, RepVs.keep k _ _ r⟩
  | ins c fs => obtain ⟨C, dx, gs, hc, q, r⟩ := h; exact ⟨C, dx, gs, hc, ha.trans q, r.keep k⟩
theorem RepM.new {p : Addr} {o : HO} (h : RepM K mg M H) (n : H p = none) : RepM K mg M (upd H p o) := fun a u e =>
  (h a u e).keep (Keep.new h n) (upd_ne fun z => by subst z; rw [h.free n] at e; cases e)
theorem RepM.newM {p : Addr} {o : HO} {u : MO} (h : RepM K mg M H) (n : H p = none) (r : RepO K mg (um M p u) (upd H p o) p u) : RepM K mg (um M p u) (upd H p o) := fun a w e => by
  by_cases z : a = p
  · subst z; rw [um_same] at e; cases e; exact r
  · rw [um_ne z] at e
    exact (h a w e).keep (Keep.newM h n) (upd_ne z)
theorem RepM.write {p : Addr} {o : HO} {u w : MO} (h : RepM K mg M H) (hw : M p = some w) (r : RepO K mg (um M p u) (upd H p o) p u) : RepM K mg (um M p u) (upd H p o) := fun a x e => by
  by_cases z : a = p
  · subst z; rw [um_same] at e; cases e; exact r
  · rw [um_ne z] at e
    exact (h a x e).keep (Keep.write hw) (upd_ne z)
theorem RepM.less (h : RepM K mg M H) (l : MLe M0 M) : RepM K mg M0 H := fun a o e =>
  (h a o (l a o e)).keep (Keep.rfl'.less l) rfl
theorem RepV.less (l : MLe M0 M) {d : D} {v : V} (h : RepV K mg M H d v) : RepV K mg M0 H d v := RepV.keep (Keep.rfl'.less l) d v h
theorem RepS.less (l : MLe M0 M) (h : RepS K mg M H ρ σ) : RepS K mg M0 H ρ σ := RepS.keep (Keep.rfl'.less l) h
theorem RepS.set {i : Nat} {d : D} {v : V} (h : RepS K mg M H ρ σ) (r : RepV K mg M H d v) : RepS K mg M H (ρ.set i (some d)) (σ.set i (some v)) :=
  ⟨by simp [h.1], fun j e hj => by
    by_cases z : i = j
    · subst z
      by_cases hl : i < ρ.length
      · rw [List.getElem?_set_self hl] at hj
        cases hj
        exact ⟨v, List.getElem?_set_self (by rw [← h.1]; exact hl), r⟩
      · rw [List.getElem?_eq_none (by simpa using hl)] at hj; cases hj
    · rw [List.getElem?_set_ne z] at hj
      obtain ⟨w, e1, r1⟩ := h.2 j e hj
      exact ⟨w, by rw [List.getElem?_set_ne z]; exact e1, r1⟩⟩
end

/-! ### readings -/
abbrev DK := D → Mp → Prop
abbrev TD := Rho → Mp → DK → Prop
abbrev TDs := Rho → Mp → (List D → Mp → Prop) → Prop
abbrev TDb := Rho → Mp → (Bool → Mp → Prop) → Prop
structure DEnds where
  nx : Rho → Mp → Prop
  rt : DK
  bk : Rho → Mp → Prop := fun _ _ => False
  ct : Rho → Mp → Prop := fun _ _ => False
abbrev TDS := DEnds → Rho → Mp → Prop
/-- a target: the value, the names, the state -/
abbrev TDG := D → Rho → Mp → (Rho → Mp → Prop) → Prop
abbrev TDGs := List D → Rho → Mp → (Rho → Mp → Prop) → Prop
/-- what is walked: its items -/
abbrev TDI := Rho → Mp → (List D → Mp → Prop) → Prop

/-- where the code stands: the entry -/
structure At where
  M : Mp
  H : Hp
section
variable (X : Cx) (B : At)
structure Here (ρ : Rho) (σ : St) (M : Mp) (H : Hp) : Prop where
  s : RepS X.K X.mg M H ρ σ
  m : RepM X.K X.mg M H
  k : Keep B.M B.H M H
/-- behind: the slots as they were, a value -/
def lft (t : TD) : TE := fun σ H Q => ∃ ρ M R, Here X B ρ σ M H ∧ t ρ M R ∧ ∀ d M' v H', R d M' → Keep M H M' H' → RepM X.K X.mg M' H' → RepV X.K X.mg M' H' d v → Q v H'
def lftA (t : TDs) : TA := fun σ H Q => ∃ ρ M R, Here X B ρ σ M H ∧ t ρ M R ∧ ∀ ds M' vs H', R ds M' → Keep M H M' H' → RepM X.K X.mg M' H' → RepVs X.K X.mg M' H' ds vs → Q vs H'
def lftT (t : TDb) : TT := fun σ H Q => ∃ ρ M R, Here X B ρ σ M H ∧ t ρ M R ∧ ∀ b M' H', R b M' → Keep M H M' H' → RepM X.K X.mg M' H' → Q b H'
structure EndsLe (E : DEnds) (D : Ends) : Prop where
  nx : ∀ ρ σ M H, Here X B ρ σ M H → E.nx ρ M → D.nx σ H
  bk : ∀ ρ σ M H, Here X B ρ σ M H → E.bk ρ M → D.bk σ H
  ct : ∀ ρ σ M H, Here X B ρ σ M H → E.ct ρ M → D.ct σ H
  rt : ∀ d v M H, Keep B.M B.H M H → RepM X.K X.mg M H → RepV X.K X.mg M H d v → E.rt d M → D.rt v H
/-- C: a later place than B, from which the ends are told -/
def lftS (t : TDS) : TS := fun D σ H => ∃ (C : At) (ρ : Rho) (M : Mp) (E : DEnds), Keep B.M B.H C.M C.H ∧ Here X C ρ σ M H ∧ EndsLe X C E D ∧ t E ρ M
def DE (e : Expr) (t : TD) : Prop := PE X e (lft X B t)
def DA (es : List Expr) (t : TDs) : Prop := PA X es (lftA X B t)
def DT (e : Expr) (t : TDb) : Prop := PT X e (lftT X B t)
def DW (e : Expr) (t : TDb) : Prop := PW X e (lftT X B t)
def DS (s : Stmt) (t : TDS) : Prop := PS X s (lftS X B t)
def DSs (s : List Stmt) (t : TDS) : Prop := PSs X s (lftS X B t)
def lftG (t : TDG) : TG := fun v σ H Q => ∃ ρ M d R, Here X B ρ σ M H ∧ RepV X.K X.mg M H d v ∧ t d ρ M R ∧ ∀ ρ' M' σ' H', R ρ' M' → Keep M H M' H' → Here X B ρ' σ' M' H' → Q σ' H'
def lftGs (t : TDGs) : TGs := fun vs σ H Q => ∃ ρ M ds R, Here X B ρ σ M H ∧ RepVs X.K X.mg M H ds vs ∧ t ds ρ M R ∧ ∀ ρ' M' σ' H', R ρ' M' → Keep M H M' H' → Here X B ρ' σ' M' H' → Q σ' H'
def DG (e : Expr) (t : TDG) : Prop := PG X e (lftG X B t)
def DGs (es : List Expr) (t : TDGs) : Prop := PGs X es (lftGs X B t)
/-- the iterator J serves the items -/
def Serves (items : List D) (J : It) (M : Mp) (H : Hp) : Prop :=
  ∀ M' H', Keep M H M' H' → RepM X.K X.mg M' H' → ∀ i : Nat, (items.length ≤ i → J.stop i H') ∧
    ∀ d, items[i]? = some d → J.go i H' ∧ ∀ x H2, J.yld i H' x H2 → Keep M' H' M' H2 ∧ RepM X.K X.mg M' H2 ∧ RepV X.K X.mg M' H2 d x
def lftI (t : TDI) : TI := fun σ H R => ∃ ρ M T, Here X B ρ σ M H ∧ t ρ M T ∧ ∀ items M' J H', T items M' → Keep M H M' H' → RepM X.K X.mg M' H' → Serves X items J M' H' → R J H'
def DI (tg e : Expr) (t : TDI) : Prop := PI X tg e (lftI X B t)
end
section
variable {X : Cx} {B : At} {ρ : Rho} {σ : St} {M M' : Mp} {H H' : Hp}
theorem Here.step (h : Here X B ρ σ M H) (k : Keep M H M' H') (m : RepM X.K X.mg M' H') : Here X B ρ σ M' H' := ⟨h.s.keep k, m, h.k.trans k⟩
theorem Here.set {i : Nat} {d : D} {v : V} (h : Here X B ρ σ M H) (r : RepV X.K X.mg M H d v) : Here X B (ρ.set i (some d)) (σ.set i (some v)) M H := ⟨h.s.set r, h.m, h.k⟩
theorem Here.base {C : At} (kb : Keep B.M B.H C.M C.H) (h : Here X C ρ σ M H) : Here X B ρ σ M H := ⟨h.s, h.m, kb.trans h.k⟩
theorem Here.up {C : At} (k : Keep C.M C.H M H) (h : Here X B ρ σ M H) : Here X C ρ σ M H := ⟨h.s, h.m, k⟩
theorem EndsLe.later {C C' : At} (k : Keep C.M C.H C'.M C'.H) {E : DEnds} {D : Ends} (le : EndsLe X C E D) : EndsLe X C' E D :=
  ⟨fun ρ σ M H h => le.nx ρ σ M H (h.base k), fun ρ σ M H h => le.bk ρ σ M H (h.base k), fun ρ σ M H h => le.ct ρ σ M H (h.base k), fun d v M H kk => le.rt d v M H (k.trans kk)⟩
theorem Here.less {M0 : Mp} (h : Here X B ρ σ M H) (l : MLe M0 M) : Here X B ρ σ M0 H := ⟨h.s.less l, h.m.less l, h.k.less l⟩
end
/-- weaken a reading -/
theorem PE.imp {X : Cx} {e : Expr} {t u : TE} (h : PE X e t) (q : ∀ σ H Q, u σ H Q → t σ H Q) : PE X e u := ⟨fun pins s σ H Q I z => h.run pins s σ H Q I (q _ _ _ z)⟩
theorem PT.imp {X : Cx} {e : Expr} {t u : TT} (h : PT X e t) (q : ∀ σ H Q, u σ H Q → t σ H Q) : PT X e u := ⟨fun pins s σ H Q I z => h.run pins s σ H Q I (q _ _ _ z)⟩
theorem PW.imp {X : Cx} {e : Expr} {t u : TT} (h : PW X e t) (q : ∀ σ H Q, u σ H Q → t σ H Q) : PW X e u := ⟨fun wh pins s σ H Q I z => h.run wh pins s σ H Q I (q _ _ _ z)⟩
theorem PA.imp {X : Cx} {e : List Expr} {t u : TA} (h : PA X e t) (q : ∀ σ H Q, u σ H Q → t σ H Q) : PA X e u := ⟨fun pos pins s σ H Q I z => h.run pos pins s σ H Q I (q _ _ _ z)⟩
theorem PS.imp {X : Cx} {e : Stmt} {t u : TS} (h : PS X e t) (q : ∀ D σ H, u D σ H → t D σ H) : PS X e u := ⟨fun pins s σ H D I z => h.run pins s σ H D I (q _ _ _ z)⟩
theorem PSs.imp {X : Cx} {e : List Stmt} {t u : TS} (h : PSs X e t) (q : ∀ D σ H, u D σ H → t D σ H) : PSs X e u := ⟨fun pins s σ H D I z => h.run pins s σ H D I (q _ _ _ z)⟩
theorem PG.imp {X : Cx} {e : Expr} {t u : TG} (h : PG X e t) (q : ∀ v σ H Q, u v σ H Q → t v σ H Q) : PG X e u := ⟨fun pins s σ H v w Q I r z => h.run pins s σ H v w Q I r (q _ _ _ _ z)⟩
theorem PGs.imp {X : Cx} {e : List Expr} {t u : TGs} (h : PGs X e t) (q : ∀ v σ H Q, u v σ H Q → t v σ H Q) : PGs X e u := ⟨fun pins s σ H v w Q I r z => h.run pins s σ H v w Q I r (q _ _ _ _ z)⟩
theorem PI.imp {X : Cx} {tg e : Expr} {t u : TI} (h : PI X tg e t) (q : ∀ σ H Q, u σ H Q → t σ H Q) : PI X tg e u := ⟨fun pins s σ H Q I z => h.run pins s σ H Q I (q _ _ _ z)⟩
end DL
/-! The D layer, part c: expressions. -/
namespace DL
open PySem PySem.Spec L2

/-! ### data -/
mutual
def D.py : D → PyData
  | .non => .none
  | .bl b => .bool b
  | .int i => .int i
  | .str s => .str s
  | .tup xs => .tuple (pys xs)
  | .lst xs => .list (pys xs)
  | .scr ns => .list (ns.map PyData.int)
  | .inst _ _ _ => .none
  | .ref _ => .none
  | .cls _ => .none
  | .ty _ => .none
  | .dct => .none
def pys : List D → List PyData
  | [] => []
  | x :: xs => x.py :: pys xs
end
mutual
/-- plain, at most so deep -/
def D.pl : Nat → D → Bool
  | _, .non => true
  | _, .bl _ => true
  | _, .int _ => true
  | _, .str s => PyData.canLay0 (.str s)
  | 0, .tup _ => false
  | n + 1, .tup xs => pls n xs
  | 0, .lst _ => false
  | n + 1, .lst xs => pls n xs
  | 0, .scr _ => false
  | _ + 1, .scr _ => true
  | _, .inst _ _ _ => false
  | _, .ref _ => false
  | _, .cls _ => false
  | _, .ty _ => false
  | _, .dct => false
def pls : Nat → List D → Bool
  | _, [] => true
  | n, x :: xs => x.pl n && pls n xs
end
def D.eqv (x y : D) : Bool := PyData.eqv x.py y.py
/-- the items of a list -/
def asL (M : Mp) : D → Option (List D)
  | .lst xs => some xs
  | .ref a => match M a with
    | some (.lst ds) => some ds
    | _ => none
  | _ => none
/-- a list that may change, as it is now -/
def rsv (M : Mp) : D → D
  | .ref a => match M a with
    | some (.lst ds) => .lst ds
    | _ => .ref a
  | d => d
def cutL {α : Type} (xs : List α) (lo hi : Option Int) : List α := (xs.drop (HT.sIx xs.length 0 lo)).take (HT.sIx xs.length xs.length hi - HT.sIx xs.length 0 lo)

section
variable {K : PySem.W.Frag} {mg : Str → Option Value} {M M' : Mp} {H H' : Hp}
theorem asL_at {d : D} {ds : List D} {v : V} (e : asL M d = some ds) (m : RepM K mg M H) (r : RepV K mg M H d v) : ∃ a vs, v = .ref a ∧ H a = some (.lst vs) ∧ RepVs K mg M H ds vs := by
  cases d with
  | lst xs =>
    unfold asL at e
    cases e
    unfold RepV at r
    obtain ⟨a, vs, e, _, h, rs⟩ := r
    exact ⟨a, vs, e, h, rs⟩
  | ref a =>
    unfold RepV at r
    cases q : M a with
    | none => simp [asL, q] at e
    | some o =>
      cases o with
      | ins c fs => simp [asL, q] at e
      | lst xs =>
        simp [asL, q] at e
        subst e
        obtain ⟨vs, h, rs⟩ := m a _ q
        exact ⟨a, vs, r, h, rs⟩
  | _ => simp [asL] at e
theorem RepVs.cut {xs : List D} {vs : List V} (h : RepVs K mg M H xs vs) (lo hi : Option Int) : RepVs K mg M H (cutL xs lo hi) (cutV vs lo hi) := by
  have e := h.length
  unfold cutL cutV
  rw [e]
  exact RepVs.take _ (RepVs.drop _ h)
theorem scr_at {ns : List Int} {v : V} (r : RepV K mg M H (.scr ns) v) : ∃ a, v = .ref a ∧ SqL K H a (ns.map V.int) := by
  unfold RepV at r
  obtain ⟨a, rfl, h⟩ := r
  refine ⟨a, rfl, ?_⟩
  rcases h with ⟨_, h⟩ | (h | ⟨_, h⟩) | h
  · exact .inl h
  · cases h
  · cases h
  · exact .inr h
theorem Dp_ints : ∀ ns : List Int, DpAll K H (ns.map V.int) (ns.map PyData.int)
  | [] => .nil
  | n :: ns => .cons (.int n) (Dp_ints ns)
mutual
theorem Dp_of : ∀ (n : Nat) (d : D) (v : V), d.pl n = true → RepV K mg M H d v → Dp K H v d.py
  | _, .non, v, _, r => by unfold RepV at r; subst r; exact .non
  | _, .bl b, v, _, r => by unfold RepV at r; subst r; exact .bl b
  | _, .int i, v, _, r => by unfold RepV at r; subst r; exact .int i
  | _, .str s, v, _, r => by unfold RepV at r; subst r; exact .str s
  | 0, .tup xs, v, p, r => by simp [D.pl] at p
  | n + 1, .tup xs, v, p, r => by
    unfold RepV at r
    obtain ⟨a, vs, rfl, _, h, rs⟩ := r
    exact .tup (SqT.of h) (Dps_of n xs vs (by simpa [D.pl] using p) rs)
  | 0, .lst xs, v, p, r => by simp [D.pl] at p
  | n + 1, .lst xs, v, p, r => by
    unfold RepV at r
    obtain ⟨a, vs, rfl, _, h, rs⟩ := r
    exact .lst (SqL.of h) (Dps_of n xs vs (by simpa [D.pl] using p) rs)
  | 0, .scr ns, v, p, r => by simp [D.pl] at p
  | n + 1, .scr ns, v, p, r => by
    obtain ⟨a, rfl, hs⟩ := scr_at r
    exact .lst hs (Dp_ints ns)
  | _, .inst _ _ _, v, p, r => by simp [D.pl] at p
  | _, .ref _, v, p, r => by simp [D.pl] at p
  | _, .cls _, v, p, r => by simp [D.pl] at p
  | _, .ty _, v, p, r => by simp [D.pl] at p
  | _, .dct, v, p, r => by simp [D.pl] at p
theorem Dps_of : ∀ (n : Nat) (ds : List D) (vs : List V), pls n ds = true → RepVs K mg M H ds vs → DpAll K H vs (pys ds)
  | n, [], vs, _, r => by unfold RepVs at r; subst r; exact .nil
  | n, d :: ds, vs, p, r => by
    unfold RepVs at r
    obtain ⟨v, vr, rfl, rv, rs⟩ := r
    have p' : d.pl n = true ∧ pls n ds = true := by simpa [pls] using p
    exact .cons (Dp_of n d v p'.1 rv) (Dps_of n ds vr p'.2 rs)
end
mutual
theorem pl_shape : ∀ (n : Nat) (d : D), d.pl n = true → PyData.canLay0 d.py = true ∧ d.py.depth ≤ n
  | _, .non, _ => by simp [D.py, PyData.canLay0, PyData.depth]
  | _, .bl b, _ => by simp [D.py, PyData.canLay0, PyData.depth]
  | _, .int i, _ => by simp [D.py, PyData.canLay0, PyData.depth]
  | _, .str s, p => by
    unfold D.pl at p
    exact ⟨p, by simp [D.py, PyData.depth]⟩
  | 0, .tup xs, p => by simp [D.pl] at p
  | n + 1, .tup xs, p => by
    have q := pls_shape n xs (by simpa [D.pl] using p)
    simp only [D.py, PyData.canLay0, PyData.depth]
    exact ⟨q.1, by omega⟩
  | 0, .lst xs, p => by simp [D.pl] at p
  | n + 1, .lst xs, p => by
    have q := pls_shape n xs (by simpa [D.pl] using p)
    simp only [D.py, PyData.canLay0, PyData.depth]
    exact ⟨q.1, by omega⟩
  | 0, .scr ns, p => by simp [D.pl] at p
  | n + 1, .scr ns, p => by
    have q : PyData.canLayAll0 (ns.map PyData.int) = true ∧ PyData.depthAll (ns.map PyData.int) = 0 := by
      clear p
      induction ns with
      | nil => simp [PyData.canLayAll0, PyData.depthAll]
      | cons x xs ih => simp [PyData.canLayAll0, PyData.depthAll, PyData.canLay0, PyData.depth, ih]
    simp only [D.py, PyData.canLay0, PyData.depth]
    exact ⟨q.1, by omega⟩
  | _, .inst _ _ _, p => by simp [D.pl] at p
  | _, .ref _, p => by simp [D.pl] at p
  | _, .cls _, p => by simp [D.pl] at p
  | _, .ty _, p => by simp [D.pl] at p
  | _, .dct, p => by simp [D.pl] at p
theorem pls_shape : ∀ (n : Nat) (ds : List D), pls n ds = true → PyData.canLayAll0 (pys ds) = true ∧ PyData.depthAll (pys ds) ≤ n
  | n, [], _ => by simp [pys, PyData.canLayAll0, PyData.depthAll]
  | n, d :: ds, p => by
    have p' : d.pl n = true ∧ pls n ds = true := by simpa [pls] using p
    have q1 := pl_shape n d p'.1
    have q2 := pls_shape n ds p'.2
    simp only [pys, PyData.canLayAll0, PyData.depthAll, q1.1, q2.1, Bool.and_self]
    exact ⟨trivial, by omega⟩
end
theorem pl_shaped {n : Nat} {d : D} (h : n ≤ 64) (p : d.pl n = true) : SeqAt.shaped d.py = true := by
  obtain ⟨a, b⟩ := pl_shape n d p
  unfold SeqAt.shaped
  rw [a, decide_eq_true (by omega)]
  rfl
/-- a value, or the list that it is now -/
theorem rsv_dp {n : Nat} {d : D} {v : V} (m : RepM K mg M H) (r : RepV K mg M H d v) (p : (rsv M d).pl n = true) : Dp K H v (rsv M d).py := by
  cases d with
  | ref a =>
    cases q : M a with
    | none => simp [rsv, q, D.pl] at p
    | some o =>
      cases o with
      | ins c fs => simp [rsv, q, D.pl] at p
      | lst xs =>
        simp only [rsv, q] at p ⊢
        obtain ⟨b, vs, rfl, h, rs⟩ := asL_at (d := .ref a) (ds := xs) (by simp [asL, q]) m r
        cases n with
        | zero => simp [D.pl] at p
        | succ n => exact .lst (SqL.of h) (Dps_of n xs vs (by simpa [D.pl] using p) rs)
  | _ => exact Dp_of n _ v p r
end

section
variable {X : Cx} {B : At}
/-! ### names, constants -/
def dV (i : Nat) : TD := fun ρ M Q => match ρ[i]? with | some (some d) => Q d M | _ => False
def dC (d : D) : TD := fun _ M Q => Q d M
theorem dv (i : Nat) {x : Str} {pos : Pos} (hN : X.N[i]? = some x := by rfl) (hv : Vis X.env.scope x := by first | exact Or.inl rfl | exact Or.inr (Or.inl rfl) | exact Or.inr (Or.inr rfl)) (hd : (x == ("__debug__" : Str)) = false := by decide)
    (hcd : (x == ("__classdict__" : Str)) = false := by decide) : DE X B (.Name x pos) (dV i) := by
  refine PE.imp (pe_var hN hv hd hcd) fun σ H Q h => ?_
  obtain ⟨ρ, M, R, hh, h, q⟩ := h
  unfold dV at h
  split at h
  · rename_i d e
    obtain ⟨v, e1, r⟩ := hh.s.2 i d e
    exact ⟨v, e1, q d M v H h .rfl' hh.m r⟩
  · exact h.elim
theorem de_const {e : Expr} {v : V} {d : D} (h : PE X e (tC v)) (r : ∀ M H, RepV X.K X.mg M H d v) : DE X B e (dC d) :=
  PE.imp h fun σ H Q ⟨ρ, M, R, hh, h, q⟩ => q d M v H h .rfl' hh.m (r M H)
theorem de_int {i j pos} : DE X B (.Constant (.int i) j pos) (dC (.int i)) := de_const pe_int fun _ _ => by simp [RepV]
theorem de_bl {b j pos} : DE X B (.Constant (.bool b) j pos) (dC (.bl b)) := de_const pe_bl fun _ _ => by simp [RepV]
theorem de_non {j pos} : DE X B (.Constant .none j pos) (dC .non) := de_const pe_non fun _ _ => by simp [RepV]
theorem de_str {x j pos} : DE X B (.Constant (.str x) j pos) (dC (.str x)) := de_const pe_str fun _ _ => by simp [RepV]
theorem de_gI {x : Str} {i : Int} {pos : Pos} (hg : Gl X x) (hm : ∃ t, X.mg x = some (.int i t)) (hd : (x == ("__debug__" : Str)) = false := by decide) : DE X B (.Name x pos) (dC (.int i)) := by
  obtain ⟨t, hm⟩ := hm
  exact de_const (pe_glob (v := .int i) hg hm ⟨t, rfl⟩ hd) fun _ _ => by simp [RepV]
theorem de_gS {x : Str} {i : Str} {pos : Pos} (hg : Gl X x) (hm : ∃ t, X.mg x = some (.str i t)) (hd : (x == ("__debug__" : Str)) = false := by decide) : DE X B (.Name x pos) (dC (.str i)) := by
  obtain ⟨t, hm⟩ := hm
  exact de_const (pe_glob (v := .str i) hg hm ⟨t, rfl⟩ hd) fun _ _ => by simp [RepV]

/-! ### operators -/
abbrev DR2 := D → D → Mp → DK → Prop
def dOp (g : DR2) (ta tb : TD) : TD := fun ρ M Q => ta ρ M fun x M1 => tb ρ M1 fun y M2 => g x y M2 Q
/-- what is left: the answers of the heap -/
abbrev Back (X : Cx) (M : Mp) (H : Hp) (R : DK) (Q : VK) : Prop := ∀ d M' v H', R d M' → Keep M H M' H' → RepM X.K X.mg M' H' → RepV X.K X.mg M' H' d v → Q v H'
def OpC (X : Cx) (r : R2) (g : DR2) : Prop := ∀ M H d1 d2 v1 v2 (R : DK) (Q : VK), RepM X.K X.mg M H → RepV X.K X.mg M H d1 v1 → RepV X.K X.mg M H d2 v2 → g d1 d2 M R → Back X M H R Q → r v1 v2 H Q
theorem lft_op {r : R2} {g : DR2} {ta tb : TD} (hc : OpC X r g) {σ : L2.St} {H : Hp} {Q : VK} (h : lft X B (dOp g ta tb) σ H Q) : tOp r (lft X B ta) (lft X B tb) σ H Q := by
  obtain ⟨ρ, M, R, hh, h, q⟩ := h
  refine ⟨ρ, M, _, hh, h, fun d M1 v H1 h1 k1 m1 r1 => ?_⟩
  have hh1 := hh.step k1 m1
  refine ⟨ρ, M1, _, hh1, h1, fun d2 M2 v2 H2 h2 k2 m2 r2 => ?_⟩
  exact hc M2 H2 d d2 v v2 R Q m2 (RepV.keep k2 d v r1) r2 h2 fun d3 M3 v3 H3 h3 k3 m3 r3 => q d3 M3 v3 H3 h3 ((k1.trans k2).trans k3) m3 r3
theorem de_op {a b : Expr} {op : Operator} {r : R2} {g : DR2} {ta tb : TD} {pos : Pos} (ho : OpR X (binaryOp op) r) (hc : OpC X r g) (ha : DE X B a ta) (hb : DE X B b tb) : DE X B (.BinOp a op b pos) (dOp g ta tb) :=
  PE.imp (pe_op ho ha hb) fun _ _ _ h => lft_op hc h
theorem OpC.or {r r' : R2} {g : DR2} (h : ∀ M H d1 d2 v1 v2 (R : DK) (Q : VK), RepM X.K X.mg M H → RepV X.K X.mg M H d1 v1 → RepV X.K X.mg M H d2 v2 → g d1 d2 M R → Back X M H R Q → r v1 v2 H Q ∨ r' v1 v2 H Q) :
    OpC X (fun x y H Q => r x y H Q ∨ r' x y H Q) g := h

theorem rInt {M : Mp} {H : Hp} {K : PySem.W.Frag} {mg : Str → Option Value} {i : Int} : RepV K mg M H (.int i) (.int i) := by simp [RepV]
theorem rBl {M : Mp} {H : Hp} {K : PySem.W.Frag} {mg : Str → Option Value} {i : Bool} : RepV K mg M H (.bl i) (.bl i) := by simp [RepV]
theorem rStr {M : Mp} {H : Hp} {K : PySem.W.Frag} {mg : Str → Option Value} {i : Str} : RepV K mg M H (.str i) (.str i) := by simp [RepV]
theorem rNon {M : Mp} {H : Hp} {K : PySem.W.Frag} {mg : Str → Option Value} : RepV K mg M H .non .non := by simp [RepV]
/-- two ints -/
def gI (c : Int → Int → Prop) (f : Int → Int → D) : DR2 := fun x y M Q => match x, y with | .int i, .int j => c i j ∧ Q (f i j) M | _, _ => False
theorem opI {c c' : Int → Int → Prop} {f : Int → Int → V} {f' : Int → Int → D} (hc : ∀ i j, c' i j → c i j) (hf : ∀ i j M H, RepV X.K X.mg M H (f' i j) (f i j)) : OpC X (rI c f) (gI c' f') := by
  intro M H d1 d2 v1 v2 R Q m r1 r2 g q
  unfold gI at g
  split at g
  · rename_i i j
    unfold RepV at r1 r2
    exact ⟨i, j, r1, r2, hc i j g.1, q _ _ _ _ g.2 .rfl' m (hf i j M H)⟩
  · exact g.elim
theorem opI0 {f : Int → Int → V} {f' : Int → Int → D} (hf : ∀ i j M H, RepV X.K X.mg M H (f' i j) (f i j)) : OpC X (rI0 f) (gI (fun _ _ => True) f') := by
  intro M H d1 d2 v1 v2 R Q m r1 r2 g q
  unfold gI at g
  split at g
  · rename_i i j
    unfold RepV at r1 r2
    exact ⟨i, j, r1, r2, q _ _ _ _ g.2 .rfl' m (hf i j M H)⟩
  · exact g.elim
/-- a new object, an answer -/
theorem Back.new {M : Mp} {H : Hp} {R : DK} {Q : VK} (q : Back X M H R Q) (m : RepM X.K X.mg M H) {d : D} (h : R d M) {p : Addr} {o : HO} (n : H p = none)
    (r : RepV X.K X.mg M (upd H p o) d (.ref p)) : Q (.ref p) (upd H p o) := q _ _ _ _ h (Keep.new m n) (m.new n) r
theorem RepVs.new {K : PySem.W.Frag} {mg : Str → Option Value} {M : Mp} {H : Hp} (m : RepM K mg M H) {p : Addr} {o : HO} (n : H p = none) {ds : List D} {vs : List V} (h : RepVs K mg M H ds vs) : RepVs K mg M (upd H p o) ds vs := RepVs.keep (Keep.new m n) _ _ h

/-- a + b: ints, texts, tuples, lists -/
def gAdd : DR2 := fun x y M Q => match x, y with
  | .int i, .int j => Q (.int (i + j)) M
  | .str i, .str j => i.length + j.length ≤ sizeLine ∧ Q (.str (i ++ j)) M
  | .tup xs, .tup ys => xs.length + ys.length ≤ sizeLine ∧ Q (.tup (xs ++ ys)) M
  | x, y => match asL M x, asL M y with
    | some xs, some ys => xs.length + ys.length ≤ sizeLine ∧ Q (.lst (xs ++ ys)) M
    | _, _ => False
theorem tup_ne {ds : List D} {vs : List V} {K : PySem.W.Frag} {mg : Str → Option Value} {M : Mp} {H : Hp} (r : RepVs K mg M H ds vs) : vs = [] → ds = [] := fun e => by
  have := r.length
  subst e
  exact List.eq_nil_of_length_eq_zero this
theorem de_add {a b : Expr} {ta tb : TD} {pos : Pos} (ha : DE X B a ta) (hb : DE X B b tb) : DE X B (.BinOp a .Add b pos) (dOp gAdd ta tb) := by
  refine de_op (op_add.or (op_add_str.or (op_catA.or op_cat))) ?_ ha hb
  intro M H d1 d2 v1 v2 R Q m r1 r2 g q
  unfold gAdd at g
  split at g
  · rename_i i j
    unfold RepV at r1 r2
    exact .inl ⟨i, j, r1, r2, q _ _ _ _ g .rfl' m rInt⟩
  · rename_i i j
    unfold RepV at r1 r2
    exact .inr (.inl ⟨i, j, r1, r2, g.1, q _ _ _ _ g.2 .rfl' m rStr⟩)
  · rename_i xs ys
    have r1' := r1
    have r2' := r2
    unfold RepV at r1 r2
    obtain ⟨a, vs, rfl, na, ha, ra⟩ := r1
    obtain ⟨b, ws, rfl, nb, hb, rb⟩ := r2
    refine .inr (.inr (.inl ⟨a, b, vs, ws, rfl, rfl, SqT.of ha, SqT.of hb, by rw [← ra.length, ← rb.length]; exact g.1, fun e => ?_, fun _ e => ?_, fun _ _ p n => ?_⟩))
    · have e' := tup_ne ra e
      subst e'
      exact q _ _ _ _ g.2 .rfl' m (by simpa using r2')
    · have e' := tup_ne rb e
      subst e'
      exact q _ _ _ _ g.2 .rfl' m (by simpa using r1')
    · refine Back.new q m g.2 n ?_
      unfold RepV
      exact ⟨p, _, rfl, m.free n, upd_same, RepVs.new m n (ra.append rb)⟩
  · split at g
    · rename_i xs ys e1 e2
      obtain ⟨a, vs, rfl, ha, ra⟩ := asL_at e1 m r1
      obtain ⟨b, ws, rfl, hb, rb⟩ := asL_at e2 m r2
      refine .inr (.inr (.inr ⟨a, b, vs, ws, rfl, rfl, ha, hb, by rw [← ra.length, ← rb.length]; exact g.1, fun p n => ?_⟩))
      refine Back.new q m g.2 n ?_
      unfold RepV
      exact ⟨p, _, rfl, m.free n, upd_same, RepVs.new m n (ra.append rb)⟩
    · exact g.elim
theorem de_sub {a b : Expr} {ta tb : TD} {pos : Pos} (ha : DE X B a ta) (hb : DE X B b tb) : DE X B (.BinOp a .Sub b pos) (dOp (gI (fun _ _ => True) fun i j => .int (i - j)) ta tb) :=
  de_op op_sub (opI0 fun _ _ _ _ => rInt) ha hb
/-- the product is let: one factor below 2^64, or both far below a million bits -/
def mulOk (i j : Int) : Prop := CMul i j ∨ CMulW i j
theorem de_mul {a b : Expr} {ta tb : TD} {pos : Pos} (ha : DE X B a ta) (hb : DE X B b tb) : DE X B (.BinOp a .Mult b pos) (dOp (gI mulOk fun i j => .int (i * j)) ta tb) := by
  refine de_op (op_mul.or op_mulW) ?_ ha hb
  intro M H d1 d2 v1 v2 R Q m r1 r2 g q
  unfold gI at g
  split at g
  · rename_i i j
    unfold RepV at r1 r2
    rcases g.1 with c | c
    · exact .inl ⟨i, j, r1, r2, c, q _ _ _ _ g.2 .rfl' m rInt⟩
    · exact .inr ⟨i, j, r1, r2, c, q _ _ _ _ g.2 .rfl' m rInt⟩
  · exact g.elim
def divOk (i j : Int) : Prop := 0 < j ∧ (j < 1073741824 ∨ j.natAbs.log2 < 9000)
theorem de_div {a b : Expr} {ta tb : TD} {pos : Pos} (ha : DE X B a ta) (hb : DE X B b tb) : DE X B (.BinOp a .FloorDiv b pos) (dOp (gI divOk fun i j => .int (i / j)) ta tb) := by
  refine de_op (op_fdiv.or op_fdivW) ?_ ha hb
  intro M H d1 d2 v1 v2 R Q m r1 r2 g q
  unfold gI at g
  split at g
  · rename_i i j
    unfold RepV at r1 r2
    obtain ⟨⟨c0, c⟩, g⟩ := g
    rcases c with c | c
    · exact .inl ⟨i, j, r1, r2, ⟨c0, c⟩, q _ _ _ _ g .rfl' m rInt⟩
    · exact .inr ⟨i, j, r1, r2, ⟨c0, c⟩, q _ _ _ _ g .rfl' m rInt⟩
  · exact g.elim
theorem de_mod {a b : Expr} {ta tb : TD} {pos : Pos} (ha : DE X B a ta) (hb : DE X B b tb) : DE X B (.BinOp a .Mod b pos) (dOp (gI (fun _ j => 0 < j) fun i j => .int (i % j)) ta tb) :=
  de_op op_mod (opI (fun _ _ h => h) fun _ _ _ _ => rInt) ha hb
theorem de_pow {a b : Expr} {ta tb : TD} {pos : Pos} (ha : DE X B a ta) (hb : DE X B b tb) : DE X B (.BinOp a .Pow b pos) (dOp (gI CPow fun i j => .int (i ^ j.toNat)) ta tb) :=
  de_op op_pow (opI (fun _ _ h => h) fun _ _ _ _ => rInt) ha hb
def dNeg (ta : TD) : TD := fun ρ M Q => ta ρ M fun x M1 => match x with | .int i => Q (.int (-i)) M1 | _ => False
theorem de_neg {a : Expr} {ta : TD} {pos : Pos} (ha : DE X B a ta) : DE X B (.UnaryOp .USub a pos) (dNeg ta) := by
  refine PE.imp (pe_un un_neg ha) fun σ H Q h => ?_
  obtain ⟨ρ, M, R, hh, h, q⟩ := h
  refine ⟨ρ, M, _, hh, h, fun d M1 v H1 h1 k1 m1 r1 => ?_⟩
  split at h1
  · rename_i i
    unfold RepV at r1
    exact ⟨i, r1, q _ _ _ _ h1 k1 m1 rInt⟩
  · exact h1.elim

/-! ### comparisons -/
def gEq : DR2 := fun x y M Q => match x, y with
  | .str a, .str b => Q (.bl (decide (a = b))) M
  | .int a, .int b => Q (.bl (decide (a = b))) M
  | x, y => ((rsv M x).pl 12 = true ∧ (rsv M y).pl 12 = true) ∧ Q (.bl (D.eqv (rsv M x) (rsv M y))) M
def gNe : DR2 := fun x y M Q => match x, y with
  | .str a, .str b => Q (.bl (!decide (a = b))) M
  | .int a, .int b => Q (.bl (!decide (a = b))) M
  | x, y => ((rsv M x).pl 12 = true ∧ (rsv M y).pl 12 = true) ∧ Q (.bl (!D.eqv (rsv M x) (rsv M y))) M
theorem opc_eq : OpC X (fun x y H Q => rEq x y H Q ∨ rEqD X.K x y H Q) gEq := by
  intro M H d1 d2 v1 v2 R Q m r1 r2 g q
  unfold gEq at g
  split at g
  · rename_i a b
    unfold RepV at r1 r2
    subst r1 r2
    refine .inl ⟨rfl, q _ _ _ _ g .rfl' m ?_⟩
    have e : decide (V.str a = V.str b) = decide (a = b) := by simp
    rw [e]; exact rBl
  · rename_i a b
    unfold RepV at r1 r2
    subst r1 r2
    refine .inl ⟨rfl, q _ _ _ _ g .rfl' m ?_⟩
    have e : decide (V.int a = V.int b) = decide (a = b) := by simp
    rw [e]; exact rBl
  · exact .inr ⟨_, _, rsv_dp m r1 g.1.1, rsv_dp m r2 g.1.2, pl_shaped (by decide) g.1.1, pl_shaped (by decide) g.1.2, q _ _ _ _ g.2 .rfl' m rBl⟩
theorem opc_ne : OpC X (fun x y H Q => rNe x y H Q ∨ rNeD X.K x y H Q) gNe := by
  intro M H d1 d2 v1 v2 R Q m r1 r2 g q
  unfold gNe at g
  split at g
  · rename_i a b
    unfold RepV at r1 r2
    subst r1 r2
    refine .inl ⟨rfl, q _ _ _ _ g .rfl' m ?_⟩
    have e : decide (V.str a = V.str b) = decide (a = b) := by simp
    rw [e]; exact rBl
  · rename_i a b
    unfold RepV at r1 r2
    subst r1 r2
    refine .inl ⟨rfl, q _ _ _ _ g .rfl' m ?_⟩
    have e : decide (V.int a = V.int b) = decide (a = b) := by simp
    rw [e]; exact rBl
  · exact .inr ⟨_, _, rsv_dp m r1 g.1.1, rsv_dp m r2 g.1.2, pl_shaped (by decide) g.1.1, pl_shaped (by decide) g.1.2, q _ _ _ _ g.2 .rfl' m rBl⟩
def gT (f : Int → Int → Bool) : DR2 := gI (fun _ _ => True) fun i j => .bl (f i j)
/-- a rule for an operator of comparison -/
structure CmpD (X : Cx) (op : CmpOp) (g : DR2) : Prop where
  ex : ∃ r, OpR X (compareOp op) r ∧ OpC X r g
theorem cd_eq (hu : X.A.units + 64 < cLine) : CmpD X .Eq gEq := ⟨_, op_eq.or (op_eqD hu), opc_eq⟩
theorem cd_ne (hu : X.A.units + 64 < cLine) : CmpD X .NotEq gNe := ⟨_, op_ne.or (op_neD hu), opc_ne⟩
theorem cd_lt : CmpD X .Lt (gT fun i j => decide (i < j)) := ⟨_, op_lt, opI0 fun _ _ _ _ => rBl⟩
theorem cd_le : CmpD X .LtE (gT fun i j => decide (i ≤ j)) := ⟨_, op_le, opI0 fun _ _ _ _ => rBl⟩
theorem cd_gt : CmpD X .Gt (gT fun i j => decide (j < i)) := ⟨_, op_gt, opI0 fun _ _ _ _ => rBl⟩
theorem cd_ge : CmpD X .GtE (gT fun i j => decide (j ≤ i)) := ⟨_, op_ge, opI0 fun _ _ _ _ => rBl⟩
def D.isNon : D → Bool
  | .non => true
  | _ => false
theorem isNon_of {M : Mp} {H : Hp} {d : D} {v : V} {K : PySem.W.Frag} {mg : Str → Option Value} (r : RepV K mg M H d v) : decide (v = .non) = d.isNon := by
  cases d <;> unfold RepV at r <;> simp only [D.isNon]
  all_goals first
    | (subst r; simp)
    | (obtain ⟨_, _, rfl, _⟩ := r; simp)
    | (obtain ⟨_, rfl, _⟩ := r; simp)
    | (obtain ⟨_, _, _, _, rfl, _⟩ := r; simp)
def gIs : DR2 := fun x y M Q => match y with | .non => Q (.bl x.isNon) M | _ => False
def gIsNot : DR2 := fun x y M Q => match y with | .non => Q (.bl (!x.isNon)) M | _ => False
theorem cd_is : CmpD X .Is gIs := by
  refine ⟨_, op_isN, ?_⟩
  intro M H d1 d2 v1 v2 R Q m r1 r2 g q
  unfold gIs at g
  split at g
  · unfold RepV at r2
    exact ⟨r2, q _ _ _ _ g .rfl' m (by rw [isNon_of r1]; exact rBl)⟩
  · exact g.elim
theorem cd_isnot : CmpD X .IsNot gIsNot := by
  refine ⟨_, op_notN, ?_⟩
  intro M H d1 d2 v1 v2 R Q m r1 r2 g q
  unfold gIsNot at g
  split at g
  · unfold RepV at r2
    exact ⟨r2, q _ _ _ _ g .rfl' m (by rw [isNon_of r1]; exact rBl)⟩
  · exact g.elim
theorem de_cmp {a b : Expr} {op : CmpOp} {g : DR2} {ta tb : TD} {pos : Pos} (c : CmpD X op g) (ha : DE X B a ta) (hb : DE X B b tb) (hm : behindInMarks op b = false := by first | exact nomark _ | rfl) : DE X B (.Compare a [op] [b] pos) (dOp g ta tb) := by
  obtain ⟨r, ho, hc⟩ := c.ex
  exact PE.imp (pe_cmpR ho ha hb hm) fun _ _ _ h => lft_op hc h
/-- a bool -/
def D.onB : D → (Bool → Prop) → Prop
  | .bl b, k => k b
  | _, _ => False
def dB (t : TD) : TDb := fun ρ M Q => t ρ M fun d M' => d.onB fun b => Q b M'
theorem lft_B {t : TD} {σ : L2.St} {H : Hp} {Q : Bool → Hp → Prop} (h : lftT X B (dB t) σ H Q) : lft X B t σ H fun x H' => ∃ k, x = .bl k ∧ Q k H' := by
  obtain ⟨ρ, M, R, hh, h, q⟩ := h
  refine ⟨ρ, M, _, hh, h, fun d M1 v H1 h1 k1 m1 r1 => ?_⟩
  cases d with
  | bl b => unfold RepV at r1; exact ⟨b, r1, q _ _ _ h1 k1 m1⟩
  | _ => exact h1.elim
theorem dt_cmp {a b : Expr} {op : CmpOp} {g : DR2} {ta tb : TD} {pos : Pos} (c : CmpD X op g) (ha : DE X B a ta) (hb : DE X B b tb) (hm : behindInMarks op b = false := by first | exact nomark _ | rfl) : DT X B (.Compare a [op] [b] pos) (dB (dOp g ta tb)) := by
  obtain ⟨r, ho, hc⟩ := c.ex
  exact PT.imp (pt_cmpR ho ha hb hm) fun _ _ _ h => lft_op hc (lft_B h)
theorem dt_val {e : Expr} {t : TD} (h : DE X B e t) (he : ∀ whole, isTrue e X.env whole = (do let v ← whole; standAt e.pos; holding [v] (truthy v)) := by intro _; rfl) : DT X B e (dB t) :=
  PT.imp (pt_val h he) fun _ _ _ h => lft_B h
/-- a op1 b op2 c -/
def dChain (g g' : DR2) (ta tb tc : TD) : TD := fun ρ M Q => ta ρ M fun x M1 => tb ρ M1 fun y M2 => g x y M2 fun z M3 => z.onB fun k => (k = true → tc ρ M3 fun w M4 => g' y w M4 Q) ∧ (k = false → Q (.bl false) M3)
theorem lft_chain {r r' : R2} {g g' : DR2} {ta tb tc : TD} (hc : OpC X r g) (hc' : OpC X r' g') {σ : L2.St} {H : Hp} {Q : VK} (h : lft X B (dChain g g' ta tb tc) σ H Q) : tChain r r' (lft X B ta) (lft X B tb) (lft X B tc) σ H Q := by
  obtain ⟨ρ, M, R, hh, h, q⟩ := h
  refine ⟨ρ, M, _, hh, h, fun d M1 v H1 h1 k1 m1 r1 => ?_⟩
  have hh1 := hh.step k1 m1
  refine ⟨ρ, M1, _, hh1, h1, fun d2 M2 v2 H2 h2 k2 m2 r2 => ?_⟩
  have r1' := RepV.keep k2 d v r1
  refine hc M2 H2 d d2 v v2 _ _ m2 r1' r2 h2 fun d3 M3 v3 H3 h3 k3 m3 r3 => ?_
  cases d3 with
  | bl b =>
    unfold RepV at r3
    refine ⟨b, r3, ?_⟩
    cases b with
    | true =>
      rw [if_pos rfl]
      have hh3 := (hh1.step k2 m2).step k3 m3
      refine ⟨ρ, M3, _, hh3, h3.1 rfl, fun d4 M4 v4 H4 h4 k4 m4 r4 => ?_⟩
      exact hc' M4 H4 d2 d4 v2 v4 R Q m4 (RepV.keep (k3.trans k4) d2 v2 r2) r4 h4 fun d5 M5 v5 H5 h5 k5 m5 r5 => q d5 M5 v5 H5 h5 ((((k1.trans k2).trans k3).trans k4).trans k5) m5 r5
    | false =>
      rw [if_neg Bool.false_ne_true]
      exact q _ _ _ _ (h3.2 rfl) ((k1.trans k2).trans k3) m3 rBl
  | _ => exact h3.elim
theorem de_chain {a b c : Expr} {op op' : CmpOp} {g g' : DR2} {ta tb tc : TD} {pos : Pos} (c1 : CmpD X op g) (c2 : CmpD X op' g') (ha : DE X B a ta) (hb : DE X B b tb) (hcc : DE X B c tc)
    (hm : lastMarks [op, op'] [b, c] = false := by with_unfolding_all rfl) : DE X B (.Compare a [op, op'] [b, c] pos) (dChain g g' ta tb tc) := by
  obtain ⟨r, ho, hc⟩ := c1.ex
  obtain ⟨r', ho', hc'⟩ := c2.ex
  exact PE.imp (pe_chain ho ho' ha hb hcc hm) fun _ _ _ h => lft_chain hc hc' h
theorem dt_chain {a b c : Expr} {op op' : CmpOp} {g g' : DR2} {ta tb tc : TD} {pos : Pos} (c1 : CmpD X op g) (c2 : CmpD X op' g') (ha : DE X B a ta) (hb : DE X B b tb) (hcc : DE X B c tc)
    (hm : lastMarks [op, op'] [b, c] = false := by with_unfolding_all rfl) : DT X B (.Compare a [op, op'] [b, c] pos) (dB (dChain g g' ta tb tc)) := by
  obtain ⟨r, ho, hc⟩ := c1.ex
  obtain ⟨r', ho', hc'⟩ := c2.ex
  exact PT.imp (pt_chain ho ho' ha hb hcc hm) fun _ _ _ h => lft_chain hc hc' (lft_B h)
/-! ### and, or, not -/
def dAnd (t u : TDb) : TDb := fun ρ M Q => t ρ M fun b M1 => (b = true → u ρ M1 Q) ∧ (b = false → Q false M1)
def dOr (t u : TDb) : TDb := fun ρ M Q => t ρ M fun b M1 => (b = true → Q true M1) ∧ (b = false → u ρ M1 Q)
def dNot (t : TDb) : TDb := fun ρ M Q => t ρ M fun b M1 => Q (!b) M1
theorem dw_and1 {a : Expr} {t : TDb} {pos : Pos} (h : DT X B a t) : DW X B (.BoolOp .And [a] pos) t := pw_and1 h
theorem dw_or1 {a : Expr} {t : TDb} {pos : Pos} (h : DT X B a t) : DW X B (.BoolOp .Or [a] pos) t := pw_or1 h
theorem dw_and {a b : Expr} {rest : List Expr} {t u : TDb} {pos : Pos} (ha : DT X B a t) (hb : DW X B (.BoolOp .And (b :: rest) pos) u) : DW X B (.BoolOp .And (a :: b :: rest) pos) (dAnd t u) := by
  refine PW.imp (pw_and ha hb) fun σ H Q h => ?_
  obtain ⟨ρ, M, R, hh, h, q⟩ := h
  refine ⟨ρ, M, _, hh, h, fun b M1 H1 h1 k1 m1 => ?_⟩
  cases b with
  | true =>
    rw [if_pos rfl]
    exact ⟨ρ, M1, R, hh.step k1 m1, h1.1 rfl, fun b M2 H2 h2 k2 m2 => q b M2 H2 h2 (k1.trans k2) m2⟩
  | false =>
    rw [if_neg Bool.false_ne_true]
    exact q _ _ _ (h1.2 rfl) k1 m1
theorem dw_or {a b : Expr} {rest : List Expr} {t u : TDb} {pos : Pos} (ha : DT X B a t) (hb : DW X B (.BoolOp .Or (b :: rest) pos) u) : DW X B (.BoolOp .Or (a :: b :: rest) pos) (dOr t u) := by
  refine PW.imp (pw_or ha hb) fun σ H Q h => ?_
  obtain ⟨ρ, M, R, hh, h, q⟩ := h
  refine ⟨ρ, M, _, hh, h, fun b M1 H1 h1 k1 m1 => ?_⟩
  cases b with
  | true =>
    rw [if_pos rfl]
    exact q _ _ _ (h1.1 rfl) k1 m1
  | false =>
    rw [if_neg Bool.false_ne_true]
    exact ⟨ρ, M1, R, hh.step k1 m1, h1.2 rfl, fun b M2 H2 h2 k2 m2 => q b M2 H2 h2 (k1.trans k2) m2⟩
theorem dw {e : Expr} {t : TDb} (h : DW X B e t) : DT X B e t := PW.pt h
theorem dt_not {a : Expr} {t : TDb} {pos : Pos} (h : DT X B a t) : DT X B (.UnaryOp .Not a pos) (dNot t) := by
  refine PT.imp (pt_not h) fun σ H Q h => ?_
  obtain ⟨ρ, M, R, hh, h, q⟩ := h
  exact ⟨ρ, M, _, hh, h, fun b M1 H1 h1 k1 m1 => q _ _ _ h1 k1 m1⟩
def dAndV (t u : TD) : TD := fun ρ M Q => t ρ M fun d M1 => d.onB fun b => (b = true → u ρ M1 Q) ∧ (b = false → Q (.bl false) M1)
def dOrV (t u : TD) : TD := fun ρ M Q => t ρ M fun d M1 => d.onB fun b => (b = true → Q (.bl true) M1) ∧ (b = false → u ρ M1 Q)
def dNotV (t : TD) : TD := fun ρ M Q => t ρ M fun d M1 => d.onB fun b => Q (.bl (!b)) M1
theorem de_one {op} {a : Expr} {t : TD} {pos : Pos} (h : DE X B a t) : DE X B (.BoolOp op [a] pos) t := pe_one h
theorem de_and {a b : Expr} {rest : List Expr} {t u : TD} {pos : Pos} (ha : DE X B a t) (hb : DE X B (.BoolOp .And (b :: rest) pos) u) : DE X B (.BoolOp .And (a :: b :: rest) pos) (dAndV t u) := by
  refine PE.imp (pe_and ha hb) fun σ H Q h => ?_
  obtain ⟨ρ, M, R, hh, h, q⟩ := h
  refine ⟨ρ, M, _, hh, h, fun d M1 v H1 h1 k1 m1 r1 => ?_⟩
  cases d with
  | bl b =>
    unfold RepV at r1
    refine ⟨b, r1, ?_⟩
    cases b with
    | true =>
      rw [if_pos rfl]
      exact ⟨ρ, M1, R, hh.step k1 m1, h1.1 rfl, fun b M2 v2 H2 h2 k2 m2 r2 => q b M2 v2 H2 h2 (k1.trans k2) m2 r2⟩
    | false =>
      rw [if_neg Bool.false_ne_true]
      exact q _ _ _ _ (h1.2 rfl) k1 m1 rBl
  | _ => exact h1.elim
theorem de_or {a b : Expr} {rest : List Expr} {t u : TD} {pos : Pos} (ha : DE X B a t) (hb : DE X B (.BoolOp .Or (b :: rest) pos) u) : DE X B (.BoolOp .Or (a :: b :: rest) pos) (dOrV t u) := by
  refine PE.imp (pe_or ha hb) fun σ H Q h => ?_
  obtain ⟨ρ, M, R, hh, h, q⟩ := h
  refine ⟨ρ, M, _, hh, h, fun d M1 v H1 h1 k1 m1 r1 => ?_⟩
  cases d with
  | bl b =>
    unfold RepV at r1
    refine ⟨b, r1, ?_⟩
    cases b with
    | true =>
      rw [if_pos rfl]
      exact q _ _ _ _ (h1.1 rfl) k1 m1 rBl
    | false =>
      rw [if_neg Bool.false_ne_true]
      exact ⟨ρ, M1, R, hh.step k1 m1, h1.2 rfl, fun b M2 v2 H2 h2 k2 m2 r2 => q b M2 v2 H2 h2 (k1.trans k2) m2 r2⟩
  | _ => exact h1.elim
theorem de_not {a : Expr} {t : TD} {pos : Pos} (ha : DE X B a t) : DE X B (.UnaryOp .Not a pos) (dNotV t) := by
  refine PE.imp (pe_not ha) fun σ H Q h => ?_
  obtain ⟨ρ, M, R, hh, h, q⟩ := h
  refine ⟨ρ, M, _, hh, h, fun d M1 v H1 h1 k1 m1 r1 => ?_⟩
  cases d with
  | bl b => unfold RepV at r1; exact ⟨b, r1, q _ _ _ _ h1 k1 m1 rBl⟩
  | _ => exact h1.elim
def dIf (t : TDb) (ta tb : TD) : TD := fun ρ M Q => t ρ M fun b M1 => (b = true → ta ρ M1 Q) ∧ (b = false → tb ρ M1 Q)
theorem de_if {c a b : Expr} {t : TDb} {ta tb : TD} {pos : Pos} (hc : DT X B c t) (ha : DE X B a ta) (hb : DE X B b tb) : DE X B (.IfExp c a b pos) (dIf t ta tb) := by
  refine PE.imp (pe_ifExp hc ha hb) fun σ H Q h => ?_
  obtain ⟨ρ, M, R, hh, h, q⟩ := h
  refine ⟨ρ, M, _, hh, h, fun b M1 H1 h1 k1 m1 => ?_⟩
  cases b with
  | true =>
    rw [if_pos rfl]
    exact ⟨ρ, M1, R, hh.step k1 m1, h1.1 rfl, fun b M2 v2 H2 h2 k2 m2 r2 => q b M2 v2 H2 h2 (k1.trans k2) m2 r2⟩
  | false =>
    rw [if_neg Bool.false_ne_true]
    exact ⟨ρ, M1, R, hh.step k1 m1, h1.2 rfl, fun b M2 v2 H2 h2 k2 m2 r2 => q b M2 v2 H2 h2 (k1.trans k2) m2 r2⟩

/-! ### argument lists, displays -/
def dNil : TDs := fun _ M Q => Q [] M
def dCons (ta : TD) (tr : TDs) : TDs := fun ρ M Q => ta ρ M fun x M1 => tr ρ M1 fun xs M2 => Q (x :: xs) M2
theorem da_nil : DA X B [] dNil := PA.imp pa_nil fun σ H Q ⟨ρ, M, R, hh, h, q⟩ => q [] M [] H h .rfl' hh.m .nil
theorem da_cons {e : Expr} {es : List Expr} {te : TD} {t : TDs} (ha : DE X B e te) (hr : DA X B es t) (hs : starEach (e :: es) X.env = (false, eval e X.env) :: starEach es X.env := by rfl) : DA X B (e :: es) (dCons te t) := by
  refine PA.imp (pa_cons ha hr hs) fun σ H Q h => ?_
  obtain ⟨ρ, M, R, hh, h, q⟩ := h
  refine ⟨ρ, M, _, hh, h, fun d M1 v H1 h1 k1 m1 r1 => ?_⟩
  refine ⟨ρ, M1, _, hh.step k1 m1, h1, fun ds M2 vs H2 h2 k2 m2 r2 => ?_⟩
  exact q (d :: ds) M2 (v :: vs) H2 h2 (k1.trans k2) m2 (.cons (RepV.keep k2 d v r1) r2)
def dTup (t : TDs) : TD := fun ρ M Q => t ρ M fun xs M1 => xs.length ≤ sizeLine ∧ Q (.tup xs) M1
def dLst (t : TDs) : TD := fun ρ M Q => t ρ M fun xs M1 => xs.length ≤ sizeLine ∧ Q (.lst xs) M1
/-- a list that will change -/
def dLstM (t : TDs) : TD := fun ρ M Q => t ρ M fun xs M1 => xs.length ≤ sizeLine ∧ ∀ p, M1 p = none → Q (.ref p) (um M1 p (.lst xs))
theorem de_tup {es : List Expr} {t : TDs} {x1 pos} (h : DA X B es t) : DE X B (.Tuple es x1 pos) (dTup t) := by
  refine PE.imp (pe_tup h) fun σ H Q h => ?_
  obtain ⟨ρ, M, R, hh, h, q⟩ := h
  refine ⟨ρ, M, _, hh, h, fun ds M1 vs H1 h1 k1 m1 r1 => ⟨by rw [← r1.length]; exact h1.1, fun p n => ?_⟩⟩
  refine q _ _ _ _ h1.2 (k1.trans (Keep.new m1 n)) (m1.new n) ?_
  unfold RepV
  exact ⟨p, vs, rfl, m1.free n, upd_same, RepVs.new m1 n r1⟩
theorem de_lst {es : List Expr} {t : TDs} {x1 : Pos} (h : DA X B es t) : DE X B (.List es x1) (dLst t) := by
  refine PE.imp (pe_lst h) fun σ H Q h => ?_
  obtain ⟨ρ, M, R, hh, h, q⟩ := h
  refine ⟨ρ, M, _, hh, h, fun ds M1 vs H1 h1 k1 m1 r1 => ⟨by rw [← r1.length]; exact h1.1, fun p n => ?_⟩⟩
  refine q _ _ _ _ h1.2 (k1.trans (Keep.new m1 n)) (m1.new n) ?_
  unfold RepV
  exact ⟨p, vs, rfl, m1.free n, upd_same, RepVs.new m1 n r1⟩
theorem de_lstM {es : List Expr} {t : TDs} {x1 : Pos} (h : DA X B es t) : DE X B (.List es x1) (dLstM t) := by
  refine PE.imp (pe_lst h) fun σ H Q h => ?_
  obtain ⟨ρ, M, R, hh, h, q⟩ := h
  refine ⟨ρ, M, _, hh, h, fun ds M1 vs H1 h1 k1 m1 r1 => ⟨by rw [← r1.length]; exact h1.1, fun p n => ?_⟩⟩
  have k2 : Keep M1 H1 (um M1 p (.lst ds)) (upd H1 p (.lst vs)) := Keep.newM m1 n
  exact q _ _ _ _ (h1.2 p (m1.free n)) (k1.trans k2) (m1.newM n ⟨vs, upd_same, RepVs.keep k2 _ _ r1⟩) (by unfold RepV; rfl)
/-! ### subscripts -/
def gIx : DR2 := fun x y M Q => match x, y with
  | .tup xs, .int i => match atI xs i with
    | some d => Q d M
    | none => False
  | .scr ns, .int i => match atI ns i with
    | some d => Q (.int d) M
    | none => False
  | .str z, .int i => z.length ≤ sizeLine ∧ (match atI z.cps.toList i with
    | some c => Q (.str ⟨#[c]⟩) M
    | none => False)
  | x, .int i => match asL M x with
    | some xs => (match atI xs i with
      | some d => Q d M
      | none => False)
    | none => False
  | _, _ => False
theorem atI_rep {K : PySem.W.Frag} {mg : Str → Option Value} {M : Mp} {H : Hp} {ds : List D} {vs : List V} {i : Int} {d : D} (r : RepVs K mg M H ds vs) (h : atI ds i = some d) : ∃ v, atI vs i = some v ∧ RepV K mg M H d v := by
  unfold atI at h ⊢
  rw [← r.length]
  cases e : ixN ds.length i with
  | none => rw [e] at h; simp at h
  | some j =>
    rw [e] at h
    exact r.get (i := j) (by simpa using h)
theorem atI_map {α β : Type} (f : α → β) (xs : List α) (i : Int) : atI (xs.map f) i = (atI xs i).map f := by
  unfold atI
  rw [List.length_map]
  cases ixN xs.length i <;> simp
theorem opc_ix : OpC X (rIx X.K) gIx := by
  intro M H d1 d2 v1 v2 R Q m r1 r2 g q
  unfold gIx at g
  split at g
  · rename_i xs i
    unfold RepV at r1 r2
    obtain ⟨a, vs, rfl, na, ha, ra⟩ := r1
    split at g
    · rename_i d e
      obtain ⟨v, e1, rv⟩ := atI_rep ra e
      exact .inr (.inl ⟨a, vs, i, v, rfl, r2, SqT.of ha, e1, q _ _ _ _ g .rfl' m rv⟩)
    · exact g.elim
  · rename_i ns i
    obtain ⟨a, rfl, ha⟩ := scr_at r1
    unfold RepV at r2
    split at g
    · rename_i d e
      exact .inl ⟨a, _, i, .int d, rfl, r2, ha, by rw [atI_map, e]; rfl, q _ _ _ _ g .rfl' m rInt⟩
    · exact g.elim
  · rename_i z i
    unfold RepV at r1 r2
    obtain ⟨g0, g⟩ := g
    split at g
    · rename_i c e
      exact .inr (.inr ⟨z, i, c, r1, r2, g0, e, q _ _ _ _ g .rfl' m rStr⟩)
    · exact g.elim
  · rename_i i _ _ _
    unfold RepV at r2
    split at g
    · rename_i xs e0
      obtain ⟨a, vs, rfl, ha, ra⟩ := asL_at e0 m r1
      split at g
      · rename_i d e
        obtain ⟨v, e1, rv⟩ := atI_rep ra e
        exact .inl ⟨a, vs, i, v, rfl, r2, SqL.of ha, e1, q _ _ _ _ g .rfl' m rv⟩
      · exact g.elim
    · exact g.elim
  · exact g.elim
theorem de_ix {a b : Expr} {ta tb : TD} {pos : Pos} (ha : DE X B a ta) (hb : DE X B b tb) (hs : PlainIx b := by exact fun _ _ => rfl) : DE X B (.Subscript a b pos) (dOp gIx ta tb) :=
  PE.imp (pe_ix ix_seq ha hb hs) fun _ _ _ h => lft_op opc_ix h
abbrev TDo := Rho → Mp → (Option Int → Mp → Prop) → Prop
def dNoPart : TDo := fun _ M Q => Q none M
def dPart (t : TD) : TDo := fun ρ M Q => t ρ M fun d M1 => match d with | .int i => Q (some i) M1 | _ => False
def lftO (X : Cx) (B : At) (t : TDo) : TO := fun σ H Q => ∃ ρ M R, Here X B ρ σ M H ∧ t ρ M R ∧ ∀ b M' H', R b M' → Keep M H M' H' → RepM X.K X.mg M' H' → Q b H'
def DO (X : Cx) (B : At) (e : Option Expr) (t : TDo) : Prop := PO X e (lftO X B t)
theorem PO.imp {e : Option Expr} {t u : TO} (h : PO X e t) (q : ∀ σ H Q, u σ H Q → t σ H Q) : PO X e u := ⟨fun pins s σ H Q I z => h.run pins s σ H Q I (q _ _ _ z)⟩
theorem do_none : DO X B none dNoPart := PO.imp po_none fun σ H Q ⟨ρ, M, R, hh, h, q⟩ => q _ _ _ h .rfl' hh.m
theorem do_some {e : Expr} {t : TD} (h : DE X B e t) : DO X B (some e) (dPart t) := by
  refine PO.imp (po_some h) fun σ H Q h => ?_
  obtain ⟨ρ, M, R, hh, h, q⟩ := h
  refine ⟨ρ, M, _, hh, h, fun d M1 v H1 h1 k1 m1 r1 => ?_⟩
  split at h1
  · rename_i i
    unfold RepV at r1
    exact ⟨i, r1, q _ _ _ h1 k1 m1⟩
  · exact h1.elim
def dSl (te : TD) (tl th : TDo) : TD := fun ρ M Q => te ρ M fun x M1 => tl ρ M1 fun l M2 => th ρ M2 fun u M3 => match x with
  | .tup xs => Q (.tup (cutL xs l u)) M3
  | .scr ns => Q (.lst ((cutL ns l u).map D.int)) M3
  | x => match asL M3 x with
    | some xs => Q (.lst (cutL xs l u)) M3
    | none => False
theorem cutL_map {α β : Type} (f : α → β) (xs : List α) (l u : Option Int) : cutL (xs.map f) l u = (cutL xs l u).map f := by
  unfold cutL
  rw [List.length_map, List.map_take, List.map_drop]
theorem cutV_eq (xs : List V) (l u : Option Int) : cutV xs l u = cutL xs l u := rfl
theorem cutL_whole {α : Type} (xs : List α) (l u : Option Int) (h : HT.sIx xs.length 0 l = 0 ∧ HT.sIx xs.length xs.length u = xs.length) : cutL xs l u = xs := by
  unfold cutL
  rw [h.1, h.2]
  simp
theorem de_slice {e : Expr} {lo hi : Option Expr} {te : TD} {tl th : TDo} {p2 pos : Pos} (he : DE X B e te) (hl : DO X B lo tl) (hu : DO X B hi th) : DE X B (.Subscript e (.Slice lo hi none p2) pos) (dSl te tl th) := by
  refine PE.imp (pe_slice (sl_tupA.or sl_list) he hl hu) fun σ H Q h => ?_
  obtain ⟨ρ, M, R, hh, h, q⟩ := h
  refine ⟨ρ, M, _, hh, h, fun d M1 v H1 h1 k1 m1 r1 => ?_⟩
  refine ⟨ρ, M1, _, hh.step k1 m1, h1, fun l M2 H2 h2 k2 m2 => ?_⟩
  refine ⟨ρ, M2, _, (hh.step k1 m1).step k2 m2, h2, fun u M3 H3 h3 k3 m3 => ?_⟩
  have r := RepV.keep (k2.trans k3) d v r1
  have kk := (k1.trans k2).trans k3
  split at h3
  · rename_i xs
    have r' := r
    unfold RepV at r
    obtain ⟨a, vs, rfl, na, ha, ra⟩ := r
    refine .inl ⟨a, vs, rfl, SqT.of ha, fun w => ?_, fun _ p n => ?_⟩
    · have w' : HT.sIx xs.length 0 l = 0 ∧ HT.sIx xs.length xs.length u = xs.length := by rw [ra.length]; exact w
      exact q _ _ _ _ h3 kk m3 (by rw [cutL_whole xs l u w']; exact r')
    · refine q _ _ _ _ h3 (kk.trans (Keep.new m3 n)) (m3.new n) ?_
      unfold RepV
      exact ⟨p, _, rfl, m3.free n, upd_same, RepVs.new m3 n (ra.cut l u)⟩
  · rename_i ns
    obtain ⟨a, rfl, ha⟩ := scr_at r
    refine .inr ⟨a, _, rfl, ha, fun p n => ?_⟩
    refine q _ _ _ _ h3 (kk.trans (Keep.new m3 n)) (m3.new n) ?_
    unfold RepV
    exact ⟨p, _, rfl, m3.free n, upd_same, by rw [cutV_eq, cutL_map]; exact RepVs.ints _⟩
  · split at h3
    · rename_i xs e0
      obtain ⟨a, vs, rfl, ha, ra⟩ := asL_at e0 m3 r
      refine .inr ⟨a, _, rfl, SqL.of ha, fun p n => ?_⟩
      refine q _ _ _ _ h3 (kk.trans (Keep.new m3 n)) (m3.new n) ?_
      unfold RepV
      exact ⟨p, _, rfl, m3.free n, upd_same, RepVs.new m3 n (ra.cut l u)⟩
    · exact h3.elim
end
end DL
/-! The D layer, part d: statements, loops. -/
namespace DL
open PySem PySem.Spec L2

/-- for less that is told -/
def Wk (P : Mp → Prop) (M : Mp) : Prop := ∃ M0, MLe M0 M ∧ P M0
theorem Wk.of {P : Mp → Prop} {M : Mp} (h : P M) : Wk P M := ⟨M, .rfl', h⟩

section
variable {X : Cx} {B : At}
/-! ### blocks -/
def dNext : TDS := fun E ρ M => E.nx ρ M
def dSeq (t u : TDS) : TDS := fun E ρ M => t { E with nx := u E } ρ M
theorem dss_nil : DSs X B [] dNext := PSs.imp pss_nil fun D σ H ⟨C, ρ, M, E, kb, hh, le, h⟩ => le.nx _ _ _ _ hh h
theorem dss_cons {s : Stmt} {ss : List Stmt} {t u : TDS} (h1 : DS X B s t) (h2 : DSs X B ss u) : DSs X B (s :: ss) (dSeq t u) :=
  PSs.imp (pss_cons h1 h2) fun D σ H ⟨C, ρ, M, E, kb, hh, le, h⟩ =>
    ⟨C, ρ, M, { E with nx := u E }, kb, hh, ⟨fun ρ' σ' M' H' h' q => ⟨C, ρ', M', E, kb, h', le, q⟩, le.bk, le.ct, le.rt⟩, h⟩
theorem dss_one {s : Stmt} {t : TDS} (h1 : DS X B s t) : DSs X B [s] t := pss_one h1
theorem ds_pass {pos : Pos} : DS X B (.Pass pos) dNext := PS.imp ps_pass fun D σ H ⟨C, ρ, M, E, kb, hh, le, h⟩ => le.nx _ _ _ _ hh h
def dBreak : TDS := fun E ρ M => E.bk ρ M
def dCont : TDS := fun E ρ M => E.ct ρ M
theorem ds_break {pos : Pos} : DS X B (.Break pos) dBreak := PS.imp ps_break fun D σ H ⟨C, ρ, M, E, kb, hh, le, h⟩ => le.bk _ _ _ _ hh h
theorem ds_cont {pos : Pos} : DS X B (.Continue pos) dCont := PS.imp ps_continue fun D σ H ⟨C, ρ, M, E, kb, hh, le, h⟩ => le.ct _ _ _ _ hh h
def dNever : TDS := fun _ _ _ => False
theorem ds_never {s : Stmt} : DS X B s dNever := PS.imp ps_never fun D σ H ⟨_, _, _, _, _, _, _, h⟩ => h
def dDrop (t : TD) : TDS := fun E ρ M => t ρ M fun _ M1 => E.nx ρ M1
theorem ds_expr {e : Expr} {t : TD} {pos : Pos} (h : DE X B e t) (hs : swapsWith e none pos.line X.env = pure false := by rfl) : DS X B (.Expr e pos) (dDrop t) :=
  PS.imp (ps_expr h hs) fun D σ H ⟨C, ρ, M, E, kb, hh, le, h⟩ => ⟨ρ, M, _, hh.base kb, h, fun d M1 v H1 h1 k1 m1 _ => le.nx _ _ _ _ (hh.step k1 m1) h1⟩
def dRet (t : TD) : TDS := fun E ρ M => t ρ M E.rt
theorem ds_ret {e : Expr} {t : TD} {pos : Pos} (h : DE X B e t) : DS X B (.Return (some e) pos) (dRet t) :=
  PS.imp (ps_ret h) fun D σ H ⟨C, ρ, M, E, kb, hh, le, h⟩ => ⟨ρ, M, _, hh.base kb, h, fun d M1 v H1 h1 k1 m1 r1 => le.rt _ _ _ _ (hh.k.trans k1) m1 r1 h1⟩
def dRetN : TDS := fun E _ M => E.rt .non M
theorem ds_retN {pos : Pos} : DS X B (.Return none pos) dRetN := PS.imp ps_retN fun D σ H ⟨C, ρ, M, E, kb, hh, le, h⟩ => le.rt _ _ _ _ hh.k hh.m rNon h
def dIfS (c : TDb) (t u : TDS) : TDS := fun E ρ M => c ρ M fun b M1 => (b = true → t E ρ M1) ∧ (b = false → u E ρ M1)
theorem ds_if {c : Expr} {a b : List Stmt} {tc : TDb} {t u : TDS} {pos : Pos} (hc : DT X B c tc) (ha : DSs X B a t) (hb : DSs X B b u) : DS X B (.If c a b pos) (dIfS tc t u) := by
  refine PS.imp (ps_if hc ha hb) fun D σ H h => ?_
  obtain ⟨C, ρ, M, E, kb, hh, le, h⟩ := h
  refine ⟨ρ, M, _, hh.base kb, h, fun b M1 H1 h1 k1 m1 => ?_⟩
  cases b with
  | true => exact iteT ⟨C, ρ, M1, E, kb, hh.step k1 m1, le, h1.1 rfl⟩
  | false => exact iteF ⟨C, ρ, M1, E, kb, hh.step k1 m1, le, h1.2 rfl⟩
/-- a list that changed no more: the name in slot i holds it as it is -/
def dSettle (i : Nat) (t : TDS) : TDS := fun E ρ M => match ρ[i]? with
  | some (some (.ref a)) => (match M a with
    | some (.lst ds) => t E (ρ.set i (some (.lst ds))) (dm M a)
    | _ => False)
  | _ => False
theorem dm_le {M : Mp} {a : Addr} : MLe (dm M a) M := fun b o e => by
  by_cases q : b = a
  · subst q; rw [dm_same] at e; cases e
  · rw [dm_ne q] at e; exact e
theorem dss_settle {ss : List Stmt} {t : TDS} (i : Nat) (h : DSs X B ss t) : DSs X B ss (dSettle i t) := by
  refine PSs.imp h fun D σ H h => ?_
  obtain ⟨C, ρ, M, E, kb, hh, le, h⟩ := h
  unfold dSettle at h
  split at h
  · rename_i a e
    cases q : M a with
    | none => rw [q] at h; exact h.elim
    | some o =>
      rw [q] at h
      cases o with
      | ins c fs => exact h.elim
      | lst ds =>
        have h : t E (ρ.set i (some (.lst ds))) (dm M a) := h
        have hl : Here X C ρ σ (dm M a) H := hh.less dm_le
        obtain ⟨vs, ha, ra⟩ := hh.m a _ q
        refine ⟨C, _, _, E, kb, ⟨⟨by simp [hl.s.1], fun j d hj => ?_⟩, hl.m, hl.k⟩, le, h⟩
        by_cases z : i = j
        · subst z
          obtain ⟨v, e1, r1⟩ := hh.s.2 i _ e
          unfold RepV at r1
          subst r1
          have hlt : i < ρ.length := by
            have := List.getElem?_eq_some_iff.mp e
            exact this.1
          rw [List.getElem?_set_self hlt] at hj
          cases hj
          refine ⟨_, e1, ?_⟩
          unfold RepV
          exact ⟨a, vs, rfl, by simp, ha, RepVs.keep (Keep.rfl'.less dm_le) _ _ ra⟩
        · rw [List.getElem?_set_ne z] at hj
          exact hl.s.2 j d hj
  · exact h.elim

/-! ### targets, stores -/
def dgName (i : Nat) : TDG := fun d ρ M Q => Q (ρ.set i (some d)) M
theorem dg_name {i : Nat} {x : Str} {pos : Pos} (hN : X.N.Nodup) (hi : X.N[i]? = some x) (hx : Loc X.env.scope x) (hf : X.fn x = true ∨ X.env.scope.names.lookup x = some .local := by first | exact .inl rfl | exact .inr rfl | assumption) : DG X B (.Name x pos) (dgName i) := by
  refine PG.imp (pg_name hN hi hx hf) fun v σ H Q h => ?_
  obtain ⟨ρ, M, d, R, hh, r, h, q⟩ := h
  exact q _ _ _ _ h .rfl' (hh.set r)
def dgNil : TDGs := fun ds ρ M Q => match ds with | [] => Q ρ M | _ => False
def dgCons (t : TDG) (u : TDGs) : TDGs := fun ds ρ M Q => match ds with | d :: r => t d ρ M fun ρ' M' => u r ρ' M' Q | [] => False
theorem dgs_nil : DGs X B [] dgNil := by
  refine PGs.imp pgs_nil fun vs σ H Q h => ?_
  obtain ⟨ρ, M, ds, R, hh, r, h, q⟩ := h
  cases ds with
  | nil => unfold RepVs at r; exact ⟨r, q _ _ _ _ h .rfl' hh⟩
  | cons => exact h.elim
theorem dgs_cons {e : Expr} {es : List Expr} {t : TDG} {u : TDGs} (h1 : DG X B e t) (h2 : DGs X B es u)
    (hs : (assignEach (e :: es) X.env).map (·.2) = assign e X.env :: (assignEach es X.env).map (·.2) := by rfl) : DGs X B (e :: es) (dgCons t u) := by
  refine PGs.imp (pgs_cons h1 h2 hs) fun vs σ H Q h => ?_
  obtain ⟨ρ, M, ds, R, hh, r, h, q⟩ := h
  cases ds with
  | nil => exact h.elim
  | cons d ds =>
    unfold RepVs at r
    obtain ⟨v, vr, rfl, rv, rs⟩ := r
    refine ⟨v, vr, rfl, ρ, M, d, _, hh, rv, h, fun ρ1 M1 σ1 H1 h1 k1 hh1 => ?_⟩
    exact ⟨ρ1, M1, ds, R, hh1, RepVs.keep k1 _ _ rs, h1, fun ρ2 M2 σ2 H2 h2 k2 hh2 => q ρ2 M2 σ2 H2 h2 (k1.trans k2) hh2⟩
def dgTup (u : TDGs) : TDG := fun d ρ M Q => match d with | .tup xs => u xs ρ M Q | _ => False
theorem dg_tup {es : List Expr} {k : Nat} {u : TDGs} {pos : Pos} (hc : X.calm = true) (h : DGs X B es u)
    (ul : ∀ ds ρ M Q, u ds ρ M Q → ds.length = (assignEach es X.env).length)
    (hst : (assignEach es X.env).findIdx? (·.1) = none := by rfl) : DG X B (.Tuple es k pos) (dgTup u) := by
  refine PG.imp (pg_tup hc h rfl hst) fun v σ H Q h => ?_
  obtain ⟨ρ, M, d, R, hh, r, h, q⟩ := h
  unfold dgTup at h
  split at h
  · rename_i xs
    unfold RepV at r
    obtain ⟨a, vs, rfl, na, ha, ra⟩ := r
    exact ⟨a, vs, rfl, SqT.of ha, by rw [← ra.length]; exact ul _ _ _ _ h, ρ, M, xs, R, hh, ra, h, q⟩
  · exact h.elim
theorem ul_nil {n : Nat} (hn : 0 = n := by rfl) : ∀ ds ρ M Q, dgNil ds ρ M Q → ds.length = n := fun ds ρ M Q h => by
  cases ds with
  | nil => exact hn
  | cons => exact h.elim
theorem ul_cons {t : TDG} {u : TDGs} {n : Nat} (mt : ∀ d ρ M (Q : Rho → Mp → Prop), t d ρ M Q → ∃ ρ' M', Q ρ' M') (h : ∀ ds ρ M Q, u ds ρ M Q → ds.length = n) : ∀ ds ρ M Q, dgCons t u ds ρ M Q → ds.length = n + 1 := fun ds ρ M Q h' => by
  cases ds with
  | nil => exact h'.elim
  | cons d ds =>
    obtain ⟨ρ', M', q⟩ := mt _ _ _ _ h'
    show ds.length + 1 = n + 1
    rw [h _ _ _ _ q]
theorem mt_name {i : Nat} : ∀ d ρ M (Q : Rho → Mp → Prop), dgName i d ρ M Q → ∃ ρ' M', Q ρ' M' := fun _ _ _ _ h => ⟨_, _, h⟩
/-- xs[i] = v, xs a list that may change -/
def dgSub (to ti : TD) : TDG := fun d ρ M Q => to ρ M fun o M1 => ti ρ M1 fun i M2 => match o, i with
  | .ref a, .int k => (match M2 a with
    | some (.lst ds) => (match ixN ds.length k with
      | some j => Q ρ (um M2 a (.lst (ds.set j d)))
      | none => False)
    | _ => False)
  | _, _ => False
theorem dg_sub {o i : Expr} {to ti : TD} {pos : Pos} (ho : DE X B o to) (hi : DE X B i ti)
    (ha : ∀ v, assign (.Subscript o i pos) X.env v = (do
      let ov ← holding [v] (eval o X.env)
      let iv ← holding [v, ov] (eval i X.env)
      standAt pos
      holding [v, ov, iv] (setItem ov iv v)
      release [v, ov, iv] []) := by intro _; rfl) : DG X B (.Subscript o i pos) (dgSub to ti) := by
  refine PG.imp (pg_sub ho hi set_list ha) fun v σ H Q h => ?_
  obtain ⟨ρ, M, d, R, hh, r, h, q⟩ := h
  refine ⟨ρ, M, _, hh, h, fun o M1 vo H1 h1 k1 m1 r1 => ?_⟩
  refine ⟨ρ, M1, _, hh.step k1 m1, h1, fun i M2 vi H2 h2 k2 m2 r2 => ?_⟩
  split at h2
  · rename_i a k
    have r1' := RepV.keep k2 _ _ r1
    unfold RepV at r1' r2
    cases e : M2 a with
    | none => rw [e] at h2; exact h2.elim
    | some w =>
      rw [e] at h2
      cases w with
      | ins c fs => exact h2.elim
      | lst ds =>
        dsimp only at h2
        cases e3 : ixN ds.length k with
        | none => rw [e3] at h2; exact h2.elim
        | some j =>
          rw [e3] at h2
          obtain ⟨vs, ha, ra⟩ := m2 a _ e
          refine ⟨a, vs, k, j, r1', r2, ha, by rw [← ra.length]; exact e3, ?_⟩
          have kw : Keep M2 H2 (um M2 a (.lst (ds.set j d))) (upd H2 a (.lst (vs.set j v))) := Keep.write e
          have hh2 := (hh.step k1 m1).step k2 m2
          refine q _ _ _ _ h2 ((k1.trans k2).trans kw) (hh2.step kw (m2.write e ⟨_, upd_same, ?_⟩))
          exact RepVs.keep kw _ _ (RepVs.set j (RepV.keep (k1.trans k2) d v r) ra)
  · exact h2.elim
def dAsg (t : TD) (g : TDG) : TDS := fun E ρ M => t ρ M fun d M1 => g d ρ M1 E.nx
theorem lft_asg {t : TD} {g : TDG} {D : Ends} {σ : L2.St} {H : Hp} (h : lftS X B (dAsg t g) D σ H) : tAsg (lft X B t) (lftG X B g) D σ H := by
  obtain ⟨C, ρ, M, E, kb, hh, le, h⟩ := h
  exact ⟨ρ, M, _, hh.base kb, h, fun d M1 v H1 h1 k1 m1 r1 => ⟨ρ, M1, d, _, (hh.step k1 m1).base kb, r1, h1, fun ρ2 M2 σ2 H2 h2 k2 hh2 => le.nx _ _ _ _ (hh2.up ((hh.k.trans k1).trans k2)) h2⟩⟩
theorem ds_asg {tg e : Expr} {t : TD} {g : TDG} {pos : Pos} (he : DE X B e t) (hg : DG X B tg g) (hs : swapsWithSole [tg] e pos.line X.env = pure false := by rfl) (hw : swappedStores [tg] e X.env = pure none := by rfl)
    (h1 : (assignEach [tg] X.env).map (·.2) = [assign tg X.env] := by rfl) : DS X B (.Assign [tg] e pos) (dAsg t g) :=
  PS.imp (ps_asg he hg hs hw h1) fun D σ H h => lft_asg h
theorem ds_set {i : Nat} {x : Str} {e : Expr} {t : TD} {pos pos' : Pos} (hN : X.N.Nodup) (hi : X.N[i]? = some x) (hx : Loc X.env.scope x) (he : DE X B e t) (hs : swapsWith e (some (.Name x pos')) pos.line X.env = pure false := by rfl) (hf : X.fn x = true ∨ X.env.scope.names.lookup x = some .local := by first | exact .inl rfl | exact .inr rfl | assumption) :
    DS X B (.Assign [.Name x pos'] e pos) (dAsg t (dgName i)) := by
  refine PS.imp (ps_set hN hi hx he hs hf) fun D σ H h => ?_
  obtain ⟨C, ρ, M, E, kb, hh, le, h⟩ := h
  exact ⟨ρ, M, _, hh.base kb, h, fun d M1 v H1 h1 k1 m1 r1 => le.nx _ _ _ _ ((hh.step k1 m1).set r1) h1⟩
/-- a, b = x, y; a, b, c = x, y, z: plain local names -/
def dPar (is : List Nat) (t : TDs) : TDS := fun E ρ M => t ρ M fun ds M1 => ds.length = is.length ∧ E.nx ((is.zip ds).foldl (fun r p => r.set p.1 (some p.2)) ρ) M1
theorem ds_par {i j : Nat} {x y : Str} {a b : Expr} {ta : TDs} {px py pt pos : Pos} {kt k2 pt2} (hc : X.calm = true) (hN : X.N.Nodup) (hi : X.N[i]? = some x) (hj : X.N[j]? = some y) (hij : i ≠ j)
    (hx : X.env.scope.names.lookup x = some .local) (hy : X.env.scope.names.lookup y = some .local) (ha : DA X B [a, b] ta)
    (hw : swappedStores [.Tuple [.Name x px, .Name y py] kt pt] (.Tuple [a, b] k2 pt2) X.env = pure (some [x, y]))
    (hs : swapsWithSole [.Tuple [.Name x px, .Name y py] kt pt] (.Tuple [a, b] k2 pt2) pos.line X.env = pure false := by rfl) :
    DS X B (.Assign [.Tuple [.Name x px, .Name y py] kt pt] (.Tuple [a, b] k2 pt2) pos) (dPar [i, j] ta) := by
  refine PS.imp (ps_par hc hN hi hj hij hx hy ha hw hs) fun D σ H h => ?_
  obtain ⟨C, ρ, M, E, kb, hh, le, h⟩ := h
  refine ⟨ρ, M, _, hh.base kb, h, fun ds M1 vs H1 h1 k1 m1 r1 => ?_⟩
  obtain ⟨hl, h1⟩ := h1
  match ds, hl, r1 with
  | [d, e], _, r1 =>
    unfold RepVs at r1
    obtain ⟨v, vr, rfl, rv, r2⟩ := r1
    unfold RepVs at r2
    obtain ⟨w, wr, rfl, rw', r3⟩ := r2
    unfold RepVs at r3
    subst r3
    exact ⟨v, w, rfl, le.nx _ _ _ _ (((hh.step k1 m1).set rv).set rw') h1⟩
theorem ds_par3 {i j l : Nat} {x y z : Str} {a b c : Expr} {ta : TDs} {px py pz pt pos : Pos} {kt k2 pt2} (hc : X.calm = true) (hN : X.N.Nodup) (hi : X.N[i]? = some x) (hj : X.N[j]? = some y) (hl : X.N[l]? = some z) (hij : i ≠ j) (hil : i ≠ l) (hjl : j ≠ l)
    (hx : X.env.scope.names.lookup x = some .local) (hy : X.env.scope.names.lookup y = some .local) (hz : X.env.scope.names.lookup z = some .local) (ha : DA X B [a, b, c] ta)
    (hw : swappedStores [.Tuple [.Name x px, .Name y py, .Name z pz] kt pt] (.Tuple [a, b, c] k2 pt2) X.env = pure (some [x, y, z]))
    (hs : swapsWithSole [.Tuple [.Name x px, .Name y py, .Name z pz] kt pt] (.Tuple [a, b, c] k2 pt2) pos.line X.env = pure false := by rfl) :
    DS X B (.Assign [.Tuple [.Name x px, .Name y py, .Name z pz] kt pt] (.Tuple [a, b, c] k2 pt2) pos) (dPar [i, j, l] ta) := by
  refine PS.imp (ps_par3 hc hN hi hj hl hij hil hjl hx hy hz ha hw hs) fun D σ H h => ?_
  obtain ⟨C, ρ, M, E, kb, hh, le, h⟩ := h
  refine ⟨ρ, M, _, hh.base kb, h, fun ds M1 vs H1 h1 k1 m1 r1 => ?_⟩
  obtain ⟨hl, h1⟩ := h1
  match ds, hl, r1 with
  | [d, e, f], _, r1 =>
    unfold RepVs at r1
    obtain ⟨v, vr, rfl, rv, r2⟩ := r1
    unfold RepVs at r2
    obtain ⟨w, wr, rfl, rw', r3⟩ := r2
    unfold RepVs at r3
    obtain ⟨u, ur, rfl, ru, r4⟩ := r3
    unfold RepVs at r4
    subst r4
    exact ⟨v, w, u, rfl, le.nx _ _ _ _ ((((hh.step k1 m1).set rv).set rw').set ru) h1⟩
/-- name op= e -/
abbrev IpC (X : Cx) (r : TIp) (g : DR2) : Prop := OpC X (fun x y H Q => r x y H Q) g
def dAug (i : Nat) (t : TD) (g : DR2) : TDS := fun E ρ M => match ρ[i]? with
  | some (some x) => t ρ M fun y M1 => g x y M1 fun z M2 => E.nx (ρ.set i (some z)) M2
  | _ => False
theorem ds_aug {i : Nat} {x : Str} {e : Expr} {t : TD} {op : Operator} {ti : TIp} {g : DR2} {pos pos' : Pos} (ho : PIp X op ti) (hc : OpC X ti g) (hN : X.N.Nodup) (hi : X.N[i]? = some x) (hx : Loc X.env.scope x) (he : DE X B e t)
    (hf : X.fn x = true ∨ X.env.scope.names.lookup x = some .local := by first | exact .inl rfl | exact .inr rfl | assumption) : DS X B (.AugAssign (.Name x pos') op e pos) (dAug i t g) := by
  refine PS.imp (ps_aug hN hi hx he ho hf) fun D σ H h => ?_
  obtain ⟨C, ρ, M, E, kb, hh, le, h⟩ := h
  unfold dAug at h
  split at h
  · rename_i d e1
    obtain ⟨v, e2, r⟩ := hh.s.2 i d e1
    refine ⟨v, e2, ρ, M, _, hh.base kb, h, fun y M1 vy H1 h1 k1 m1 r1 => ?_⟩
    exact hc M1 H1 d y v vy _ _ m1 (RepV.keep k1 d v r) r1 h1 fun z M2 vz H2 h2 k2 m2 r2 => le.nx _ _ _ _ (((hh.step k1 m1).step k2 m2).set r2) h2
  · exact h.elim

/-! ### while -/
def dWhileN (c : TDb) (t : TDS) (E : DEnds) : Nat → Rho → Mp → Prop
  | 0 => fun _ _ => False
  | n + 1 => fun ρ M => c ρ M fun b M1 => (b = true → t { E with nx := fun ρ' M' => Wk (dWhileN c t E n ρ') M', ct := fun ρ' M' => Wk (dWhileN c t E n ρ') M', bk := E.nx } ρ M1) ∧ (b = false → E.nx ρ M1)
def dWhile (c : TDb) (t : TDS) : TDS := fun E ρ M => ∃ n, dWhileN c t E n ρ M
theorem ds_while {c : Expr} {body : List Stmt} {tc : TDb} {t : TDS} {pos : Pos} (hp : PassesOwn (model X.prog X.w) X.A X.env X.xe) (hc : DT X B c tc) (hb : DSs X B body t) : DS X B (.While c body [] pos) (dWhile tc t) := by
  refine PS.imp (ps_while hp hc hb) fun D σ H h => ?_
  obtain ⟨C, ρ, M, E, kb, hh, le, n, h⟩ := h
  refine ⟨fun m σ H => ∃ ρ M, Here X C ρ σ M H ∧ dWhileN tc t E m ρ M, ⟨n, ρ, M, hh, h⟩, ?_⟩
  rintro m σ1 H1 ⟨ρ1, M1, hh1, h1⟩
  cases m with
  | zero => exact h1.elim
  | succ m =>
    refine ⟨ρ1, M1, _, hh1.base kb, h1, fun b M2 H2 h2 k2 m2 => ?_⟩
    have hh2 := hh1.step k2 m2
    cases b with
    | false => exact iteF (le.nx _ _ _ _ hh2 (h2.2 rfl))
    | true =>
      refine iteT ⟨fun σ' H' => ∃ ρ M, Here X C ρ σ' M H' ∧ dWhileN tc t E m ρ M, fun σ' H' q => ⟨m, Nat.lt_succ_self m, q⟩, C, ρ1, M2, _, kb, hh2, ⟨?_, ?_, ?_, ?_⟩, h2.1 rfl⟩
      · exact fun ρ' σ' M' H' h' q => let ⟨M0, l, w⟩ := q; ⟨ρ', M0, h'.less l, w⟩
      · exact le.nx
      · exact fun ρ' σ' M' H' h' q => let ⟨M0, l, w⟩ := q; ⟨ρ', M0, h'.less l, w⟩
      · exact le.rt
/-! ### for -/
def forL (g : TDG) (t : TDS) (E : DEnds) : List D → Rho → Mp → Prop
  | [] => fun ρ M => E.nx ρ M
  | d :: ds => fun ρ M => g d ρ M fun ρ1 M1 => t { E with nx := fun ρ' M' => Wk (forL g t E ds ρ') M', ct := fun ρ' M' => Wk (forL g t E ds ρ') M', bk := E.nx } ρ1 M1
def dFor (ti : TDI) (g : TDG) (t : TDS) : TDS := fun E ρ M => ti ρ M fun items M1 => forL g t E items ρ M1
theorem ds_for {tg iter : Expr} {body : List Stmt} {ti : TDI} {g : TDG} {t : TDS} {pos : Pos} (hp : PassesOwn (model X.prog X.w) X.A X.env X.xe) (hc : X.calm = true) (hi : DI X B tg iter ti) (hg : DG X B tg g) (hb : DSs X B body t)
    (hs : ∀ x, foldedSetIterable iter X.env x = pure x := by intro _; rfl) : DS X B (.For tg iter body [] pos) (dFor ti g t) := by
  refine PS.imp (ps_for hp hc hi hg hb hs) fun D σ H h => ?_
  obtain ⟨C, ρ, M, E, kb, hh, le, h⟩ := h
  refine ⟨ρ, M, _, hh.base kb, h, fun items M1 J H1 h1 k1 m1 sv => ?_⟩
  have hh1 := hh.step k1 m1
  have kC : Keep B.M B.H M1 H1 := kb.trans hh1.k
  have leC : EndsLe X ⟨M1, H1⟩ E D := le.later (C' := ⟨M1, H1⟩) hh1.k
  refine ⟨fun i m σ H => ∃ ρ M, Here X ⟨M1, H1⟩ ρ σ M H ∧ i ≤ items.length ∧ m = items.length - i ∧ forL g t E (items.drop i) ρ M, ⟨_, ρ, M1, ⟨hh1.s, hh1.m, .rfl'⟩, Nat.zero_le _, rfl, by simpa using h1⟩, ?_⟩
  rintro i m σ2 H2 ⟨ρ2, M2, hh2, hi2, em, h2⟩
  obtain ⟨stop, go⟩ := sv M2 H2 hh2.k hh2.m i
  by_cases hlt : i < items.length
  · have ed : items.drop i = items[i] :: items.drop (i + 1) := List.drop_eq_getElem_cons hlt
    rw [ed] at h2
    obtain ⟨g1, g2⟩ := go items[i] (List.getElem?_eq_getElem hlt)
    refine .inr ⟨g1, fun σ' H' => ∃ ρ M, Here X ⟨M1, H1⟩ ρ σ' M H' ∧ forL g t E (items.drop (i + 1)) ρ M, fun σ' H' q => ?_, fun x H3 y => ?_⟩
    · obtain ⟨ρ', M', a1, a3⟩ := q
      exact ⟨items.length - (i + 1), by omega, ρ', M', a1, by omega, rfl, a3⟩
    · obtain ⟨k3, m3, r3⟩ := g2 x H3 y
      have hh3 := hh2.step k3 m3
      refine ⟨ρ2, M2, items[i], _, hh3.base kC, r3, h2, fun ρ4 M4 σ4 H4 h4 k4 hh4 => ?_⟩
      refine ⟨⟨M1, H1⟩, ρ4, M4, _, kC, hh4.up (hh3.k.trans k4), ⟨?_, ?_, ?_, ?_⟩, h4⟩
      · exact fun ρ' σ' M' H' h' q => let ⟨M0, l, w⟩ := q; ⟨ρ', M0, h'.less l, w⟩
      · exact leC.nx
      · exact fun ρ' σ' M' H' h' q => let ⟨M0, l, w⟩ := q; ⟨ρ', M0, h'.less l, w⟩
      · exact leC.rt
  · have e : items.drop i = [] := List.drop_of_length_le (by omega)
    rw [e] at h2
    exact .inl ⟨stop (by omega), leC.nx _ _ _ _ hh2 h2⟩
end
end DL
/-! The D layer, part e: calls of what is built in, what is walked. -/
namespace DL
open PySem PySem.Spec L2

section
variable {X : Cx} {B : At}
abbrev DCall := List D → Mp → DK → Prop
structure CallD (X : Cx) (f : Value) (g : DCall) : Prop where
  ex : ∃ r, CallR X f r ∧ ∀ M H ds vs (R : DK) (Q : VK), RepM X.K X.mg M H → RepVs X.K X.mg M H ds vs → g ds M R → Back X M H R Q → r vs H Q
def dCB (g : DCall) (t : TDs) : TD := fun ρ M Q => t ρ M fun ds M1 => g ds M1 Q
theorem lft_CB {g : DCall} {t : TDs} {r : List V → Hp → VK → Prop} (hc : ∀ M H ds vs (R : DK) (Q : VK), RepM X.K X.mg M H → RepVs X.K X.mg M H ds vs → g ds M R → Back X M H R Q → r vs H Q) {σ : L2.St} {H : Hp} {Q : VK}
    (h : lft X B (dCB g t) σ H Q) : tCB r (lftA X B t) σ H Q := by
  obtain ⟨ρ, M, R, hh, h, q⟩ := h
  refine ⟨ρ, M, _, hh, h, fun ds M1 vs H1 h1 k1 m1 r1 => ?_⟩
  exact hc M1 H1 ds vs R Q m1 r1 h1 fun d M2 v H2 h2 k2 m2 r2 => q d M2 v H2 h2 (k1.trans k2) m2 r2
theorem de_callB {x : Str} {id : String} {e : Expr} {es : List Expr} {g : DCall} {t : TDs} {p pos : Pos} (c : CallD X (.builtin id) g) (hg : Gl X x) (hm : X.mg x = none) (hv : bootBuiltins x = some (.builtin id)) (ha : DA X B (e :: es) t)
    (hn : x ≠ "__name__" := by decide) (hdb : (x == ("__debug__" : Str)) = false := by decide) (he : starEach (e :: es) X.env = (false, eval e X.env) :: starEach es X.env := by rfl) (hpl : (backTo pos (starEach es X.env)).any (·.1) = false := by rfl) :
    DE X B (.Call (.Name x p) (e :: es) [] pos) (dCB g t) := by
  obtain ⟨r, hr, hc⟩ := c.ex
  exact PE.imp (pe_callB hr hg hm hv ha hn hdb he hpl) fun _ _ _ h => lft_CB hc h
theorem de_callTy {x : Str} {T : String} {e : Expr} {es : List Expr} {g : DCall} {t : TDs} {p pos : Pos} (c : CallD X (.type T) g) (hg : Gl X x) (hm : X.mg x = none) (hv : bootBuiltins x = some (.type T)) (ha : DA X B (e :: es) t)
    (hn : x ≠ "__name__" := by decide) (hdb : (x == ("__debug__" : Str)) = false := by decide) (he : starEach (e :: es) X.env = (false, eval e X.env) :: starEach es X.env := by rfl) (hpl : (backTo pos (starEach es X.env)).any (·.1) = false := by rfl) :
    DE X B (.Call (.Name x p) (e :: es) [] pos) (dCB g t) := by
  obtain ⟨r, hr, hc⟩ := c.ex
  exact PE.imp (pe_callTy hr hg hm hv ha hn hdb he hpl) fun _ _ _ h => lft_CB hc h
/-- the name of a built-in type as a value -/
theorem de_ty {x : Str} {T : String} {pos : Pos} (hg : Gl X x) (hm : X.mg x = none) (hv : bootBuiltins x = some (.type T)) (hn : x ≠ "__name__" := by decide) (hd : (x == ("__debug__" : Str)) = false := by decide) : DE X B (.Name x pos) (dC (.ty T)) :=
  de_const (pe_bltn (v := .ty T) hg hm hv rfl hn hd) fun _ _ => by simp [RepV]
/-- an own class as a value -/
theorem de_cls {x : Str} {C : Addr} {pos : Pos} (hg : Gl X x) (hm : X.mg x = some (.ref C)) (hd : (x == ("__debug__" : Str)) = false := by decide) : DE X B (.Name x pos) (dC (.cls x)) :=
  de_const (pe_glob (v := .ref C) hg hm rfl hd) fun _ _ => by simp [RepV, hm]

section
variable {K : PySem.W.Frag} {mg : Str → Option Value} {M : Mp} {H : Hp}
theorem RepVs.one {d : D} {vs : List V} (r : RepVs K mg M H [d] vs) : ∃ v, vs = [v] ∧ RepV K mg M H d v := by
  unfold RepVs at r
  obtain ⟨v, vr, rfl, r1, r2⟩ := r
  unfold RepVs at r2
  subst r2
  exact ⟨v, rfl, r1⟩
theorem RepVs.two {d e : D} {vs : List V} (r : RepVs K mg M H [d, e] vs) : ∃ v w, vs = [v, w] ∧ RepV K mg M H d v ∧ RepV K mg M H e w := by
  unfold RepVs at r
  obtain ⟨v, vr, rfl, r1, r2⟩ := r
  obtain ⟨w, rfl, r3⟩ := RepVs.one r2
  exact ⟨v, w, rfl, r1, r3⟩
end
/-- the length -/
def gLen : DCall := fun ds M Q => match ds with
  | [.tup xs] => Q (.int xs.length) M
  | [.scr ns] => Q (.int ns.length) M
  | [.str z] => z.length ≤ sizeLine ∧ Q (.int z.length) M
  | [d] => match asL M d with
    | some xs => Q (.int xs.length) M
    | none => False
  | _ => False
theorem c_len : CallD X (.builtin "len") gLen := by
  refine ⟨_, call_len, ?_⟩
  intro M H ds vs R Q m r g q
  unfold gLen at g
  split at g
  · obtain ⟨v, rfl, r0⟩ := r.one
    have r := r0
    unfold RepV at r
    obtain ⟨a, ws, rfl, na, ha, ra⟩ := r
    exact ⟨_, ws.length, rfl, .inr ⟨ws, SqT.of ha, rfl⟩, q _ _ _ _ g .rfl' m (by rw [ra.length]; exact rInt)⟩
  · rename_i ns
    obtain ⟨v, rfl, r0⟩ := r.one
    have r := r0
    obtain ⟨a, rfl, ha⟩ := scr_at r
    exact ⟨_, ns.length, rfl, .inl ⟨_, ha, by simp⟩, q _ _ _ _ g .rfl' m rInt⟩
  · rename_i z
    obtain ⟨v, rfl, r0⟩ := r.one
    have r := r0
    unfold RepV at r
    subst r
    exact ⟨_, z.length, rfl, ⟨g.1, rfl⟩, q _ _ _ _ g.2 .rfl' m rInt⟩
  · rename_i d _ _ _
    obtain ⟨v, rfl, r0⟩ := r.one
    have r := r0
    split at g
    · rename_i xs e
      obtain ⟨a, ws, rfl, ha, ra⟩ := asL_at e m r
      exact ⟨_, ws.length, rfl, .inl ⟨ws, SqL.of ha, rfl⟩, q _ _ _ _ g .rfl' m (by rw [ra.length]; exact rInt)⟩
    · exact g.elim
  · exact g.elim
def gAbs : DCall := fun ds M Q => match ds with | [.int i] => Q (.int i.natAbs) M | _ => False
theorem c_abs : CallD X (.builtin "abs") gAbs := by
  refine ⟨_, call_abs, ?_⟩
  intro M H ds vs R Q m r g q
  unfold gAbs at g
  split at g
  · rename_i i
    obtain ⟨v, rfl, r0⟩ := r.one
    have r := r0
    unfold RepV at r
    subst r
    refine ⟨i, rfl, q _ _ _ _ g .rfl' m ?_⟩
    have e : ((i.natAbs : Nat) : Int) = if i < 0 then -i else i := by split <;> omega
    rw [e]; exact rInt
  · exact g.elim
def g2 (f : Int → Int → Int) : DCall := fun ds M Q => match ds with | [.int i, .int j] => Q (.int (f i j)) M | _ => False
theorem c_max (hc : X.calm = true) : CallD X (.builtin "max") (g2 max) := by
  refine ⟨_, call_max2 hc, ?_⟩
  intro M H ds vs R Q m r g q
  unfold g2 at g
  split at g
  · rename_i i j
    obtain ⟨v, w, rfl, r1, r2⟩ := r.two
    unfold RepV at r1 r2
    subst r1 r2
    refine ⟨i, j, rfl, q _ _ _ _ g .rfl' m ?_⟩
    have e : max i j = if j > i then j else i := by split <;> omega
    rw [e]; exact rInt
  · exact g.elim
theorem c_min (hc : X.calm = true) : CallD X (.builtin "min") (g2 min) := by
  refine ⟨_, call_min2 hc, ?_⟩
  intro M H ds vs R Q m r g q
  unfold g2 at g
  split at g
  · rename_i i j
    obtain ⟨v, w, rfl, r1, r2⟩ := r.two
    unfold RepV at r1 r2
    subst r1 r2
    refine ⟨i, j, rfl, q _ _ _ _ g .rfl' m ?_⟩
    have e : min i j = if j < i then j else i := by split <;> omega
    rw [e]; exact rInt
  · exact g.elim
def gInt : DCall := fun ds M Q => match ds with
  | [.int i] => Q (.int i) M
  | [.bl b] => Q (.int (if b then 1 else 0)) M
  | _ => False
theorem c_int : CallD X (.type "int") gInt := by
  refine ⟨_, call_int1, ?_⟩
  intro M H ds vs R Q m r g q
  unfold gInt at g
  split at g
  · rename_i i
    obtain ⟨v, rfl, r0⟩ := r.one
    have r := r0
    unfold RepV at r
    subst r
    exact .inl ⟨i, rfl, q _ _ _ _ g .rfl' m rInt⟩
  · rename_i b
    obtain ⟨v, rfl, r0⟩ := r.one
    have r := r0
    unfold RepV at r
    subst r
    exact .inr ⟨b, rfl, q _ _ _ _ g .rfl' m rInt⟩
  · exact g.elim
def gStr : DCall := fun ds M Q => match ds with
  | [.int i] => i.natAbs.log2 < 1920 ∧ Q (.str (toString i : String)) M
  | _ => False
theorem c_str : CallD X (.type "str") gStr := by
  refine ⟨_, call_str_int, ?_⟩
  intro M H ds vs R Q m r g q
  unfold gStr at g
  split at g
  · rename_i i
    obtain ⟨v, rfl, r0⟩ := r.one
    have r := r0
    unfold RepV at r
    subst r
    exact ⟨i, rfl, g.1, q _ _ _ _ g.2 .rfl' m rStr⟩
  · exact g.elim
def gDivmod : DCall := fun ds M Q => match ds with | [.int i, .int j] => (0 < j ∧ j < 1073741824) ∧ Q (.tup [.int (i / j), .int (i % j)]) M | _ => False
theorem c_divmod : CallD X (.builtin "divmod") gDivmod := by
  refine ⟨_, call_divmod, ?_⟩
  intro M H ds vs R Q m r g q
  unfold gDivmod at g
  split at g
  · rename_i i j
    obtain ⟨v, w, rfl, r1, r2⟩ := r.two
    unfold RepV at r1 r2
    subst r1 r2
    refine ⟨i, j, rfl, g.1, fun p n => ?_⟩
    refine Back.new q m g.2 n ?_
    unfold RepV
    exact ⟨p, _, rfl, m.free n, upd_same, .cons rInt (.cons rInt .nil)⟩
  · exact g.elim
/-- the name of the built-in type that a value is of -/
def D.tyn (M : Mp) : D → Option String
  | .non => some "NoneType"
  | .bl _ => some "bool"
  | .int _ => some "int"
  | .str _ => some "str"
  | .tup _ => some "tuple"
  | .lst _ => some "list"
  | .scr _ => some "list"
  | .ref a => match M a with
    | some (.lst _) => some "list"
    | _ => none
  | .dct => some "dict"
  | _ => none
theorem tyn_of {d : D} {v : V} {T : String} {M : Mp} {H : Hp} {K : PySem.W.Frag} {mg : Str → Option Value} (m : RepM K mg M H) (r : RepV K mg M H d v) (e : d.tyn M = some T) : TyX K H v (.type T) := by
  cases d with
  | non => unfold RepV at r; subst r; cases e; exact .base .non
  | bl b => unfold RepV at r; subst r; cases e; exact .base (.bl b)
  | int i => unfold RepV at r; subst r; cases e; exact .base (.int i)
  | str s => unfold RepV at r; subst r; cases e; exact .base (.str s)
  | tup xs =>
    unfold RepV at r
    obtain ⟨a, vs, rfl, _, h, _⟩ := r
    cases e
    exact .base (.tup h)
  | lst xs =>
    unfold RepV at r
    obtain ⟨a, vs, rfl, _, h, _⟩ := r
    cases e
    exact .base (.lst h)
  | scr ns =>
    unfold RepV at r
    obtain ⟨a, rfl, h⟩ := r
    cases e
    rcases h with ⟨_, h | ⟨o, h⟩⟩ | (h | ⟨_, h⟩) | ⟨o, its, n, h1, h2, _⟩
    · exact .base (.lst h)
    · exact .base (.frz h)
    · cases h
    · cases h
    · exact .kList h1 h2
  | ref a =>
    unfold RepV at r
    subst r
    simp only [D.tyn] at e
    split at e
    · rename_i ds q
      cases e
      obtain ⟨vs, h, _⟩ := m a _ q
      exact .base (.lst h)
    · cases e
  | dct =>
    unfold RepV at r
    obtain ⟨a, rfl, _, h⟩ := r
    cases e
    exact .base (.dK h)
  | _ => cases e
/-- isinstance(x, T), T a built-in type -/
def gIsTy : DCall := fun ds M Q => match ds with
  | [d, .ty T] => match (d.tyn M).bind fun a => kitB a T with
    | some b => Q (.bl b) M
    | none => False
  | _ => False
theorem c_isTy : CallD X (.builtin "isinstance") gIsTy := by
  refine ⟨_, call_isi, ?_⟩
  intro M H ds vs R Q m r g q
  unfold gIsTy at g
  split at g
  · rename_i d T
    obtain ⟨v, w, rfl, r1, r2⟩ := r.two
    unfold RepV at r2
    subst r2
    split at g
    · rename_i b e
      cases e1 : d.tyn M with
      | none => rw [e1] at e; cases e
      | some a =>
        rw [e1] at e
        exact ⟨v, _, _, _, b, rfl, .ty T, tyn_of m r1 e1, kit_ty e, q _ _ _ _ g .rfl' m rBl⟩
    · exact g.elim
  · exact g.elim
/-- tuple(list), tuple(tuple) -/
def gTuple : DCall := fun ds M Q => match ds with
  | [.tup xs] => Q (.tup xs) M
  | [d] => match asL M d with
    | some xs => Q (.tup xs) M
    | none => False
  | _ => False
theorem c_tuple : CallD X (.type "tuple") gTuple := by
  refine ⟨_, call_tuple_of, ?_⟩
  intro M H ds vs R Q m r g q
  unfold gTuple at g
  split at g
  · obtain ⟨v, rfl, r0⟩ := r.one
    have r := r0
    have r' := r
    unfold RepV at r
    obtain ⟨a, ws, rfl, na, ha, ra⟩ := r
    exact ⟨a, ws, rfl, .inr ⟨SqT.of ha, q _ _ _ _ g .rfl' m r'⟩⟩
  · obtain ⟨v, rfl, r0⟩ := r.one
    have r := r0
    split at g
    · rename_i xs e
      obtain ⟨a, ws, rfl, ha, ra⟩ := asL_at e m r
      refine ⟨a, ws, rfl, .inl ⟨SqL.of ha, fun l n => ?_⟩⟩
      refine Back.new q m g n ?_
      unfold RepV
      exact ⟨l, ws, rfl, m.free n, upd_same, RepVs.new m n ra⟩
    · exact g.elim
  · exact g.elim
/-- list(..) -/
def gList : DCall := fun ds M Q => match ds with
  | [.tup xs] => Q (.lst xs) M
  | [d] => match asL M d with
    | some xs => Q (.lst xs) M
    | none => False
  | _ => False
theorem c_list : CallD X (.type "list") gList := by
  refine ⟨_, call_list_of, ?_⟩
  intro M H ds vs R Q m r g q
  unfold gList at g
  split at g
  · obtain ⟨v, rfl, r0⟩ := r.one
    have r := r0
    unfold RepV at r
    obtain ⟨a, ws, rfl, na, ha, ra⟩ := r
    refine ⟨a, ws, rfl, .inr (SqT.of ha), fun l n => ?_⟩
    refine Back.new q m g n ?_
    unfold RepV
    exact ⟨l, ws, rfl, m.free n, upd_same, RepVs.new m n ra⟩
  · obtain ⟨v, rfl, r0⟩ := r.one
    have r := r0
    split at g
    · rename_i xs e
      obtain ⟨a, ws, rfl, ha, ra⟩ := asL_at e m r
      refine ⟨a, ws, rfl, .inl (SqL.of ha), fun l n => ?_⟩
      refine Back.new q m g n ?_
      unfold RepV
      exact ⟨l, ws, rfl, m.free n, upd_same, RepVs.new m n ra⟩
    · exact g.elim
  · exact g.elim
/-- bools, ints in a row -/
def bls? : List D → Option (List Bool)
  | [] => some []
  | .bl b :: r => (bls? r).map (b :: ·)
  | _ => none
def ints? : List D → Option (List Int)
  | [] => some []
  | .int b :: r => (ints? r).map (b :: ·)
  | _ => none
@[simp] theorem ints_map (ns : List Int) : ints? (ns.map D.int) = some ns := by
  induction ns with
  | nil => rfl
  | cons x xs ih => simp [ints?, ih]
@[simp] theorem bls_map (ns : List Bool) : bls? (ns.map D.bl) = some ns := by
  induction ns with
  | nil => rfl
  | cons x xs ih => simp [bls?, ih]
theorem ints_of : ∀ {ds : List D} {ns : List Int}, ints? ds = some ns → ds = ns.map D.int
  | [], ns, h => by cases h; rfl
  | d :: ds, ns, h => by
    cases d with
    | int i =>
      simp only [ints?, Option.map_eq_some_iff] at h
      obtain ⟨ms, e, rfl⟩ := h
      simp [ints_of e]
    | _ => simp [ints?] at h
theorem bls_of : ∀ {ds : List D} {ns : List Bool}, bls? ds = some ns → ds = ns.map D.bl
  | [], ns, h => by cases h; rfl
  | d :: ds, ns, h => by
    cases d with
    | bl i =>
      simp only [bls?, Option.map_eq_some_iff] at h
      obtain ⟨ms, e, rfl⟩ := h
      simp [bls_of e]
    | _ => simp [bls?] at h
theorem RepVs.of_ints {K : PySem.W.Frag} {mg : Str → Option Value} {M : Mp} {H : Hp} : ∀ {ns : List Int} {vs : List V}, RepVs K mg M H (ns.map D.int) vs → vs = ns.map V.int
  | [], vs, h => by simpa [RepVs] using h
  | n :: ns, vs, h => by
    have h : RepVs K mg M H (D.int n :: ns.map D.int) vs := h
    unfold RepVs at h
    obtain ⟨v, vr, rfl, r, rs⟩ := h
    unfold RepV at r
    subst r
    rw [RepVs.of_ints rs]
    rfl
theorem RepVs.of_bls {K : PySem.W.Frag} {mg : Str → Option Value} {M : Mp} {H : Hp} : ∀ {ns : List Bool} {vs : List V}, RepVs K mg M H (ns.map D.bl) vs → vs = ns.map V.bl
  | [], vs, h => by simpa [RepVs] using h
  | n :: ns, vs, h => by
    have h : RepVs K mg M H (D.bl n :: ns.map D.bl) vs := h
    unfold RepVs at h
    obtain ⟨v, vr, rfl, r, rs⟩ := h
    unfold RepV at r
    subst r
    rw [RepVs.of_bls rs]
    rfl
/-- a list of ints, however it stands -/
def asI (M : Mp) : D → Option (List Int)
  | .scr ns => some ns
  | d => (asL M d).bind ints?
theorem asI_at {K : PySem.W.Frag} {mg : Str → Option Value} {M : Mp} {H : Hp} {d : D} {ns : List Int} {v : V} (e : asI M d = some ns) (m : RepM K mg M H) (r : RepV K mg M H d v) : ∃ a, v = .ref a ∧ SqL K H a (ns.map V.int) := by
  have key : ∀ d, (asL M d).bind ints? = some ns → RepV K mg M H d v → ∃ a, v = .ref a ∧ SqL K H a (ns.map V.int) := fun d e r => by
    cases q : asL M d with
    | none => rw [q] at e; cases e
    | some xs =>
      rw [q] at e
      obtain ⟨a, vs, rfl, h, rs⟩ := asL_at q m r
      have e' := ints_of (show ints? xs = some ns from e)
      subst e'
      rw [RepVs.of_ints rs] at h
      exact ⟨a, rfl, SqL.of h⟩
  unfold asI at e
  split at e
  · cases e; exact scr_at r
  · exact key _ e r
def gSum : DCall := fun ds M Q => match ds with
  | [d] => match asI M d with
    | some ns => Q (.int ns.sum) M
    | none => False
  | _ => False
theorem c_sum (hc : X.calm = true) : CallD X (.builtin "sum") gSum := by
  refine ⟨_, cr_sum hc, ?_⟩
  intro M H ds vs R Q m r g q
  unfold gSum at g
  split at g
  · obtain ⟨v, rfl, r0⟩ := r.one
    have r := r0
    split at g
    · rename_i ns e
      obtain ⟨a, rfl, h⟩ := asI_at e m r
      exact ⟨a, ns, rfl, h, q _ _ _ _ g .rfl' m rInt⟩
    · exact g.elim
  · exact g.elim
def gAll : DCall := fun ds M Q => match ds with
  | [d] => match (asL M d).bind bls? with
    | some bs => Q (.bl (bs.all id)) M
    | none => False
  | _ => False
def gAny : DCall := fun ds M Q => match ds with
  | [d] => match (asL M d).bind bls? with
    | some bs => Q (.bl (bs.any id)) M
    | none => False
  | _ => False
theorem asB_at {K : PySem.W.Frag} {mg : Str → Option Value} {M : Mp} {H : Hp} {d : D} {bs : List Bool} {v : V} (e : (asL M d).bind bls? = some bs) (m : RepM K mg M H) (r : RepV K mg M H d v) : ∃ a, v = .ref a ∧ SqL K H a (bs.map V.bl) := by
  cases q : asL M d with
  | none => rw [q] at e; cases e
  | some xs =>
    rw [q] at e
    obtain ⟨a, vs, rfl, h, rs⟩ := asL_at q m r
    have e' := bls_of (show bls? xs = some bs from e)
    subst e'
    rw [RepVs.of_bls rs] at h
    exact ⟨a, rfl, SqL.of h⟩
theorem c_all (hc : X.calm = true) : CallD X (.builtin "all") gAll := by
  refine ⟨_, cr_all hc, ?_⟩
  intro M H ds vs R Q m r g q
  unfold gAll at g
  split at g
  · obtain ⟨v, rfl, r0⟩ := r.one
    have r := r0
    split at g
    · rename_i bs e
      obtain ⟨a, rfl, h⟩ := asB_at e m r
      exact ⟨a, bs, rfl, h, q _ _ _ _ g .rfl' m rBl⟩
    · exact g.elim
  · exact g.elim
theorem c_any (hc : X.calm = true) : CallD X (.builtin "any") gAny := by
  refine ⟨_, cr_any hc, ?_⟩
  intro M H ds vs R Q m r g q
  unfold gAny at g
  split at g
  · obtain ⟨v, rfl, r0⟩ := r.one
    have r := r0
    split at g
    · rename_i bs e
      obtain ⟨a, rfl, h⟩ := asB_at e m r
      exact ⟨a, bs, rfl, h, q _ _ _ _ g .rfl' m rBl⟩
    · exact g.elim
  · exact g.elim
/-- xs.append(e), xs a list that may change -/
def dAppend (to : TD) (t : TDs) : TD := fun ρ M Q => to ρ M fun o M1 => match o with
  | .ref a => (∃ ds, M1 a = some (.lst ds)) ∧ t ρ M1 fun es M2 => match es with
    | [d] => match M2 a with
      | some (.lst xs) => xs.length < sizeLine ∧ Q .non (um M2 a (.lst (xs ++ [d])))
      | _ => False
    | _ => False
  | _ => False
theorem de_append {o e : Expr} {es : List Expr} {to : TD} {t : TDs} {apos cpos : Pos} (ho : DE X B o to) (ha : DA X B (e :: es) t)
    (hbase : attributeBase o "append" X.env (eval o X.env) = eval o X.env := by rfl)
    (hfew : ((backTo cpos (starEach (e :: es) X.env)).all (fun x => !x.1) && (backToKw cpos (keywordEach [] X.env)).all (fun x => x.1.isSome)
      && decide ((e :: es).length + ([] : List Keyword).length + (if ([] : List Keyword).isEmpty then 0 else 1) < 30)) = true := by rfl)
    (hline : (apos.endLine == cpos.line) = true := by rfl) (hs : starEach (e :: es) X.env = (false, eval e X.env) :: starEach es X.env := by rfl) (hplain : (backTo cpos (starEach es X.env)).any (·.1) = false := by rfl) :
    DE X B (.Call (.Attribute o "append" apos) (e :: es) [] cpos) (dAppend to t) := by
  refine PE.imp (pe_bm PySem.F.plainAttrs_list PySem.F.slot_list_append PySem.F.type_list_append mt_append ho ha hbase hfew hline hs hplain) fun σ H Q h => ?_
  obtain ⟨ρ, M, R, hh, h, q⟩ := h
  refine ⟨ρ, M, _, hh, h, fun o M1 v H1 h1 k1 m1 r1 => ?_⟩
  split at h1
  · rename_i a
    unfold RepV at r1
    subst r1
    obtain ⟨⟨ds, e1⟩, h1⟩ := h1
    obtain ⟨vs, ha, _⟩ := m1 a _ e1
    refine ⟨.inl ⟨rfl, _, SqL.of ha⟩, ρ, M1, _, hh.step k1 m1, h1, fun es M2 ws H2 h2 k2 m2 r2 => ?_⟩
    split at h2
    · rename_i d
      obtain ⟨w, rfl, r0⟩ := r2.one
      have r2 := r0
      cases e2 : M2 a with
      | none => rw [e2] at h2; exact h2.elim
      | some mo =>
        rw [e2] at h2
        cases mo with
        | ins c fs => exact h2.elim
        | lst xs =>
          obtain ⟨vs2, ha2, ra2⟩ := m2 a _ e2
          have kw : Keep M2 H2 (um M2 a (.lst (xs ++ [d]))) (upd H2 a (.lst (vs2 ++ [w]))) := Keep.write e2
          refine ⟨a, vs2, w, rfl, rfl, ha2, by rw [← ra2.length]; exact h2.1, ?_⟩
          exact q _ _ _ _ h2.2 ((k1.trans k2).trans kw) (m2.write e2 ⟨_, upd_same, RepVs.keep kw _ _ (ra2.append (.cons r2 .nil))⟩) rNon
    · exact h2.elim
  · exact h1.elim

/-! ### what is walked -/
/-- a tuple, a list -/
def itemsOf (M : Mp) : D → Option (List D)
  | .tup xs => some xs
  | .lst xs => some xs
  | .scr ns => some (ns.map D.int)
  | _ => none
def dItems (t : TD) : TDI := fun ρ M Q => t ρ M fun d M1 => match itemsOf M1 d with
  | some xs => Q xs M1
  | none => False
theorem serves_L {xs : List D} {vs : List V} {a : Addr} {M : Mp} {H : Hp} (h : ∀ M' H', Keep M H M' H' → SqL X.K H' a vs ∧ RepVs X.K X.mg M' H' xs vs) : Serves X xs (Itl X.K a) M H := fun M' H' k m i => by
  obtain ⟨h1, h2⟩ := h M' H' k
  refine ⟨fun hl => ⟨vs, h1, by rw [← h2.length]; exact hl⟩, fun d e => ?_⟩
  obtain ⟨v, e1, r⟩ := h2.get e
  refine ⟨⟨vs, v, h1, e1⟩, fun x H2 y => ?_⟩
  obtain ⟨rfl, y⟩ := y
  have := y vs h1
  rw [e1] at this
  cases this
  exact ⟨.rfl', m, r⟩
theorem serves_T {xs : List D} {vs : List V} {a : Addr} {M : Mp} {H : Hp} (h : ∀ M' H', Keep M H M' H' → SqT X.K H' a vs ∧ RepVs X.K X.mg M' H' xs vs) : Serves X xs (Itt X.K a) M H := fun M' H' k m i => by
  obtain ⟨h1, h2⟩ := h M' H' k
  refine ⟨fun hl => ⟨vs, h1, by rw [← h2.length]; exact hl⟩, fun d e => ?_⟩
  obtain ⟨v, e1, r⟩ := h2.get e
  refine ⟨⟨vs, v, h1, e1⟩, fun x H2 y => ?_⟩
  obtain ⟨rfl, y⟩ := y
  have := y vs h1
  rw [e1] at this
  cases this
  exact ⟨.rfl', m, r⟩
/-- walking a list or a tuple, by what it is -/
theorem pi_seq {tg l : Expr} {tl : TE} (hl : PE X l tl) : PI X tg l fun σ H R => tl σ H fun x H1 => ∃ a, x = .ref a ∧ (((∃ xs, SqL X.K H1 a xs) ∧ R (Itl X.K a) H1) ∨ ((∃ xs, SqT X.K H1 a xs) ∧ R (Itt X.K a) H1)) := by
  constructor
  intro pins s σ H R I h
  refine thn (hl.run pins s σ H _ I h) ?_
  rintro v s1 ⟨x, H1, I1, r1, a, e, q⟩
  subst e
  cases r1
  have fp : ∀ b ∈ [s1.heap.objs.size], FpOk X pins H1 b := fun b hb => by
    obtain rfl : b = s1.heap.objs.size := by simpa using hb
    exact I1.fpOk (Nat.le_refl _) (I1.hok.fresh (Nat.le_refl _))
  rcases q with ⟨⟨xs, hq⟩, q⟩ | ⟨⟨xs, hq⟩, q⟩
  · obtain ⟨its, rv, p, _⟩ := I1.list hq
    exact wpAny_pyIter_list p.isList ⟨_, [s1.heap.objs.size], _, _, H1, rfl, I1.kept (t' := s1.toks) fun _ _ e => Heap.get?_push_of_some _ e, turn_list a _, ⟨_, Heap.get?_push_size _ rfl, rfl, rfl⟩, fp, q⟩
  · obtain ⟨its, rv, p, _⟩ := I1.tuple hq
    exact wpAny_pyIter_tuple (show s1.heap.IsTuple a its.toArray from p) ⟨_, [s1.heap.objs.size], _, _, H1, rfl, I1.kept (t' := s1.toks) fun _ _ e => Heap.get?_push_of_some _ e, turn_tuple a _, ⟨_, Heap.get?_push_size _ rfl, rfl, rfl⟩, fp, q⟩
theorem di_items {tg l : Expr} {t : TD} (hl : DE X B l t) : DI X B tg l (dItems t) := by
  refine PI.imp (pi_seq hl) fun σ H T h => ?_
  obtain ⟨ρ, M, R, hh, h, q⟩ := h
  refine ⟨ρ, M, _, hh, h, fun d M1 v H1 h1 k1 m1 r1 => ?_⟩
  cases d with
  | tup xs =>
    have h1 : R xs M1 := h1
    have r1' := r1
    unfold RepV at r1
    obtain ⟨a, vs, rfl, na, ha, ra⟩ := r1
    refine ⟨a, rfl, .inr ⟨⟨vs, SqT.of ha⟩, q _ _ _ _ h1 k1 m1 (serves_T (vs := vs) fun M' H' k => ⟨SqT.of (k.k _ _ ha na).1, RepVs.keep k _ _ ra⟩)⟩⟩
  | lst xs =>
    have h1 : R xs M1 := h1
    unfold RepV at r1
    obtain ⟨a, vs, rfl, na, ha, ra⟩ := r1
    refine ⟨a, rfl, .inl ⟨⟨vs, SqL.of ha⟩, q _ _ _ _ h1 k1 m1 (serves_L (vs := vs) fun M' H' k => ⟨SqL.of (k.k _ _ ha na).1, RepVs.keep k _ _ ra⟩)⟩⟩
  | scr ns =>
    have h1 : R (ns.map D.int) M1 := h1
    have r1' := r1
    obtain ⟨a, rfl, ha⟩ := scr_at r1
    refine ⟨a, rfl, .inl ⟨⟨_, ha⟩, q _ _ _ _ h1 k1 m1 (serves_L (vs := ns.map V.int) fun M' H' k => ⟨?_, RepVs.ints ns⟩)⟩⟩
    obtain ⟨b, e, hb⟩ := scr_at (RepV.keep k _ _ r1')
    cases e
    exact hb
  | _ => exact h1.elim
theorem serves_R {lo : Int} {n : Nat} {M : Mp} {H : Hp} : Serves X ((List.range n).map fun i : Nat => D.int (lo + i)) (Itr lo n) M H := fun M' H' k m i => by
  refine ⟨fun hl => (by simpa using hl : n ≤ i), fun d e => ?_⟩
  have hi : i < n := by
    have := (List.getElem?_eq_some_iff.mp e).1
    simpa using this
  rw [List.getElem?_map, List.getElem?_range hi] at e
  cases e
  refine ⟨hi, fun x H2 y => ?_⟩
  obtain ⟨rfl, rfl⟩ := y
  exact ⟨.rfl', m, rInt⟩
/-- range -/
def rangeD (lo hi : Int) : List D := (List.range (hi - lo).toNat).map fun i : Nat => D.int (lo + i)
def dRange1 (t : TDs) : TDI := fun ρ M Q => t ρ M fun ds M1 => match ds with
  | [.int j] => (-(2 ^ 62) ≤ j ∧ j < 2 ^ 62) ∧ Q (rangeD 0 j) M1
  | _ => False
def dRange2 (t : TDs) : TDI := fun ρ M Q => t ρ M fun ds M1 => match ds with
  | [.int i, .int j] => (-(2 ^ 62) ≤ i ∧ i < 2 ^ 62 ∧ -(2 ^ 62) ≤ j ∧ j < 2 ^ 62) ∧ Q (rangeD i j) M1
  | _ => False
theorem di_range1 {tg a : Expr} {t : TDs} {p pos : Pos} (hg : Gl X "range") (hm : X.mg "range" = none) (ha : DA X B [a] t) (hs : starEach [a] X.env = [(false, eval a X.env)] := by rfl) :
    DI X B tg (.Call (.Name "range" p) [a] [] pos) (dRange1 t) := by
  refine PI.imp (pi_range1 hg hm ha hs) fun σ H T h => ?_
  obtain ⟨ρ, M, R, hh, h, q⟩ := h
  refine ⟨ρ, M, _, hh, h, fun ds M1 vs H1 h1 k1 m1 r1 => ?_⟩
  split at h1
  · rename_i j
    obtain ⟨v, rfl, r0⟩ := r1.one
    have r1 := r0
    unfold RepV at r1
    subst r1
    refine ⟨j, rfl, h1.1.1, h1.1.2, q _ _ _ _ h1.2 k1 m1 ?_⟩
    have := @serves_R X 0 j.toNat M1 H1
    simpa [rangeD] using this
  · exact h1.elim
theorem di_range2 {tg a b : Expr} {t : TDs} {p pos : Pos} (hg : Gl X "range") (hm : X.mg "range" = none) (ha : DA X B [a, b] t) (hs : starEach [a, b] X.env = [(false, eval a X.env), (false, eval b X.env)] := by rfl) (hs2 : starEach [b] X.env = [(false, eval b X.env)] := by rfl) :
    DI X B tg (.Call (.Name "range" p) [a, b] [] pos) (dRange2 t) := by
  refine PI.imp (pi_range2 hg hm ha hs hs2) fun σ H T h => ?_
  obtain ⟨ρ, M, R, hh, h, q⟩ := h
  refine ⟨ρ, M, _, hh, h, fun ds M1 vs H1 h1 k1 m1 r1 => ?_⟩
  split at h1
  · rename_i i j
    obtain ⟨v, w, rfl, ra, rb⟩ := r1.two
    unfold RepV at ra rb
    subst ra rb
    exact ⟨i, j, rfl, h1.1, q _ _ _ _ h1.2 k1 m1 serves_R⟩
  · exact h1.elim
end
end DL
/-! The D layer, part f: defs and their calls. -/
namespace DL
open PySem PySem.Spec L2

/-- an exception of an own class, its attributes -/
structure XD where
  c : Str
  fs : List (Str × D)
abbrev XE' := XD → Mp → Prop
/-- what a def promises: the arguments, what may change, the wanted end, the wanted exception -/
abbrev DSp := List D → Mp → DK → XE' → Prop
section
variable (K : PySem.W.Frag) (mg : Str → Option Value) (M : Mp) (H : Hp)
def RepX (x : XD) (cls : Value) (dd : Option Addr) : Prop := (∃ C, mg x.c = some (.ref C) ∧ cls = .ref C) ∧ (x.fs = [] ∨ ∃ d gs, dd = some d ∧ M d = none ∧ H d = some (.xd gs) ∧ RepF K mg M H x.fs gs)
end
theorem RepX.keep {K : PySem.W.Frag} {mg : Str → Option Value} {M M' : Mp} {H H' : Hp} (k : Keep M H M' H') {x : XD} {cls : Value} {dd : Option Addr} (h : RepX K mg M H x cls dd) : RepX K mg M' H' x cls dd := by
  obtain ⟨a, b⟩ := h
  refine ⟨a, ?_⟩
  rcases b with b | ⟨d, gs, e, n, hd, r⟩
  · exact .inl b
  · exact .inr ⟨d, gs, e, (k.k _ _ hd n).2, (k.k _ _ hd n).1, r.keep k⟩

/-- room for calls; nothing is being shown -/
structure Cy (A : Around) (k : Nat) : Prop where
  room : Room k A
  gd : A.guards = some []
theorem Cy.mono {A : Around} {j k : Nat} (c : Cy A k) (h : j ≤ k) : Cy A j := ⟨c.room.mono h, c.gd⟩
theorem guards_deeper {A : Around} (env : Env) (h : A.guards = some []) : (A.deeper env).guards = some [] := h
theorem Cy.deeper {A : Around} {k : Nat} (c : Cy A (k + 1)) (env : Env) : Cy (A.deeper env) k := ⟨c.room.deeper env, guards_deeper env c.gd⟩
theorem Cy.hu {A : Around} {k : Nat} (c : Cy A k) : A.units + 64 < cLine := c.room.units
section
variable (P : Program) (w : World) (K : PySem.W.Frag) (mg : Str → Option Value) (base : Heap)
/-- the ends of a call -/
def okQ (M : Mp) (H : Hp) (Q : DK) : VK := fun v H' => ∃ d M', Keep M H M' H' ∧ RepM K mg M' H' ∧ RepV K mg M' H' d v ∧ Q d M'
def okE (M : Mp) (H : Hp) (E : XE') : XK := fun cls dd H' => ∃ x M', Keep M H M' H' ∧ RepM K mg M' H' ∧ RepX K mg M' H' x cls dd ∧ H' = H' ∧ E x M'
structure DFn (k : Nat) (f : Addr) (fd : FuncData) (ps : List Str) (sp : DSp) : Prop where
  len : ∀ ds M Q E, sp ds M Q E → ds.length = ps.length
  run : ∀ (A : Around) (outer : List Env) (s : Shared) (H : Hp) (M : Mp) (args : Args) (us : List Value) (vs : List V) (ds : List D) (Q : DK) (E : XE'), Cy A k → Env0 P w K mg base A outer s H → BindsTo s fd args (ps.zip us) → Vals vs us →
    RepM K mg M H → RepVs K mg M H ds vs → sp ds M Q E → codeAny (model P w) A (.call (.ref f) args) (CR (L2.CX P w) outer P w H s (okQ K mg M H Q) (okE K mg M H E)) s
/-- a def of the module by its name -/
def GFn (k : Nat) (x : Str) (sp : DSp) : Prop := ∃ f fd ps, DFn P w K mg base k f fd ps sp ∧ mg x = some (.ref f) ∧ PySem.W.keepIn K (.ref f) = true ∧ Binds K fd ps []
end
section
variable {P : Program} {w : World} {K : PySem.W.Frag} {mg : Str → Option Value} {base : Heap}
theorem DFn.mono {j k : Nat} {f : Addr} {fd : FuncData} {ps : List Str} {sp : DSp} (F : DFn P w K mg base j f fd ps sp) (h : j ≤ k) : DFn P w K mg base k f fd ps sp :=
  ⟨F.len, fun A outer s H M args us vs ds Q E c => F.run A outer s H M args us vs ds Q E (c.mono h)⟩
theorem GFn.mono {j k : Nat} {x : Str} {sp : DSp} (F : GFn P w K mg base j x sp) (h : j ≤ k) : GFn P w K mg base k x sp := let ⟨f, fd, ps, a, b⟩ := F; ⟨f, fd, ps, a.mono h, b⟩
theorem DFn.imp {k : Nat} {f : Addr} {fd : FuncData} {ps : List Str} {sp sp' : DSp} (F : DFn P w K mg base k f fd ps sp) (h : ∀ ds M Q E, sp' ds M Q E → sp ds M Q E) : DFn P w K mg base k f fd ps sp' :=
  ⟨fun ds M Q E q => F.len _ _ _ _ (h _ _ _ _ q), fun A outer s H M args us vs ds Q E c e b v m r q => F.run A outer s H M args us vs ds Q E c e b v m r (h _ _ _ _ q)⟩
theorem GFn.imp {k : Nat} {x : Str} {sp sp' : DSp} (F : GFn P w K mg base k x sp) (h : ∀ ds M Q E, sp' ds M Q E → sp ds M Q E) : GFn P w K mg base k x sp' := let ⟨f, fd, ps, a, b⟩ := F; ⟨f, fd, ps, a.imp h, b⟩
end

section
variable {X : Cx} {B : At} {k : Nat}
/-- what is wished of an exception, at the names -/
abbrev DW' := XD → Rho → Mp → Prop
def noW : DW' := fun _ _ _ => False
def lftX (X : Cx) (B : At) (W : DW') : WX := fun cls dd σ H => ∃ ρ M x, Here X B ρ σ M H ∧ RepX X.K X.mg M H x cls dd ∧ W x ρ M
def DTk (X : Cx) (B : At) (W : DW') : Prop := Takes X (lftX X B W)
theorem tk_no : DTk X B noW := (takes0 (X := X)).imp fun c d σ H ⟨_, _, _, _, _, z⟩ => z.elim
/-- the callee runs -/
theorem run_dfn {f : Addr} {fd : FuncData} {ps : List Str} {sp : DSp} {W : DW'} {pins : List (Addr × Obj)} {σ : L2.St} {H : Hp} {s : Shared} {M : Mp} {ρ : Rho} {us : List Value} {vs : List V} {ds : List D} {R : DK} {Q : VK} {args : Args}
    (F : DFn X.prog X.w X.K X.mg X.base k f fd ps sp) (c : Cy X.A k) (tk : DTk X B W) (I : Inv X pins σ H s) (hh : Here X B ρ σ M H) (hb : BindsTo s fd args (ps.zip us)) (r : Vals vs us) (rs : RepVs X.K X.mg M H ds vs)
    (h : sp ds M R fun x M' => W x ρ M') (q : Back X M H R Q) : codeAny (model X.prog X.w) X.A (.call (.ref f) args) (fun r s' => match r with | .ok (.ret u) => EP X pins σ Q u s' | .ok _ => False | .error e => X.xe e s') s := by
  refine codeAny_mono (F.run X.A X.stack s H M args us vs ds R _ c I.env0 hb r hh.m rs h) fun r s' hq => ?_
  cases r with
  | error e =>
    refine tk e s' (XE.of_call (W := lftX X B W) I (fun cls dd H' he => ?_) hq)
    obtain ⟨x, M', k', m', rx, _, e'⟩ := he
    exact ⟨ρ, M', x, hh.step k' m', rx, e'⟩
  | ok fl =>
    cases fl with
    | ret u =>
      obtain ⟨v, H', I', rv, d, M', k', m', rd, h'⟩ := I.after hq
      exact ⟨v, H', I', rv, q d M' v H' h' k' m' rd⟩
    | next => exact False.elim hq
    | brk => exact False.elim hq
    | cont => exact False.elim hq
theorem wants_of {Q : Value → Shared → Prop} {E : Value → Shared → Prop} {X : Cx} {c : Code} {s : Shared} (h : codeAny (model X.prog X.w) X.A c (fun r s' => match r with | .ok (.ret u) => Q u s' | .ok _ => False | .error e => E e s') s) : True := trivial
def dCall (sp : DSp) (W : DW') (t : TDs) : TD := fun ρ M Q => t ρ M fun ds M1 => sp ds M1 Q fun x M2 => W x ρ M2
theorem run_call {f : Addr} {fd : FuncData} {ps : List Str} {sp : DSp} {W : DW'} {pins : List (Addr × Obj)} {σ : L2.St} {H : Hp} {s : Shared} {M : Mp} {ρ : Rho} {us : List Value} {vs : List V} {ds : List D} {R : DK} {Q : VK}
    (F : DFn X.prog X.w X.K X.mg X.base k f fd ps sp) (c : Cy X.A k) (tk : DTk X B W) (hb : Binds X.K fd ps []) (I : Inv X pins σ H s) (hh : Here X B ρ σ M H) (r : Vals vs us) (rs : RepVs X.K X.mg M H ds vs)
    (h : sp ds M R fun x M' => W x ρ M') (q : Back X M H R Q) : wpAny (model X.prog X.w) X.A (call (.ref f) us) (EP X pins σ Q) X.xe s := by
  have hl : (us ++ []).length = ps.length := by rw [List.append_nil, ← r.length, ← rs.length]; exact F.len _ _ _ _ h
  have hb' := hb s us I.kIn hl
  rw [List.append_nil] at hb'
  refine wpAny_call (codeAny_mono (run_dfn F c tk I hh hb' r rs h q) fun r s' hq => ?_)
  cases r with
  | error e => exact hq
  | ok fl => cases fl <;> exact hq
theorem de_call {x : Str} {sp : DSp} {W : DW'} {e : Expr} {es : List Expr} {t : TDs} {p pos : Pos} (G : GFn X.prog X.w X.K X.mg X.base k x sp) (c : Cy X.A k) (tk : DTk X B W) (hg : Gl X x) (ha : DA X B (e :: es) t)
    (hdb : (x == ("__debug__" : Str)) = false := by decide) (he : starEach (e :: es) X.env = (false, eval e X.env) :: starEach es X.env := by rfl) (hpl : (backTo pos (starEach es X.env)).any (·.1) = false := by rfl) :
    DE X B (.Call (.Name x p) (e :: es) [] pos) (dCall sp W t) := by
  obtain ⟨f, fd, ps, F, hm, hk, hb⟩ := G
  constructor
  intro pins s σ H Q I h
  obtain ⟨ρ, M, R, hh, h, q⟩ := h
  refine wpAny_Call_Name_kw (ld_glob I hg hm ?_ hdb)
  refine PySem.W.callWith_K (h₀ := X.base) I.ok.mod.kin hk (thn (ha.run pos pins s σ H (fun vs H1 => ∃ ds M1, Keep M H M1 H1 ∧ RepM X.K X.mg M1 H1 ∧ RepVs X.K X.mg M1 H1 ds vs ∧ sp ds M1 R fun x M2 => W x ρ M2) I
    ⟨ρ, M, _, hh, h, fun ds M1 vs H1 h1 k1 m1 r1 => ⟨ds, M1, k1, m1, r1, h1⟩⟩) fun us s1 hs => ?_) he hpl
  obtain ⟨vs, H1, I1, r, ds, M1, k1, m1, r1, h1⟩ := hs
  exact ⟨I1.kIn, run_call F c tk hb I1 (hh.step k1 m1) r r1 h1 fun d M2 v H2 h2 k2 m2 r2 => q d M2 v H2 h2 (k1.trans k2) m2 r2⟩
theorem de_call0 {x : Str} {sp : DSp} {W : DW'} {p pos : Pos} (G : GFn X.prog X.w X.K X.mg X.base k x sp) (c : Cy X.A k) (tk : DTk X B W) (hg : Gl X x)
    (hdb : (x == ("__debug__" : Str)) = false := by decide) : DE X B (.Call (.Name x p) [] [] pos) (dCall sp W dNil) := by
  obtain ⟨f, fd, ps, F, hm, hk, hb⟩ := G
  constructor
  intro pins s σ H Q I h
  obtain ⟨ρ, M, R, hh, h, q⟩ := h
  refine wpAny_Call_Name_kw (ld_glob I hg hm ?_ hdb)
  exact PySem.W.callWith_K0 I.kIn hk (run_call (us := []) F c tk hb I hh .nil .nil h q)
/-- f(a, .., k = b, ..) -/
def dCallK (sp : DSp) (g : List D → List D → List D) (W : DW') (t tk : TDs) : TD := fun ρ M Q => t ρ M fun ds M1 => tk ρ M1 fun es M2 => sp (g ds es) M2 Q fun x M3 => W x ρ M3
end

/-! ### a def's body keeps its promise -/
section
variable {P : Program} {w : World} {K : PySem.W.Frag} {mg : Str → Option Value} {base : Heap}
def startD (N : List Str) (ds : List D) : Rho := ds.map some ++ List.replicate (N.length - ds.length) none
/-- the wish of exceptions in a def's body -/
def fnW (E : XE') : DW' := fun x _ M => E x M
/-- the context of a def's body -/
abbrev cxD (P : Program) (w : World) (K : PySem.W.Frag) (mg : Str → Option Value) (base : Heap) (N : List Str) (qual : Str) (st : Stmt) (f : Addr) (cdv : Value) (A : Around) (outer : List Env) (s : Shared) (H : Hp) (M : Mp) (E : XE') : Cx :=
  cxOf (L2.CX P w) P w K mg base N qual (defScope st) f cdv A outer s H (okE K mg M H E)
theorem tk_fn {N : List Str} {qual : Str} {st : Stmt} {f : Addr} {cdv : Value} {A : Around} {outer : List Env} {s : Shared} {H : Hp} {M : Mp} {E : XE'} : DTk (cxD P w K mg base N qual st f cdv A outer s H M E) ⟨M, H⟩ (fnW E) := by
  refine Takes.imp (takes_of (E := okE K mg M H E) rfl rfl rfl rfl) fun c d σ H' z => ?_
  obtain ⟨ρ, M', x, hh, rx, e⟩ := z
  exact ⟨x, M', hh.k, hh.m, rx, rfl, e⟩
theorem startD_rep {N : List Str} {M : Mp} {H : Hp} {ds : List D} {vs : List V} (r : RepVs K mg M H ds vs) : RepS K mg M H (startD N ds) (L2.start N vs) := by
  unfold startD L2.start
  refine ⟨by simp [r.length], fun i d e => ?_⟩
  by_cases hi : i < ds.length
  · rw [List.getElem?_append_left (by simpa using hi), List.getElem?_map] at e
    cases q : ds[i]? with
    | none => rw [q] at e; cases e
    | some d' =>
      rw [q] at e
      cases e
      obtain ⟨v, e1, rv⟩ := r.get q
      refine ⟨v, ?_, rv⟩
      rw [List.getElem?_append_left (by rw [List.length_map, ← r.length]; exact hi), List.getElem?_map, e1]
      rfl
  · rw [List.getElem?_append_right (by simpa using hi), List.getElem?_replicate] at e
    split at e <;> cases e
theorem dfn_of {x qual : Str} {st : Stmt} {f : Addr} {fd : FuncData} {N ps : List Str} {k : Nat} {sp : DSp} (F : FunD K x qual (defArgs st) (defBody st) (defScope st) [] [] f fd) (S : FnScope N ps (defScope st)) (len : ∀ ds M Q E, sp ds M Q E → ds.length = ps.length)
    (body : ∀ (cdv : Value) (A : Around) (outer : List Env) (s : Shared) (H : Hp) (M : Mp) (ds : List D) (Q : DK) (E : XE'), Cy (A.deeper (PyProof.Rows.envOfC qual (defScope st) s.heap.objs.size f cdv)) k → sp ds M Q E →
      ∃ t, DSs (cxD P w K mg base N qual st f cdv A outer s H M E) ⟨M, H⟩ (defBody st) t ∧ t { nx := fun _ M' => Wk (Q .non) M', rt := fun d M' => Wk (Q d) M' } (startD N ds) M) : DFn P w K mg base (k + 1) f fd ps sp := by
  obtain ⟨oc, od, dV, kV, doc, pm, an, cdv, ct, osl, rfl, lk, hcd, _⟩ := F.ex
  refine ⟨len, fun A outer s H M args us vs ds Q E c e0 hb r m rd hsp => ?_⟩
  have hl : vs.length = ps.length := by rw [← rd.length]; exact len _ _ _ _ hsp
  have KX : K.In s.heap := e0.mod.kin.keeps fun b o e => (e0.bs b o e).1
  have lim : s.heap.NoLimit := e0.mod.nolimit.keeps fun b o e => (e0.bs b o e).1
  have hkd : ∀ y ∈ ps.zip us, (defScope st).names.lookup y.1 = some .local ∨ ((defScope st).names.lookup y.1 = some .cell ∧ ((cellsFrom (s.heap.objs.size + 1) (defScope st).names []).lookup y.1).isSome = true) := by
    rintro ⟨n, v⟩ hy
    exact (S.par n (List.of_mem_zip hy).1).imp id fun q => ⟨q, PySem.W.cellsFrom_some _ _ _ (.inl q)⟩
  refine codeAny_call_function c.room.depth (KX _ _ lk) rfl S.co S.gen rfl (PySem.W.codeRec_of KX hcd) (hb _ _ _ _ ?_)
  refine wpAny_newFunctionEnv_cells S.kind hkd ?_
  rintro env rfl s1 x
  refine ⟨lim.keeps x.toInCall.keep, codeAny_func ?_⟩
  obtain ⟨t, ht, hq⟩ := body cdv A outer s H M ds Q E (c.deeper _) hsp
  have I : Inv (cxD P w K mg base N qual st f cdv A outer s H M E) [] (L2.start N vs) H s1 := inv_start S c.room.hd e0 hl r x
  have hh : Here (cxD P w K mg base N qual st f cdv A outer s H M E) ⟨M, H⟩ (startD N ds) (L2.start N vs) M H := ⟨startD_rep rd, m, .rfl'⟩
  refine wpAny_mono (ht.run [] s1 (start N vs) H { nx := fun _ H' => okQ K mg M H Q .non H', rt := okQ K mg M H Q } I ⟨⟨M, H⟩, startD N ds, M, _, .rfl', hh, ⟨?_, ?_, ?_, ?_⟩, hq⟩) ?_ fun e s' hs => hs
  · exact fun ρ σ M' H' h q => let ⟨M0, l, q⟩ := q; ⟨.non, M0, h.k.less l, h.m.less l, rNon, q⟩
  · exact fun _ _ _ _ _ z => z.elim
  · exact fun _ _ _ _ _ z => z.elim
  · exact fun d v M' H' k' m' rv q => let ⟨M0, l, q⟩ := q; ⟨d, M0, k'.less l, m'.less l, rv.less l, q⟩
  · intro fl s' hs
    cases fl with
    | ret u =>
      obtain ⟨v, σ', H', J, rv, q⟩ := hs
      exact ⟨v, H', J.os, J.bare, J.base, J.hok, rv, q⟩
    | next =>
      obtain ⟨σ', H', J, q⟩ := hs
      exact ⟨.non, H', J.os, J.bare, J.base, J.hok, rfl, q⟩
    | brk => obtain ⟨_, _, _, q⟩ := hs; exact q.elim
    | cont => obtain ⟨_, _, _, q⟩ := hs; exact q.elim
end
end DL
/-! The D layer, part g: the law's end. -/
namespace DL
open PySem PySem.Spec L2

/-- the law's promise: over a script of so many ints it gives True -/
def spLaw : DSp := fun ds M Q _ => match ds with
  | [.scr ns] => ns.length ≤ 63 ∧ Q (.bl true) M
  | _ => False
abbrev FunP (K : PySem.W.Frag) (x qual : Str) (st : Stmt) (f : Addr) (fd : FuncData) : Prop := FunD K x qual (defArgs st) (defBody st) (defScope st) [] [] f fd
theorem fun_of {K : PySem.W.Frag} {x qual : Str} {st : Stmt} {f : Addr} {fd : FuncData} (F : FunP K x qual st f fd) : ∃ fd', fd' = fd ∧ (∃ (oc : Value) (od : Option Addr) (dV kV doc pm : Value) (an : Option Addr) (cdv ct : Value) (osl : Array (Option Value)),
    fd = PySem.W.fnOf x qual (defArgs st) (defBody st) (defScope st) dV kV doc pm an cdv ct ∧ K.lookup f = some ⟨oc, od, .func fd, osl⟩ ∧ PySem.W.codeIn K cdv qual = true) :=
  let ⟨oc, od, dV, kV, doc, pm, an, cdv, ct, osl, e, l, c, _⟩ := F.ex
  ⟨fd, rfl, oc, od, dV, kV, doc, pm, an, cdv, ct, osl, e, l, c⟩
theorem callerA_gd : callerA.guards = some [] := by first | rfl | decide

section
variable {P : Program} {w : World} {K : PySem.W.Frag} {mg mb : Str → Option Value} {k : Nat} {fa a : Addr} {fd : FuncData} {x : Str} {s1 : Shared} {vs : List Value} {ns : List Int}
/-- the law's call: nothing but the script may be told of -/
theorem law_core {H : Hp} (KX : K.In s1.heap) (hns : s1.heap.Ns mainGlobals mg) (hb : s1.heap.Ns builtinsNs mb) (hbb : ∀ x : Str, x ≠ "__name__" → mb x = bootBuiltins x) (hlim : s1.heap.NoLimit) (hg : s1.gens = #[])
    (hs : s1.heap.get? a = some { cls := .type "list", data := .seq vs.toArray }) (len : ns.length ≤ 63) (hr : Room k callerA)
    (F : ∀ base : Heap, K.In base → base.Ns mainGlobals mg → DFn P w K mg base k fa fd [x] spLaw) (bind : ∀ (s : Shared) (u : Value), BindsTo s fd ⟨[u], []⟩ [(x, u)])
    (hO : Only H) (hS : SqL K H a (ns.map V.int)) (hSd : RepV K mg (fun _ => none) H (.scr ns) (.ref a)) (hok : HOk P w H s1.heap) (hA : ∀ b, H b ≠ none → b = a) (hK : H a ≠ none → K.lookup a = none) :
    codeAny (model P w) callerA (.call (.ref fa) ⟨[.ref a], []⟩) (fun r s' => r = .ok (.ret (.bool true)) ∧ OldK s1.heap s'.heap ∧ s'.os = s1.os ∧ PyProof.Rows.AllBare s'.gens) s1 := by
  have dict_free : ∀ {b : Addr} {o : Obj} {es : Array DictEntry} {ep : Nat}, s1.heap.get? b = some o → o.data = .dict es ep → H b = none := by
    intro b o es ep e d
    rcases q : H b with _ | u
    · rfl
    · obtain rfl := hA b (by rw [q]; exact Option.some_ne_none u)
      rw [hs] at e
      injection e with e
      rw [← e] at d
      cases d
  have nsK : ∀ {b : Addr} {m : Str → Option Value}, s1.heap.Ns b m → (hidT s1.heap H).Ns b m := by
    rintro b m ⟨o, es, ep, e, d, r⟩
    exact ⟨o, es, ep, hidT_get e (dict_free e d), d, r⟩
  have kb : K.In (hidT s1.heap H) := by
    intro b o e
    refine hidT_get (KX b o e) ?_
    rcases q : H b with _ | u
    · rfl
    · have nb : H b ≠ none := by rw [q]; exact Option.some_ne_none u
      obtain rfl := hA b nb
      rw [hK nb] at e
      cases e
  have md : Mod K mg (hidT s1.heap H) := ⟨kb, nsK hns, ⟨mb, nsK hb, hbb⟩, let ⟨mc, h1, h2⟩ := hlim; ⟨mc, nsK h1, h2⟩⟩
  have none_mem : ∀ b : Addr, b ∉ frs ([] : List Env) := fun b z => by cases z
  have e0 : Env0 P w K mg (hidT s1.heap H) callerA [] s1 H := ⟨rfl, md, fun _ _ e => of_hidT e, Nat.le_of_eq (hidT_size _ _), trivial, fun b z => absurd z (none_mem b), hok, .of_eq hg⟩
  have m0 : RepM K mg (fun _ => none) H := fun b o e => by cases e
  refine codeAny_mono ((F _ kb (nsK hns)).run callerA [] s1 H (fun _ => none) ⟨[.ref a], []⟩ [.ref a] [.ref a] [.scr ns] (fun d _ => d = .bl true) (fun _ _ => False) ⟨hr, callerA_gd⟩ e0 (bind s1 (.ref a)) (.cons rfl .nil) m0 (.cons hSd .nil) ⟨len, rfl⟩) ?_
  intro r s' h
  rcases r with e | fl
  · obtain ⟨_, _, _, _, _, _, _, _, _, _, _, _, ⟨_, _, _, _, _, _, z⟩⟩ := h
    exact z.elim
  · cases fl with
    | next => exact False.elim h
    | brk => exact False.elim h
    | cont => exact False.elim h
    | ret u =>
      obtain ⟨v, H', os, bare, un, hok', r', d, M', _, _, rd, rfl⟩ := h
      unfold RepV at rd
      subst rd
      obtain rfl : u = Value.bool true := r'
      refine ⟨rfl, OldK.of_keep fun b o e => ?_, os, bare⟩
      rcases q : H b with _ | u
      · exact un.keep b o e q (none_mem b) (by simp)
      · rcases hO b with z | ⟨ob, xs, z⟩
        · rw [q] at z; cases z
        · obtain ⟨e1, _⟩ := hok b _ z
          obtain ⟨e2, _⟩ := hok' b _ (un.frzs b ob _ z)
          rw [e] at e1; cases e1
          exact e2
theorem law_run (KX : K.In s1.heap) (hns : s1.heap.Ns mainGlobals mg) (hb : s1.heap.Ns builtinsNs mb) (hbb : ∀ x : Str, x ≠ "__name__" → mb x = bootBuiltins x) (hlim : s1.heap.NoLimit) (hg : s1.gens = #[])
    (hs : s1.heap.get? a = some { cls := .type "list", data := .seq vs.toArray }) (hi : PyProof.Rows.IntsAre vs ns) (len : ns.length ≤ 63) (hr : Room k callerA)
    (F : ∀ base : Heap, K.In base → base.Ns mainGlobals mg → DFn P w K mg base k fa fd [x] spLaw) (bind : ∀ (s : Shared) (u : Value), BindsTo s fd ⟨[u], []⟩ [(x, u)]) :
    codeAny (model P w) callerA (.call (.ref fa) ⟨[.ref a], []⟩) (fun r s' => r = .ok (.ret (.bool true)) ∧ OldK s1.heap s'.heap ∧ s'.os = s1.os ∧ PyProof.Rows.AllBare s'.gens) s1 := by
  have rv := vals_ints hi
  have lenV := hi.length
  have hz : ns.length ≤ sizeLine := Nat.le_trans len (by decide)
  rcases hk : K.lookup a with _ | o
  · refine law_core (H := fun b => if b = a then some (.frz { cls := .type "list", data := .seq vs.toArray } (.lst (ns.map V.int))) else none) KX hns hb hbb hlim hg hs len hr F bind (fun b => ?_) (.inl (.inr ⟨_, if_pos rfl⟩)) ?_ (fun b u z => ?_) (fun b z => ?_) fun _ => hk
    · by_cases hb : b = a
      · exact .inr ⟨_, _, if_pos hb⟩
      · exact .inl (if_neg hb)
    · unfold RepV
      exact ⟨a, rfl, .inl ⟨rfl, .inr ⟨_, if_pos rfl⟩⟩⟩
    · by_cases hb : b = a
      · subst hb
        have z' := (if_pos rfl).symm.trans z
        cases z'
        exact ⟨hs, by rw [List.length_map]; exact hz, vs, _, rv, hs⟩
      · have z' := (if_neg hb).symm.trans z
        cases z'
    · by_cases hb : b = a
      · exact hb
      · exact absurd (if_neg hb) z
  · have e := KX a o hk
    rw [hs] at e
    cases e
    have hS : SqL K (fun _ => none) a (ns.map V.int) := .inr ⟨_, vs.toArray, _, hk, rfl, rfl, rfl, by rw [List.size_toArray, lenV]; exact hz, by simpa using rv⟩
    refine law_core (H := fun _ => none) KX hns hb hbb hlim hg hs len hr F bind (fun _ => .inl rfl) hS ?_ (fun b u z => by cases z) (fun b z => absurd rfl z) fun z => absurd rfl z
    unfold RepV
    exact ⟨a, rfl, .inr hS⟩
end
/-- the goal of the head, from the law's promise -/
theorem walk_D {l : PySem.W.OpenLaw} {k : Nat} {q : Program} {loose : List Str} {XP : (Str → Option Value) → Heap → Prop} {YP : World → Heap → Prop} {d : DefRec} {x : Str}
    (hn : l.most = some 63) (hdf : d.params.defaults = []) (hr : Room k callerA)
    (F : ∀ (w : World) (mg : Str → Option Value) (fa : Addr) (h : Heap), YP w h → h.Ns mainGlobals mg → mg d.name = some (.ref fa) →
      ∃ (K : PySem.W.Frag) (fd : FuncData), K.In h ∧ (∀ (s : Shared) (u : Value), BindsTo s fd ⟨[u], []⟩ [(x, u)]) ∧ ∀ base : Heap, K.In base → base.Ns mainGlobals mg → DFn l.prog w K mg base k fa fd [x] spLaw) :
    PySem.W.WalkO q loose XP YP l.row.toRowW d [] (fun f vs => PySem.call f vs) := by
  refine Att.attach_call hn hdf ?_
  intro w s0 s1 mg mb fa o pm cd doc a vs ns G Y ho hd hcd hmg hobj hints hlen hg
  obtain ⟨K, fd, KX, hb, hF⟩ := F w mg fa _ Y G.T.g hmg
  exact law_run KX G.T.g G.T.b G.T.builtins G.T.nolimit hg hobj hints hlen hr hF hb
end DL
/-! The D layer, part h: small rules, names of what is built in. -/
namespace DL
open PySem PySem.Spec L2
theorem b_len : bootBuiltins "len" = some (.builtin "len") := by first | exact PyProof.Rows.boot_len | exact PySem.boot_len | decide +kernel
theorem b_abs : bootBuiltins "abs" = some (.builtin "abs") := by first | exact PyProof.Rows.boot_abs | exact PySem.boot_abs | decide +kernel
theorem b_max : bootBuiltins "max" = some (.builtin "max") := by first | exact PyProof.Rows.boot_max | exact PySem.boot_max | decide +kernel
theorem b_min : bootBuiltins "min" = some (.builtin "min") := by first | exact PyProof.Rows.boot_min | exact PySem.boot_min | decide +kernel
theorem b_int : bootBuiltins "int" = some (.type "int") := by first | exact PyProof.Rows.boot_int | exact PySem.boot_int | decide +kernel
theorem b_bool : bootBuiltins "bool" = some (.type "bool") := by first | exact PyProof.Rows.boot_bool | exact PySem.boot_bool | decide +kernel
theorem b_str : bootBuiltins "str" = some (.type "str") := by first | exact PyProof.Rows.boot_str | exact PySem.boot_str | decide +kernel
theorem b_tuple : bootBuiltins "tuple" = some (.type "tuple") := by first | exact PyProof.Rows.boot_tuple | exact PySem.boot_tuple | decide +kernel
theorem b_list : bootBuiltins "list" = some (.type "list") := by first | exact PyProof.Rows.boot_list | exact PySem.boot_list | decide +kernel
theorem b_dict : bootBuiltins "dict" = some (.type "dict") := by first | exact PyProof.Rows.boot_dict | exact PySem.boot_dict | decide +kernel
theorem b_float : bootBuiltins "float" = some (.type "float") := by first | exact PyProof.Rows.boot_float | exact PySem.boot_float | decide +kernel
theorem b_divmod : bootBuiltins "divmod" = some (.builtin "divmod") := by first | exact PyProof.Rows.boot_divmod | exact PySem.boot_divmod | decide +kernel
theorem b_sum : bootBuiltins "sum" = some (.builtin "sum") := by first | exact PyProof.Rows.boot_sum | exact PySem.boot_sum | decide +kernel
theorem b_all : bootBuiltins "all" = some (.builtin "all") := by first | exact PyProof.Rows.boot_all | exact PySem.boot_all | decide +kernel
theorem b_any : bootBuiltins "any" = some (.builtin "any") := by first | exact PyProof.Rows.boot_any | exact PySem.boot_any | decide +kernel
theorem b_isinstance : bootBuiltins "isinstance" = some (.builtin "isinstance") := by first | exact PyProof.Rows.boot_isinstance | exact PySem.boot_isinstance | decide +kernel
theorem b_sorted : bootBuiltins "sorted" = some (.builtin "sorted") := by first | exact PyProof.Rows.boot_sorted | exact PySem.boot_sorted | decide +kernel
theorem b_repr : bootBuiltins "repr" = some (.builtin "repr") := by first | exact PyProof.Rows.boot_repr | exact PySem.boot_repr | decide +kernel
theorem Cy.hu65 {A : Around} {k : Nat} (c : Cy A k) : A.units + 65 < cLine := by have := c.room.un; omega
section
variable {X : Cx}
abbrev gPlus : DR2 := gI (fun _ _ => True) fun i j => .int (i + j)
theorem ia_add : PIp X .Add (rI0 fun i j => .int (i + j)) ∧ OpC X (rI0 fun i j => .int (i + j)) gPlus := ⟨iop_add, opI0 fun _ _ _ _ => rInt⟩
theorem ia_mul : PIp X .Mult (fun x y H Q => rI CMul (fun i j => .int (i * j)) x y H Q ∨ rI CMulW (fun i j => .int (i * j)) x y H Q) ∧
    OpC X (fun x y H Q => rI CMul (fun i j => .int (i * j)) x y H Q ∨ rI CMulW (fun i j => .int (i * j)) x y H Q) (gI mulOk fun i j => .int (i * j)) := by
  refine ⟨?_, ?_⟩
  · exact OpR.or iop_mul (L2.opI fun _ _ _ _ _ _ _ hc q => PyProof.Rows.imul_int q hc.ok)
  · intro M H d1 d2 v1 v2 R Q m r1 r2 g q
    unfold gI at g
    split at g
    · rename_i i j
      unfold RepV at r1 r2
      rcases g.1 with c | c
      · exact .inl ⟨i, j, r1, r2, c, q _ _ _ _ g.2 .rfl' m rInt⟩
      · exact .inr ⟨i, j, r1, r2, c, q _ _ _ _ g.2 .rfl' m rInt⟩
    · exact g.elim
theorem mt_sub {i : Nat} {k : D} : ∀ d ρ M (Q : Rho → Mp → Prop), dgSub (dV i) (dC k) d ρ M Q → ∃ ρ' M', Q ρ' M' := fun d ρ M Q h => by
  unfold dgSub dV dC at h
  split at h
  · dsimp only at h
    split at h
    · split at h
      · split at h
        · exact ⟨_, _, h⟩
        · exact h.elim
      · exact h.elim
    · exact h.elim
  · exact h.elim
end
end DL
/-! The D layer, part i: words for the readings. -/
namespace DL
open PySem PySem.Spec L2
theorem Wk.rfl' {P : Mp → Prop} {M : Mp} (h : P M) : Wk P M := ⟨M, MLe.rfl', h⟩
/-- a while, by what holds and a number that falls -/
theorem while_by {c : TDb} {t : TDS} {E : DEnds} {ρ : Rho} {M : Mp} (Inv : Rho → Mp → Prop) (μ : Rho → Mp → Nat) (h0 : Inv ρ M)
    (step : ∀ (ρ : Rho) (M : Mp) (P : Rho → Mp → Prop), Inv ρ M → (∀ ρ' M', Inv ρ' M' → μ ρ' M' < μ ρ M → P ρ' M') →
      c ρ M fun b M1 => (b = true → t { E with nx := fun ρ' M' => Wk (P ρ') M', ct := fun ρ' M' => Wk (P ρ') M', bk := E.nx } ρ M1) ∧ (b = false → E.nx ρ M1)) : dWhile c t E ρ M := by
  have key : ∀ (n : Nat) (ρ : Rho) (M : Mp), Inv ρ M → μ ρ M < n → dWhileN c t E n ρ M := by
    intro n
    induction n with
    | zero => intro ρ M _ h; omega
    | succ n ih =>
      intro ρ M hi hm
      exact step ρ M (fun ρ' M' => dWhileN c t E n ρ' M') hi fun ρ' M' hi' hm' => ih ρ' M' hi' (by omega)
  exact ⟨_, key _ ρ M h0 (Nat.lt_succ_self _)⟩
/-- .. the number told with what holds -/
theorem while_byN {c : TDb} {t : TDS} {E : DEnds} {ρ : Rho} {M : Mp} (Inv : Nat → Rho → Mp → Prop) (n : Nat) (h0 : Inv n ρ M)
    (step : ∀ (n : Nat) (ρ : Rho) (M : Mp) (P : Rho → Mp → Prop), Inv n ρ M → (∀ n' ρ' M', Inv n' ρ' M' → n' < n → P ρ' M') →
      c ρ M fun b M1 => (b = true → t { E with nx := fun ρ' M' => Wk (P ρ') M', ct := fun ρ' M' => Wk (P ρ') M', bk := E.nx } ρ M1) ∧ (b = false → E.nx ρ M1)) : dWhile c t E ρ M := by
  have key : ∀ (b : Nat) (n : Nat) (ρ : Rho) (M : Mp), Inv n ρ M → n < b → dWhileN c t E b ρ M := by
    intro b
    induction b with
    | zero => intro n ρ M _ h; omega
    | succ b ih =>
      intro n ρ M hi hm
      exact step n ρ M (fun ρ' M' => dWhileN c t E b ρ' M') hi fun n' ρ' M' hi' hm' => ih n' ρ' M' hi' (by omega)
  exact ⟨_, key _ n ρ M h0 (Nat.lt_succ_self _)⟩
/-- a for, by what holds behind so many turns -/
theorem for_by {g : TDG} {t : TDS} {E : DEnds} {items : List D} {ρ : Rho} {M : Mp} (Inv : Nat → Rho → Mp → Prop) (h0 : Inv 0 ρ M)
    (step : ∀ (i : Nat) (d : D) (ρ : Rho) (M : Mp) (P : Rho → Mp → Prop), items[i]? = some d → Inv i ρ M → (∀ ρ' M', Inv (i + 1) ρ' M' → P ρ' M') →
      g d ρ M fun ρ1 M1 => t { E with nx := fun ρ' M' => Wk (P ρ') M', ct := fun ρ' M' => Wk (P ρ') M', bk := E.nx } ρ1 M1)
    (hd : ∀ ρ M, Inv items.length ρ M → E.nx ρ M) : forL g t E items ρ M := by
  have key : ∀ (xs : List D) (i : Nat) (ρ : Rho) (M : Mp), items.drop i = xs → i ≤ items.length → Inv i ρ M → forL g t E xs ρ M := by
    intro xs
    induction xs with
    | nil =>
      intro i ρ M e hi h
      have : items.length ≤ i := List.drop_eq_nil_iff.mp e
      have : i = items.length := by omega
      subst this
      exact hd ρ M h
    | cons d xs ih =>
      intro i ρ M e hi h
      have hlt : i < items.length := by
        rcases Nat.lt_or_ge i items.length with q | q
        · exact q
        · rw [List.drop_of_length_le q] at e; cases e
      rw [List.drop_eq_getElem_cons hlt] at e
      injection e with e1 e2
      exact step i d ρ M (fun ρ' M' => forL g t E xs ρ' M') (by rw [List.getElem?_eq_getElem hlt, e1]) h fun ρ' M' h' => ih (i + 1) ρ' M' e2 hlt h'
  exact key items 0 ρ M rfl (Nat.zero_le _) h0
/-- a settled name: the list at the head of the map -/
theorem settle_at {i : Nat} {t : TDS} {E : DEnds} {ρ : Rho} {M : Mp} {a : Addr} {ds : List D} (h : ρ[i]? = some (some (.ref a))) (hn : M a = none)
    (k : t E (ρ.set i (some (.lst ds))) M) : dSettle i t E ρ (um M a (.lst ds)) := by
  unfold dSettle
  rw [h]
  simp only [um_same]
  rw [dm_um hn]
  exact k
theorem for_lst {i : Nat} {g : TDG} {t : TDS} {E : DEnds} {ρ : Rho} {M : Mp} {xs : List D} (h : ρ[i]? = some (some (.lst xs))) (k : forL g t E xs ρ M) :
    dFor (dItems (dV i)) g t E ρ M := by
  unfold dFor dItems dV
  rw [h]
  exact k
theorem settle_for {i : Nat} {g : TDG} {t u : TDS} {E : DEnds} {ρ ρ' : Rho} {M : Mp} {a : Addr} {ds : List D} (h : ρ[i]? = some (some (.ref a))) (hn : M a = none) (hr : ρ.set i (some (.lst ds)) = ρ')
    (k : forL g t { E with nx := u E } ds ρ' M) : dSettle i (dSeq (dFor (dItems (dV i)) g t) u) E ρ (um M a (.lst ds)) := by
  subst hr
  refine settle_at h hn (for_lst ?_ k)
  obtain ⟨h1, h2⟩ := List.getElem?_eq_some_iff.mp h
  simp [List.getElem?_set, h1]
theorem rangeD_get {lo hi : Int} {i : Nat} {d : D} (h : (rangeD lo hi)[i]? = some d) : d = .int (lo + i) ∧ (i : Int) < hi - lo := by
  unfold rangeD at h
  rw [List.getElem?_map] at h
  rcases Nat.lt_or_ge i (hi - lo).toNat with q | q
  · rw [List.getElem?_range q] at h
    cases h
    exact ⟨rfl, by omega⟩
  · rw [List.getElem?_eq_none (by rw [List.length_range]; exact q)] at h
    cases h
/-! ### plain data -/
@[simp] theorem pls_ints (n : Nat) (ns : List Int) : pls n (ns.map D.int) = true := by
  induction ns with
  | nil => simp [pls]
  | cons x xs ih => simp [pls, D.pl, ih]
theorem eqv_self {n : Nat} {d : D} (p : d.pl n = true) : D.eqv d d = true := SeqAt.eqv_refl _ (pl_shape n d p).1
theorem eqv_ints (ns ms : List Int) : PyData.eqvAll (pys (ns.map D.int)) (pys (ms.map D.int)) = decide (ns = ms) := by
  induction ns generalizing ms with
  | nil => cases ms <;> simp [pys, PyData.eqvAll]
  | cons x xs ih =>
    cases ms with
    | nil => simp [pys, PyData.eqvAll]
    | cons y ys =>
      simp only [List.map_cons, pys, D.py, PyData.eqvAll, PyData.eqv, ih]
      by_cases h : x = y <;> simp [h]
/-! ### places -/
theorem at0 {α : Type} (x : α) (xs : List α) : atI (x :: xs) 0 = some x := by
  have : atI (x :: xs) ((0 : Nat) : Int) = some x := atI_nat rfl
  simpa using this
theorem at1 {α : Type} (x y : α) (xs : List α) : atI (x :: y :: xs) 1 = some y := by
  have : atI (x :: y :: xs) ((1 : Nat) : Int) = some y := atI_nat rfl
  simpa using this
theorem at2 {α : Type} (x y z : α) (xs : List α) : atI (x :: y :: z :: xs) 2 = some z := by
  have : atI (x :: y :: z :: xs) ((2 : Nat) : Int) = some z := atI_nat rfl
  simpa using this
theorem at3 {α : Type} (x y z w : α) (xs : List α) : atI (x :: y :: z :: w :: xs) 3 = some w := by
  have : atI (x :: y :: z :: w :: xs) ((3 : Nat) : Int) = some w := atI_nat rfl
  simpa using this
theorem ix0 (n : Nat) : ixN (n + 1) 0 = some 0 := by unfold ixN; simp
theorem ix1 (n : Nat) : ixN (n + 1 + 1) 1 = some 1 := by unfold ixN; simp; omega
theorem ix2 (n : Nat) : ixN (n + 1 + 1 + 1) 2 = some 2 := by unfold ixN; simp; omega
/-! ### slices -/
theorem cutL_last {α : Type} (xs : List α) : cutL xs none (some (-1)) = xs.dropLast := by
  have e : HT.sIx xs.length xs.length (some (-1)) = xs.length - 1 := by
    unfold HT.sIx
    simp only [Option.elim]
    try simp
    omega
  unfold cutL
  rw [e, HT.sIx_none, List.drop_zero, Nat.sub_zero, List.dropLast_eq_take]
theorem cutL_from {α : Type} (xs : List α) (k : Nat) : cutL xs (some (k : Int)) none = xs.drop k := by
  unfold cutL
  rw [HT.sIx_nat, HT.sIx_none]
  rcases Nat.le_total k xs.length with h | h
  · rw [Nat.min_eq_left h]
    apply List.take_of_length_le
    rw [List.length_drop]
    exact Nat.le_refl _
  · rw [Nat.min_eq_right h, Nat.sub_self, List.drop_of_length_le h]
    simp
theorem cutL_to {α : Type} (xs : List α) (k : Nat) : cutL xs none (some (k : Int)) = xs.take k := by
  unfold cutL
  rw [HT.sIx_nat, HT.sIx_none, List.drop_zero, Nat.sub_zero]
  rcases Nat.le_total k xs.length with h | h
  · rw [Nat.min_eq_left h]
  · rw [Nat.min_eq_right h, List.take_of_length_le h, List.take_of_length_le (Nat.le_refl _)]
/-! ### answers of isinstance -/
theorem kb_ii : kitB "int" "int" = some true := by decide +kernel
theorem kb_bi : kitB "bool" "int" = some true := by decide +kernel
theorem kb_ni : kitB "NoneType" "int" = some false := by decide +kernel
theorem kb_si : kitB "str" "int" = some false := by decide +kernel
theorem kb_ti : kitB "tuple" "int" = some false := by decide +kernel
theorem kb_li : kitB "list" "int" = some false := by decide +kernel
theorem kb_ib : kitB "int" "bool" = some false := by decide +kernel
theorem kb_bb : kitB "bool" "bool" = some true := by decide +kernel
theorem kb_nb : kitB "NoneType" "bool" = some false := by decide +kernel
theorem kb_sb : kitB "str" "bool" = some false := by decide +kernel
theorem kb_tb : kitB "tuple" "bool" = some false := by decide +kernel
theorem kb_lb : kitB "list" "bool" = some false := by decide +kernel
theorem kb_is : kitB "int" "str" = some false := by decide +kernel
theorem kb_bs : kitB "bool" "str" = some false := by decide +kernel
theorem kb_ns : kitB "NoneType" "str" = some false := by decide +kernel
theorem kb_ss : kitB "str" "str" = some true := by decide +kernel
theorem kb_ts : kitB "tuple" "str" = some false := by decide +kernel
theorem kb_ls : kitB "list" "str" = some false := by decide +kernel
theorem kb_it : kitB "int" "tuple" = some false := by decide +kernel
theorem kb_bt : kitB "bool" "tuple" = some false := by decide +kernel
theorem kb_nt : kitB "NoneType" "tuple" = some false := by decide +kernel
theorem kb_st : kitB "str" "tuple" = some false := by decide +kernel
theorem kb_tt : kitB "tuple" "tuple" = some true := by decide +kernel
theorem kb_lt : kitB "list" "tuple" = some false := by decide +kernel
end DL
/-! The D layer, part j: the head's facts, with classes. -/
namespace DL
open PySem PySem.Spec L2
/-- where a def stands: a global, a class's function, a property's getter, a classmethod's function -/
inductive Wh where
  | glo (x : Str) | fn (c m : Str) | get (c m : Str) | cm (c m : Str)
def gAd (K : PySem.W.Frag) (c f : Str) : Addr := match PySem.W.recIn K (He.ma K (He.ga K c) f) "property" with
  | some (.ref g :: _) => g
  | _ => 0
def cAd (K : PySem.W.Frag) (c f : Str) : Addr := match PySem.W.recIn K (He.ma K (He.ga K c) f) "classmethod" with
  | some (.ref g :: _) => g
  | _ => 0
def Wh.at_ (K : PySem.W.Frag) : Wh → Addr
  | .glo x => He.ga K x
  | .fn c m => He.ma K (He.ga K c) m
  | .get c m => gAd K c m
  | .cm c m => cAd K c m
structure DefA where
  wh : Wh
  name : Str
  qual : Str
  params : Arguments
  body : List Stmt
  scope : Scope
def fnA (K : PySem.W.Frag) (a : Addr) : He.FnW := match K.lookup a with
  | some ⟨_, _, .func fd, _⟩ => some (fd.name, fd.qualname, fd.params, fd.body, fd.scope, fd.globals, fd.closure, fd.builtins)
  | _ => none
def DefA.val (d : DefA) : He.FnW := some (d.name, d.qual, d.params, .stmts d.body, d.scope, mainGlobals, [], builtinsNs)
def DefA.ok (K : PySem.W.Frag) (d : DefA) : Bool := PySem.W.keepIn K (.ref (d.wh.at_ K)) && (match K.lookup (d.wh.at_ K) with
  | some ⟨_, _, .func fd, _⟩ => PySem.W.codeIn K fd.code d.qual && (He.dflB K fd.defaults [] && He.kwdB K fd.kwdefaults [])
  | _ => false)
theorem DefA.funD {K : PySem.W.Frag} {d : DefA} (e : fnA K (d.wh.at_ K) = d.val) (c : d.ok K = true) : ∃ fd, FunD K d.name d.qual d.params d.body d.scope [] [] (d.wh.at_ K) fd := by
  obtain ⟨kp, c2⟩ := He.ba c
  unfold fnA at e
  cases q : K.lookup (d.wh.at_ K) with
  | none =>
    rw [q] at c2
    cases c2
  | some o =>
    obtain ⟨oc, od, dt, osl⟩ := o
    rw [q] at c2 e
    cases dt with
    | func fd =>
      obtain ⟨n1, n2, n3, n4, n5, n6, n7, n8, n9, n10, n11, n12, n13, n14, n15⟩ := fd
      have e2 : (some (n1, n2, n3, n4, n5, n6, n7, n15) : He.FnW) = some (d.name, d.qual, d.params, .stmts d.body, d.scope, mainGlobals, [], builtinsNs) := e
      simp only [Option.some.injEq, Prod.mk.injEq] at e2
      obtain ⟨h1, h2, h3, h4, h5, h6, h7, h8⟩ := e2
      subst h1 h2 h3 h4 h5 h6 h7 h8
      have c3 : (PySem.W.codeIn K n13 d.qual && (He.dflB K n8 [] && He.kwdB K n9 [])) = true := c2
      obtain ⟨k1, k2⟩ := He.ba c3
      obtain ⟨k3, k4⟩ := He.ba k2
      exact ⟨_, ⟨oc, od, n8, n9, n10, n11, n12, n13, n14, osl, rfl, q, k1, He.dflB_ok k3, He.kwdB_ok k4⟩, kp⟩
    | _ => cases c2
/-- a class: a global's, a built-in one -/
inductive Ck where
  | own (c : Str) | ty (n : String)
def Ck.v (K : PySem.W.Frag) : Ck → Value
  | .own c => .ref (He.ga K c)
  | .ty n => .type n
inductive Fx where
  | fa (f : He.Fa)
  | prop (c f : Str)
  | kit (a b : Ck) (r : Bool)
  | ins (c : Str)
def Fx.ok (K : PySem.W.Frag) : Fx → Bool
  | .fa f => f.ok K
  | .prop c f => He.eqO (PySem.W.findIn K (.ref (He.ga K c)) f) (some (some (.ref (He.ma K (He.ga K c) f)))) &&
      (He.eqO (PySem.W.specialIn K (.ref (He.ma K (He.ga K c) f)) "__get__") (some (some (.builtin "property.__get__"))) &&
      (decide (PySem.W.takesIn K (.ref (He.ma K (He.ga K c) f)) = some true) &&
      (match PySem.W.recIn K (He.ma K (He.ga K c) f) "property" with
        | some (.ref _ :: _) => true
        | _ => false)))
  | .ins c => (He.Fa.cls c).ok K && (He.eqO (PySem.W.findIn K (.ref (He.ga K c)) "__class__") (some (some (.builtin "object.__class__"))) &&
      (He.eqO (PySem.W.specialIn K (.builtin "object.__class__") "__get__") (some (some (.builtin "getset_descriptor.__get__"))) &&
      (decide (PySem.W.takesIn K (.builtin "object.__class__") = some true) && decide (PySem.W.mroIn K (He.ga K c) (.type "object") = some true))))
  | .kit a b r => decide (PySem.W.kitOne K (a.v K) (b.v K) = some r)
/-- of instances' class as isinstance asks it -/
structure InsK (K : PySem.W.Frag) (C : Addr) : Prop where
  cl : Cls K C
  ha : PySem.W.findIn K (.ref C) "__class__" = some (some (.builtin "object.__class__"))
  hn : PySem.W.specialIn K (.builtin "object.__class__") "__get__" = some (some (.builtin "getset_descriptor.__get__"))
  htk : PySem.W.takesIn K (.builtin "object.__class__") = some true
  hm : PySem.W.mroIn K C (.type "object") = some true
theorem ins_ok {K : PySem.W.Frag} {c : Str} (q : (Fx.ins c).ok K = true) : InsK K (He.ga K c) := by
  obtain ⟨c1, q⟩ := He.ba q
  obtain ⟨c2, q⟩ := He.ba q
  obtain ⟨c3, q⟩ := He.ba q
  obtain ⟨c4, c5⟩ := He.ba q
  exact ⟨He.cls_ok c1, He.eqO_ok c2, He.eqO_ok c3, of_decide_eq_true c4, of_decide_eq_true c5⟩
theorem fa_ok {K : PySem.W.Frag} {f : He.Fa} (c : (Fx.fa f).ok K = true) : f.ok K = true := c
theorem prop_ok {K : PySem.W.Frag} {x f : Str} (c : (Fx.prop x f).ok K = true) : PropOf K (He.ga K x) f (He.ma K (He.ga K x) f) (gAd K x f) := by
  obtain ⟨c1, c⟩ := He.ba c
  obtain ⟨c2, c⟩ := He.ba c
  obtain ⟨c3, c4⟩ := He.ba c
  refine ⟨He.eqO_ok c1, He.eqO_ok c2, of_decide_eq_true c3, ?_⟩
  unfold gAd
  split at c4
  · rename_i g r e
    rw [e]
    exact ⟨r, rfl⟩
  · cases c4
theorem kit_ok {K : PySem.W.Frag} {a b : Ck} {r : Bool} (c : (Fx.kit a b r).ok K = true) : PySem.W.kitOne K (a.v K) (b.v K) = some r := of_decide_eq_true c
def obsA (fa : List Fx) (fn : List DefA) (K : PySem.W.Frag) : He.AlD := ((fa.all fun f => f.ok K) && fn.all fun d => d.ok K, fn.map fun d => fnA K (d.wh.at_ K))
def valA (fn : List DefA) : He.AlD := (true, fn.map DefA.val)
def SaysA (fa : List Fx) (fn : List DefA) (K : PySem.W.Frag) : Prop := obsA fa fn K = valA fn
def obsAG (n : Nat) (fa : List Fx) (fn : List DefA) (g : Addr → Option Obj) : He.AlD := obsA fa fn (He.frG g (He.asD g n))
def hookA (n : Nat) (fa : List Fx) (fn : List DefA) : PySem.W.Hook where
  α := He.AlD
  obs := fun s => obsAG n fa fn s.heap.get?
  val := fun _ => valA fn
  says := fun _ h => ∃ K : PySem.W.Frag, K.In h ∧ SaysA fa fn K
  of := fun _ _ e => ⟨_, He.frG_in, e⟩
  keeps := fun _ _ _ ⟨K, hK, c⟩ k => ⟨K, PySem.W.Frag.In.keeps hK k, c⟩
theorem obsAG_eq {n : Nat} {fa : List Fx} {fn : List DefA} {g : Addr → Option Obj} {s : Shared} (h : ∀ a, g a = s.heap.get? a) : obsAG n fa fn g = (hookA n fa fn).obs s := by
  have e : g = s.heap.get? := funext h
  rw [e] <;> rfl
section
variable {fa : List Fx} {fn : List DefA} {K : PySem.W.Frag}
theorem SaysA.fact (c : SaysA fa fn K) (i : Nat) {f : Fx} (h : fa[i]? = some f := by rfl) : f.ok K = true := by
  have c1 := (He.ba (show ((fa.all fun f => f.ok K) && fn.all fun d => d.ok K) = true from congrArg (fun z : He.AlD => z.1) c)).1
  exact List.all_eq_true.mp c1 f (List.mem_of_getElem? h)
theorem SaysA.def_ (c : SaysA fa fn K) (i : Nat) {d : DefA} (h : fn[i]? = some d := by rfl) : ∃ fd, FunD K d.name d.qual d.params d.body d.scope [] [] (d.wh.at_ K) fd := by
  have c2 := (He.ba (show ((fa.all fun f => f.ok K) && fn.all fun d => d.ok K) = true from congrArg (fun z : He.AlD => z.1) c)).2
  have e : fn.map (fun d => fnA K (d.wh.at_ K)) = fn.map DefA.val := congrArg (fun z : He.AlD => z.2) c
  have e2 : (fn.map fun d => fnA K (d.wh.at_ K))[i]? = (fn.map DefA.val)[i]? := by rw [e]
  rw [List.getElem?_map, List.getElem?_map, h] at e2
  exact DefA.funD (Option.some.inj e2) (List.all_eq_true.mp c2 d (List.mem_of_getElem? h))
end
end DL
/-! The D layer, part k: own classes. -/
namespace DL
open PySem PySem.Spec L2
/-! ### attributes as data -/
def fldOf (M : Mp) (c f : Str) : D → Option D
  | .inst c' fn xs => if c' = c then (fn.zip xs).lookup f else none
  | .ref a => match M a with
    | some (.ins c' fs) => if c' = c then fs.lookup f else none
    | _ => none
  | _ => none
def putD (f : Str) (v : D) : List (Str × D) → List (Str × D)
  | [] => [(f, v)]
  | (g, x) :: r => if g = f then (g, v) :: r else (g, x) :: putD f v r
section
variable {K : PySem.W.Frag} {mg : Str → Option Value} {M : Mp} {H : Hp}
theorem look_zip {f : Str} {x : D} : ∀ {gs : List (Str × V)} {ns : List Str} {xs : List D}, gs.map (·.1) = ns → RepVs K mg M H xs (gs.map (·.2)) → (ns.zip xs).lookup f = some x → ∃ w, gs.lookup f = some w ∧ RepV K mg M H x w
  | [], ns, xs, e, r, l => by subst e; simp at l
  | (g, v) :: gs, ns, xs, e, r, l => by
    subst e
    cases xs with
    | nil => simp at l
    | cons y ys =>
      simp only [List.map_cons] at r l
      unfold RepVs at r
      obtain ⟨v', vr, ev, rv, rs⟩ := r
      injection ev with e1 e2
      subst e1
      subst e2
      rw [List.zip_cons_cons, List.lookup_cons] at l
      rw [List.lookup_cons]
      cases q : f == g with
      | true => rw [q] at l; injection l with l; subst l; exact ⟨v, rfl, rv⟩
      | false => rw [q] at l; exact look_zip rfl rs l
theorem zip_maps : ∀ (fs : List (Str × D)), (fs.map (·.1)).zip (fs.map (·.2)) = fs
  | [] => rfl
  | (a, b) :: fs => by simp only [List.map_cons, List.zip_cons_cons, zip_maps fs]
theorem fld_rep (m : RepM K mg M H) {c f : Str} {d x : D} {v : V} (r : RepV K mg M H d v) (l : fldOf M c f d = some x) :
    ∃ a C dx fs w, v = .ref a ∧ H a = some (.ins C dx fs) ∧ mg c = some (.ref C) ∧ fs.lookup f = some w ∧ RepV K mg M H x w := by
  unfold fldOf at l
  split at l
  · rename_i c' fn xs
    split at l
    · rename_i e
      subst e
      unfold RepV at r
      obtain ⟨a, C, dx, fs, rfl, n, hc, ha, hf, rs⟩ := r
      obtain ⟨w, lw, rw'⟩ := look_zip hf rs l
      exact ⟨a, C, dx, fs, w, rfl, ha, hc, lw, rw'⟩
    · cases l
  · rename_i a
    unfold RepV at r
    subst r
    split at l
    · rename_i c' fs e
      split at l
      · rename_i e2
        subst e2
        obtain ⟨C, dx, gs, hc, ha, h1, h2⟩ := m a _ e
        obtain ⟨w, lw, rw'⟩ := look_zip h1 h2 (by rw [zip_maps]; exact l)
        exact ⟨a, C, dx, gs, w, rfl, ha, hc, lw, rw'⟩
      · cases l
    · cases l
  · cases l
theorem RepF.put {f : Str} {y : D} {v : V} (r : RepV K mg M H y v) : ∀ {fs : List (Str × D)} {gs : List (Str × V)}, RepF K mg M H fs gs → RepF K mg M H (putD f y fs) (putF f v gs)
  | [], [], h => ⟨rfl, .cons r .nil⟩
  | [], (g, x) :: gs, h => by have := h.1; simp at this
  | (g, x) :: fs, [], h => by have := h.1; simp at this
  | (g, x) :: fs, (g', x') :: gs, h => by
    obtain ⟨h1, h2⟩ := h
    simp only [List.map_cons, List.cons.injEq] at h1
    obtain ⟨rfl, h1⟩ := h1
    simp only [List.map_cons] at h2
    unfold RepVs at h2
    obtain ⟨w, vr, e, rw', rs⟩ := h2
    injection e with e1 e2
    subst e1
    subst e2
    unfold putD putF
    by_cases q : g' = f
    · rw [if_pos q, if_pos q]
      exact ⟨by simp only [List.map_cons, h1], .cons r rs⟩
    · rw [if_neg q, if_neg q]
      have ih := RepF.put (f := f) r (fs := fs) (gs := gs) ⟨h1, rs⟩
      exact ⟨by simp only [List.map_cons, ih.1], .cons rw' ih.2⟩
theorem repF_len {fs : List (Str × D)} {gs : List (Str × V)} (h : RepF K mg M H fs gs) : gs.length = fs.length := by
  have := congrArg List.length h.1
  simpa using this
end
/-- an own class by its name -/
def ClsN (K : PySem.W.Frag) (mg : Str → Option Value) (c : Str) : Prop := ∃ C, mg c = some (.ref C) ∧ InsK K C
def FldN (K : PySem.W.Frag) (mg : Str → Option Value) (c f : Str) : Prop := ∃ C, mg c = some (.ref C) ∧ Cls K C ∧ NoAttr K C f
section
variable {X : Cx} {B : At}
/-! ### e.f -/
def dFld (c f : Str) (t : TD) : TD := fun ρ M Q => t ρ M fun d M1 => match fldOf M1 c f d with
  | some x => Q x M1
  | none => False
theorem de_fld {c f : Str} {e : Expr} {t : TD} {pos : Pos} (hc : FldN X.K X.mg c f) (he : DE X B e t) (hb : attributeBase e f X.env (eval e X.env) = eval e X.env := by rfl) : DE X B (.Attribute e f pos) (dFld c f t) := by
  refine PE.imp (pe_fld he hb) fun σ H Q h => ?_
  obtain ⟨ρ, M, R, hh, h, q⟩ := h
  refine ⟨ρ, M, _, hh, h, fun d M1 v H1 h1 k1 m1 r1 => ?_⟩
  split at h1
  · rename_i x l
    obtain ⟨a, C, dx, fs, w, rfl, ha, hcc, lw, rw'⟩ := fld_rep m1 r1 l
    obtain ⟨C', hc', cl, na⟩ := hc
    rw [hcc] at hc'
    cases hc'
    exact ⟨a, C, dx, fs, w, rfl, ha, cl, na, lw, q x M1 w H1 h1 k1 m1 rw'⟩
  · exact h1.elim
/-! ### o.f = e -/
def dSetF (c f : Str) (t o : TD) : TDS := fun E ρ M => t ρ M fun y M1 => o ρ M1 fun x M2 => match x with
  | .ref a => (match M2 a with
    | some (.ins c' fs) => c' = c ∧ fs.length < 1000 ∧ E.nx ρ (um M2 a (.ins c (putD f y fs)))
    | _ => False)
  | _ => False
theorem ds_setF {c f : Str} {o e : Expr} {t to : TD} {pos pos' : Pos} (hc : FldN X.K X.mg c f) (he : DE X B e t) (ho : DE X B o to) (hs : swapsWith e (some (.Attribute o f pos')) pos.line X.env = pure false := by rfl) :
    DS X B (.Assign [.Attribute o f pos'] e pos) (dSetF c f t to) := by
  refine PS.imp (ps_fld ho he hs) fun D σ H h => ?_
  obtain ⟨C0, ρ, M, E, kb, hh, le, h⟩ := h
  have hh0 := hh.base kb
  refine ⟨ρ, M, _, hh0, h, fun y M1 v H1 h1 k1 m1 r1 => ?_⟩
  refine ⟨ρ, M1, _, hh0.step k1 m1, h1, fun x M2 v2 H2 h2 k2 m2 r2 => ?_⟩
  split at h2
  · rename_i a
    unfold RepV at r2
    subst r2
    split at h2
    · rename_i c' fs e2
      obtain ⟨rfl, hl, h2⟩ := h2
      obtain ⟨C, dx, gs, hcc, ha, hF⟩ := m2 a _ e2
      obtain ⟨C', hc', cl, na⟩ := hc
      rw [hcc] at hc'
      cases hc'
      refine ⟨a, C, dx, gs, rfl, ha, cl, na, by rw [repF_len hF]; exact hl, le.nx _ _ _ _ ?_ h2⟩
      have kw : Keep M2 H2 (um M2 a (.ins c' (putD f y fs))) (upd H2 a (.ins C dx (putF f v gs))) := Keep.write e2
      have r1' := RepV.keep (k2.trans kw) y v r1
      exact ((hh.step k1 m1).step k2 m2).step kw (m2.write e2 ⟨C, dx, _, hcc, by rw [upd_same], (hF.keep kw).put r1'⟩)
    · exact h2.elim
  · exact h2.elim
theorem Cy.in1 {A : Around} {k : Nat} (c : Cy A (k + 1)) : Cy A.in1 k := ⟨c.room.in1, c.gd⟩
theorem make_guards {A : Around} {C : Addr} {us : List Value} {kw : List (Str × Value)} (h : A.guards = some []) : (A.under (.builtin "type.__call__" ⟨.ref C :: us, kw⟩)).guards = some [] := by
  simp [Around.under, Code.guards, Code.isGuard, guardIds, pushGuards, h]
theorem Cy.make {A : Around} {k : Nat} (c : Cy A (k + 1)) (C : Addr) (us : List Value) (kw : List (Str × Value)) : Cy (A.under (.builtin "type.__call__" ⟨.ref C :: us, kw⟩)) k := ⟨c.room.make C us kw, make_guards c.gd⟩
/-! ### properties -/
/-- the class c has the property f, whose getter keeps sp -/
def GProp (P : Program) (w : World) (K : PySem.W.Frag) (mg : Str → Option Value) (base : Heap) (k : Nat) (c f : Str) (sp : DSp) : Prop :=
  ∃ C p g fd, mg c = some (.ref C) ∧ Cls K C ∧ PropOf K C f p g ∧ DFn P w K mg base k g fd ["self"] sp ∧ Binds K fd ["self"] []
/-- whether it is an instance of just the class -/
def isOf (M : Mp) (c : Str) : D → Prop
  | .inst c' _ _ => c' = c
  | .ref a => match M a with
    | some (.ins c' _) => c' = c
    | _ => False
  | _ => False
theorem isOf_rep {K : PySem.W.Frag} {mg : Str → Option Value} {M : Mp} {H : Hp} (m : RepM K mg M H) {c : Str} {d : D} {v : V} (r : RepV K mg M H d v) (l : isOf M c d) :
    ∃ a C dx fs, v = .ref a ∧ H a = some (.ins C dx fs) ∧ mg c = some (.ref C) := by
  unfold isOf at l
  split at l
  · subst l
    unfold RepV at r
    obtain ⟨a, C, dx, fs, rfl, n, hc, ha, hf, rs⟩ := r
    exact ⟨a, C, dx, fs, rfl, ha, hc⟩
  · rename_i a
    unfold RepV at r
    subst r
    split at l
    · rename_i c' fs e
      subst l
      obtain ⟨C, dx, gs, hc, ha, hF⟩ := m a _ e
      exact ⟨a, C, dx, gs, rfl, ha, hc⟩
    · exact l.elim
  · exact l.elim
def dProp (c : Str) (sp : DSp) (t : TD) : TD := fun ρ M Q => t ρ M fun d M1 => isOf M1 c d ∧ sp [d] M1 Q fun _ _ => False
theorem de_prop {k : Nat} {c f : Str} {sp : DSp} {e : Expr} {t : TD} {pos : Pos} (G : GProp X.prog X.w X.K X.mg X.base k c f sp) (cy : Cy X.A (k + 1)) (he : DE X B e t) (hab : attributeBase e f X.env (eval e X.env) = eval e X.env := by rfl) :
    DE X B (.Attribute e f pos) (dProp c sp t) := by
  obtain ⟨C, p, g, fd, hm, cl, hp, F, hb⟩ := G
  constructor
  intro pins s σ H Q I h
  obtain ⟨ρ, M, R, hh, h, q⟩ := h
  refine attr_of hab (thn (he.run pins s σ H (fun v H1 => ∃ d M1, Keep M H M1 H1 ∧ RepM X.K X.mg M1 H1 ∧ RepV X.K X.mg M1 H1 d v ∧ isOf M1 c d ∧ sp [d] M1 R fun _ _ => False) I
    ⟨ρ, M, _, hh, h, fun d M1 v H1 h1 k1 m1 r1 => ⟨d, M1, k1, m1, r1, h1⟩⟩) fun u s1 hs => ?_)
  obtain ⟨v, H1, I1, rv, d, M1, k1, m1, r1, hi, h1⟩ := hs
  obtain ⟨a, C', dx, fs, rfl, ea, hc'⟩ := isOf_rep m1 r1 hi
  rw [hm] at hc'
  cases hc'
  obtain rfl : u = Value.ref a := rv
  obtain ⟨mA, O, _, _, _, _⟩ := ins_get I1.hok ea
  obtain ⟨od, J, _⟩ := O.look
  obtain ⟨rest, hrec⟩ := hp.rec_
  have I2 := I1.tok (s1.toks + 1)
  have hcs : (PySem.W.clsIn X.K C).isSome = true := by
    obtain ⟨cd, hc, _⟩ := PySem.W.any_some cl.hd
    rw [hc]
    rfl
  refine PySem.W.get_bind I1.kIn J (PySem.W.plainGet_of (cl.get f)).1 (PySem.W.findObj_data hcs hp.at_ hp.get hp.tak) (PySem.W.plainGet_of (cl.get f)).2 (wpAny_call (PySem.W.prop_get (s := { s1 with toks := s1.toks + 1 }) I1.kIn hrec ?_))
  have hb' := hb { s1 with toks := s1.toks + 1 } [.ref a] I2.kIn rfl
  rw [List.append_nil] at hb'
  refine codeAny_mono (F.run X.A.in1 X.stack { s1 with toks := s1.toks + 1 } H1 M1 ⟨[.ref a], []⟩ [.ref a] [.ref a] [d] R _ cy.in1 I2.env0.in1 hb' (.cons rfl .nil) m1 (.cons r1 .nil) h1) fun r s' hq => ?_
  cases r with
  | error er =>
    exact False.elim ((tk_no (X := X.nox) (B := ⟨M1, H1⟩)) er s' (XE.of_call (W := lftX X.nox ⟨M1, H1⟩ noW) (I2.wish _) (fun cls dd H' he => by obtain ⟨x, M', _, _, _, _, z⟩ := he; exact z.elim) hq))
  | ok fl =>
    cases fl with
    | ret u =>
      obtain ⟨v, H', I3, rv, d', M', k', m', rd', q3⟩ := I2.after hq
      show wpAny _ _ (PySem.handedOut u) _ _ _
      rw [PySem.W.handedOut_of (handed_of rv)]
      exact wpAny_pure ⟨v, H', I3, rv, q d' M' v H' q3 (k1.trans k') m' rd'⟩
    | next => exact False.elim hq
    | brk => exact False.elim hq
    | cont => exact False.elim hq
/-! ### C(..) -/
/-- the class c is made by the def __init__ that keeps sp -/
def GMk (P : Program) (w : World) (K : PySem.W.Frag) (mg : Str → Option Value) (base : Heap) (k : Nat) (c : Str) (ps : List Str) (sp : DSp) : Prop :=
  ∃ C f fd, mg c = some (.ref C) ∧ Mk K C f ∧ DFn P w K mg base k f fd ps sp ∧ Binds K fd ps []
def mkQ (c : Str) (x : Addr) (Q : DK) : DK := fun r M2 => match r with
  | .non => (match M2 x with
    | some (.ins c' fs) => c' = c ∧ Q (.inst c (fs.map (·.1)) (fs.map (·.2))) (dm M2 x)
    | _ => False)
  | _ => False
def mkQM (x : Addr) (Q : DK) : DK := fun r M2 => match r with
  | .non => Q (.ref x) M2
  | _ => False
/-- the instance as it is behind __init__, settled -/
def dMake (c : Str) (sp : DSp) (W : DW') (t : TDs) : TD := fun ρ M Q => t ρ M fun ds M1 => ∀ x, M1 x = none → sp (.ref x :: ds) (um M1 x (.ins c [])) (mkQ c x Q) fun e M2 => W e ρ M2
/-- .. that may still change -/
def dMakeM (c : Str) (sp : DSp) (W : DW') (t : TDs) : TD := fun ρ M Q => t ρ M fun ds M1 => ∀ x, M1 x = none → sp (.ref x :: ds) (um M1 x (.ins c [])) (mkQM x Q) fun e M2 => W e ρ M2
theorem run_make {k : Nat} {c : Str} {ps : List Str} {sp : DSp} {W : DW'} {C f : Addr} {fd : FuncData} {pins : List (Addr × Obj)} {σ : L2.St} {H : Hp} {s : Shared} {M : Mp} {ρ : Rho} {us : List Value} {vs : List V} {ds : List D} {R : Addr → DK} {Q : VK}
    (hm : X.mg c = some (.ref C)) (Y : Mk X.K C f) (F : DFn X.prog X.w X.K X.mg X.base k f fd ps sp) (cy : Cy X.A (k + 1)) (tk : DTk X B W) (hb : Binds X.K fd ps []) (I : Inv X pins σ H s) (hh : Here X B ρ σ M H) (r : Vals vs us) (rs : RepVs X.K X.mg M H ds vs)
    (h : ∀ x, M x = none → sp (.ref x :: ds) (um M x (.ins c [])) (R x) fun e M2 => W e ρ M2)
    (q : ∀ x d M' H', M x = none → R x d M' → Keep M H M' H' → RepM X.K X.mg M' H' → d = .non ∧ Q (.ref x) H') :
    wpAny (model X.prog X.w) X.A (call (.ref C) us) (EP X pins σ Q) X.xe s := by
  have n1 : H (s.heap.objs.size + 1) = none := I.hok.fresh (Nat.le_succ _)
  have n0 : H s.heap.objs.size = none := I.hok.fresh (Nat.le_refl _)
  have ne : s.heap.objs.size ≠ s.heap.objs.size + 1 := Nat.ne_of_lt (Nat.lt_succ_self _)
  have n1' : upd H s.heap.objs.size (.own (s.heap.objs.size + 1)) (s.heap.objs.size + 1) = none := by rw [upd_ne (Ne.symm ne)]; exact n1
  have nM := hh.m.free n1
  have hq := h (s.heap.objs.size + 1) nM
  have k0 : Keep M H M (upd H s.heap.objs.size (.own (s.heap.objs.size + 1))) := Keep.new hh.m n0
  have m0 := hh.m.new (o := .own (s.heap.objs.size + 1)) n0
  have k1 : Keep M (upd H s.heap.objs.size (.own (s.heap.objs.size + 1))) (um M (s.heap.objs.size + 1) (.ins c [])) (upd (upd H s.heap.objs.size (.own (s.heap.objs.size + 1))) (s.heap.objs.size + 1) (.ins C s.heap.objs.size [])) := Keep.newM m0 n1'
  have m1 := m0.newM (o := .ins C s.heap.objs.size []) (u := .ins c []) n1' ⟨C, _, [], hm, (by rw [upd_same]), rfl, .nil⟩
  have kk := k0.trans k1
  have I2 := Inv.made (C := C) I
  have hl : (Value.ref (s.heap.objs.size + 1) :: us ++ []).length = ps.length := by
    rw [List.append_nil, ← F.len _ _ _ _ hq]
    show us.length + 1 = ds.length + 1
    rw [← r.length, ← rs.length]
  have hb' := hb _ (Value.ref (s.heap.objs.size + 1) :: us) I2.kIn hl
  rw [List.append_nil] at hb'
  refine wpAny_call (make_map (f := f) I.kIn Y.makes Y.init (beq_iff_eq.mp Y.fn) (codeAny_mono (F.run _ X.stack _ _ _ ⟨Value.ref (s.heap.objs.size + 1) :: us, []⟩ (Value.ref (s.heap.objs.size + 1) :: us) (.ref (s.heap.objs.size + 1) :: vs) (.ref (s.heap.objs.size + 1) :: ds) _ _ (cy.make C us [])
    (I2.env0.make C us []) hb' (.cons rfl r) m1 (.cons (by unfold RepV; rfl) (RepVs.keep kk _ _ rs)) hq) fun r s' hq' => ?_))
  cases r with
  | error e =>
    refine tk e s' (XE.of_call (W := lftX X B W) I2 (fun cls dd H' he => ?_) hq')
    obtain ⟨x, M', k', m', rx, _, e'⟩ := he
    exact ⟨ρ, M', x, (hh.step kk m1).step k' m', rx, e'⟩
  | ok fl =>
    cases fl with
    | ret u =>
      obtain ⟨v, H', I3, rv, d, M', k', m', rd, hR⟩ := I2.after hq'
      obtain ⟨ed, hQ⟩ := q _ d M' H' nM hR (kk.trans k') m'
      subst ed
      unfold RepV at rd
      subst rd
      exact ⟨rv, ⟨V.ref (s.heap.objs.size + 1), H', I3, rfl, hQ⟩⟩
    | next => exact False.elim hq'
    | brk => exact False.elim hq'
    | cont => exact False.elim hq'
theorem make_core {k : Nat} {c : Str} {ps : List Str} {sp : DSp} {W : DW'} {e : Expr} {es : List Expr} {t : TDs} {p pos : Pos} {F : Addr → DK → DK} {u : TD} (G : GMk X.prog X.w X.K X.mg X.base k c ps sp) (cy : Cy X.A (k + 1)) (tk : DTk X B W) (hg : Gl X c) (ha : DA X B (e :: es) t)
    (hF : ∀ (x : Addr) (R : DK) (Q : VK) (M : Mp) (H : Hp) (d : D) (M' : Mp) (H' : Hp), M x = none → F x R d M' → Keep M H M' H' → RepM X.K X.mg M' H' → Back X M H R Q → d = .non ∧ Q (.ref x) H')
    (hu : u = fun ρ M Q => t ρ M fun ds M1 => ∀ x, M1 x = none → sp (.ref x :: ds) (um M1 x (.ins c [])) (F x Q) fun e M2 => W e ρ M2)
    (hdb : (c == ("__debug__" : Str)) = false := by decide) (he : starEach (e :: es) X.env = (false, eval e X.env) :: starEach es X.env := by rfl) (hpl : (backTo pos (starEach es X.env)).any (·.1) = false := by rfl) :
    DE X B (.Call (.Name c p) (e :: es) [] pos) u := by
  subst hu
  obtain ⟨C, f, fd, hm, Y, F', hb⟩ := G
  constructor
  intro pins s σ H Q I h
  obtain ⟨ρ, M, R, hh, h, q⟩ := h
  refine wpAny_Call_Name_kw (ld_glob I hg hm ?_ hdb)
  refine PySem.W.callWith_K (h₀ := X.base) I.ok.mod.kin Y.kp (thn (ha.run pos pins s σ H (fun vs H1 => ∃ ds M1, Keep M H M1 H1 ∧ RepM X.K X.mg M1 H1 ∧ RepVs X.K X.mg M1 H1 ds vs ∧ ∀ x, M1 x = none → sp (.ref x :: ds) (um M1 x (.ins c [])) (F x R) fun e M2 => W e ρ M2) I
    ⟨ρ, M, _, hh, h, fun ds M1 vs H1 h1 k1 m1 r1 => ⟨ds, M1, k1, m1, r1, h1⟩⟩) fun us s1 hs => ?_) he hpl
  obtain ⟨vs, H1, I1, r, ds, M1, k1, m1, r1, h1⟩ := hs
  exact ⟨I1.kIn, run_make hm Y F' cy tk hb I1 (hh.step k1 m1) r r1 h1 fun x d M2 H2 n z k2 m2 => hF x R Q M1 H1 d M2 H2 n z k2 m2 fun d M3 v H3 a b c e => q d M3 v H3 a (k1.trans b) c e⟩
theorem de_make {k : Nat} {c : Str} {ps : List Str} {sp : DSp} {W : DW'} {e : Expr} {es : List Expr} {t : TDs} {p pos : Pos} (G : GMk X.prog X.w X.K X.mg X.base k c ps sp) (cy : Cy X.A (k + 1)) (tk : DTk X B W) (hg : Gl X c) (ha : DA X B (e :: es) t)
    (hdb : (c == ("__debug__" : Str)) = false := by decide) (he : starEach (e :: es) X.env = (false, eval e X.env) :: starEach es X.env := by rfl) (hpl : (backTo pos (starEach es X.env)).any (·.1) = false := by rfl) :
    DE X B (.Call (.Name c p) (e :: es) [] pos) (dMake c sp W t) := by
  refine make_core (F := mkQ c) G cy tk hg ha (fun x R Q M H d M' H' n z k m q => ?_) rfl hdb he hpl
  unfold mkQ at z
  split at z
  · split at z
    · rename_i c' fs e1
      obtain ⟨rfl, z⟩ := z
      refine ⟨rfl, ?_⟩
      obtain ⟨C, dx, gs, hc, ha, hF⟩ := m x _ e1
      have k' : Keep M H (dm M' x) H' := ⟨fun b o e n' => let ⟨y1, y2⟩ := k.k b o e n'; ⟨y1, by
        by_cases hb : b = x
        · subst hb; exact dm_same _ _
        · rw [dm_ne hb]; exact y2⟩⟩
      have l : MLe (dm M' x) M' := dm_le
      refine q _ _ _ _ z k' (m.less l) ?_
      unfold RepV
      exact ⟨x, C, dx, gs, rfl, dm_same _ _, hc, ha, hF.1, RepVs.keep (Keep.rfl'.less l) _ _ hF.2⟩
    · exact z.elim
  · exact z.elim
theorem de_makeM {k : Nat} {c : Str} {ps : List Str} {sp : DSp} {W : DW'} {e : Expr} {es : List Expr} {t : TDs} {p pos : Pos} (G : GMk X.prog X.w X.K X.mg X.base k c ps sp) (cy : Cy X.A (k + 1)) (tk : DTk X B W) (hg : Gl X c) (ha : DA X B (e :: es) t)
    (hdb : (c == ("__debug__" : Str)) = false := by decide) (he : starEach (e :: es) X.env = (false, eval e X.env) :: starEach es X.env := by rfl) (hpl : (backTo pos (starEach es X.env)).any (·.1) = false := by rfl) :
    DE X B (.Call (.Name c p) (e :: es) [] pos) (dMakeM c sp W t) := by
  refine make_core (F := mkQM) G cy tk hg ha (fun x R Q M H d M' H' n z k m q => ?_) rfl hdb he hpl
  unfold mkQM at z
  split at z
  · exact ⟨rfl, q _ _ _ _ z k m (by unfold RepV; rfl)⟩
  · exact z.elim
/-! ### isinstance(x, C) -/
def KitN (K : PySem.W.Frag) (mg : Str → Option Value) (c : Str) : Prop := ∃ C, mg c = some (.ref C) ∧ InsK K C ∧ ∀ n ∈ ["NoneType", "bool", "int", "str", "tuple", "list"], PySem.W.kitOne K (.type n) (.ref C) = some false
def gIsC (c : Str) : DCall := fun ds M Q => match ds with
  | [d, .cls c'] => c' = c ∧ (match d with
    | .inst c1 _ _ => c1 = c ∧ Q (.bl true) M
    | .ref a => (match M a with
      | some (.ins c1 _) => c1 = c ∧ Q (.bl true) M
      | some (.lst _) => Q (.bl false) M
      | none => False)
    | .cls _ => False
    | .ty _ => False
    | .dct => False
    | _ => Q (.bl false) M)
  | _ => False
theorem c_isC {c : Str} (G : KitN X.K X.mg c) : CallD X (.builtin "isinstance") (gIsC c) := by
  obtain ⟨C, hm, ik, hn⟩ := G
  have kitS : PySem.W.kitOne X.K (.ref C) (.ref C) = some true := by unfold PySem.W.kitOne; rw [if_pos (by simp)]
  refine ⟨_, call_isi, ?_⟩
  intro M H ds vs R Q m r g q
  unfold gIsC at g
  split at g
  · rename_i d c'
    obtain ⟨rfl, g⟩ := g
    obtain ⟨v, w, rfl, r1, r2⟩ := r.two
    unfold RepV at r2
    obtain ⟨C', rfl, hm'⟩ := r2
    rw [hm] at hm'
    cases hm'
    have pl : ∀ {T : String}, d.tyn M = some T → T ∈ ["NoneType", "bool", "int", "str", "tuple", "list"] → R (.bl false) M → rIsi X.K [v, .ref C] H Q := fun {T} e1 hT g => ⟨v, _, _, _, false, rfl, .own C, tyn_of m r1 e1, hn T hT, q _ _ _ _ g .rfl' m rBl⟩
    have ins : ∀ {a dx : Addr} {fs : List (Str × V)}, v = .ref a → H a = some (.ins C dx fs) → R (.bl true) M → rIsi X.K [v, .ref C] H Q := fun {a dx fs} e ha g => ⟨v, _, .ref C, _, true, rfl, .own C, by subst e; exact .base (.ins ha ik.cl ik.ha ik.hn ik.htk ik.hm), kitS, q _ _ _ _ g .rfl' m rBl⟩
    split at g
    · rename_i c1 fn xs
      obtain ⟨rfl, g⟩ := g
      obtain ⟨a, C1, dx, fs, e, ea, hc⟩ := isOf_rep m r1 (show isOf M c1 (.inst c1 fn xs) from rfl)
      rw [hm] at hc
      cases hc
      exact ins e ea g
    · rename_i a
      split at g
      · rename_i c1 fs e1
        obtain ⟨rfl, g⟩ := g
        obtain ⟨a', C1, dx, fs', e, ea, hc⟩ := isOf_rep m r1 (show isOf M c1 (.ref a) from by unfold isOf; simp only [e1])
        rw [hm] at hc
        cases hc
        exact ins e ea g
      · rename_i xs e1
        exact pl (T := "list") (by simp only [D.tyn, e1]) (by decide) g
      · exact g.elim
    · exact g.elim
    · exact g.elim
    · exact g.elim
    · rename_i h1 h2 h3 h4 h5
      cases d with
      | non => exact pl rfl (by decide) g
      | bl b => exact pl rfl (by decide) g
      | int b => exact pl rfl (by decide) g
      | str b => exact pl rfl (by decide) g
      | tup b => exact pl rfl (by decide) g
      | lst b => exact pl rfl (by decide) g
      | scr b => exact pl rfl (by decide) g
      | inst a b c => exact absurd rfl (h1 _ _ _)
      | ref a => exact absurd rfl (h2 _)
      | cls a => exact absurd rfl (h3 _)
      | ty a => exact absurd rfl (h4 _)
      | dct => exact absurd rfl h5
  · exact g.elim
end
end DL
/-! The D layer, part l: list comprehensions. -/
namespace DL
open PySem PySem.Spec L2
def wipeD (ρ : Rho) : List Nat → Rho
  | [] => ρ
  | v :: vs => (wipeD ρ vs).set v none
theorem RepS.clear {K : PySem.W.Frag} {mg : Str → Option Value} {M : Mp} {H : Hp} {ρ : Rho} {σ : L2.St} {i : Nat} (h : RepS K mg M H ρ σ) : RepS K mg M H (ρ.set i none) (σ.set i none) :=
  ⟨by simp [h.1], fun j e hj => by
    by_cases z : i = j
    · subst z
      by_cases hl : i < ρ.length
      · rw [List.getElem?_set_self hl] at hj; cases hj
      · rw [List.getElem?_eq_none (by simpa using hl)] at hj; cases hj
    · rw [List.getElem?_set_ne z] at hj
      obtain ⟨w, e1, r1⟩ := h.2 j e hj
      exact ⟨w, by rw [List.getElem?_set_ne z]; exact e1, r1⟩⟩
theorem wipe_rep {K : PySem.W.Frag} {mg : Str → Option Value} {M : Mp} {H : Hp} {ρ : Rho} {σ : L2.St} (h : RepS K mg M H ρ σ) : ∀ vs, RepS K mg M H (wipeD ρ vs) (wipe σ vs)
  | [] => h
  | v :: vs => by unfold wipeD wipe; exact (wipe_rep h vs).clear
theorem wipe_get (σ : L2.St) (vs : List Nat) (j : Nat) : (wipe σ vs)[j]? = if j ∈ vs then (σ[j]?).map (fun _ => none) else σ[j]? := by
  induction vs with
  | nil => simp [wipe]
  | cons v vs ih =>
    unfold wipe
    by_cases z : v = j
    · subst z
      rw [List.getElem?_set_self', ih]
      simp
      cases σ[v]? with
      | none => simp
      | some a => by_cases hv : v ∈ vs <;> simp [hv]
    · rw [List.getElem?_set_ne z, ih]
      have : ¬ j = v := fun e => z e.symm
      simp [this]
theorem wipe_set {σ : L2.St} {vs : List Nat} {i : Nat} {y : Option V} (hi : i ∈ vs) : wipe ((wipe σ vs).set i y) vs = wipe σ vs := by
  apply List.ext_getElem?
  intro j
  rw [wipe_get, wipe_get]
  by_cases hj : j ∈ vs
  · rw [if_pos hj, if_pos hj]
    by_cases z : i = j
    · subst z
      rw [List.getElem?_set_self', wipe_get, if_pos hj]
      cases σ[i]? <;> simp
    · rw [List.getElem?_set_ne z, wipe_get, if_pos hj]
      cases σ[j]? <;> simp
  · rw [if_neg hj, if_neg hj]
    have z : i ≠ j := fun e => hj (e ▸ hi)
    rw [List.getElem?_set_ne z, wipe_get, if_neg hj]
/-- the bare place -/
def At0 : At := ⟨fun _ => none, fun _ => none⟩
section
variable {X : Cx} {B : At}
def DTl (X : Cx) (B : At) (ifs : List Expr) (t : TDb) : Prop := PTs X ifs (lftT X B t)
def dYes : TDb := fun _ M Q => Q true M
theorem dtl_nil : DTl X B [] dYes := ⟨fun pins s σ H Q I h => by
  obtain ⟨ρ, M, R, hh, h, q⟩ := h
  exact (pts_nil (X := X)).run pins s σ H Q I (q true M H h .rfl' hh.m)⟩
theorem dtl_one {c : Expr} {t : TDb} (h : DT X B c t) : DTl X B [c] t := pts_one h
theorem PTs.imp {X : Cx} {e : List Expr} {t u : TT} (h : PTs X e t) (q : ∀ σ H Q, u σ H Q → t σ H Q) : PTs X e u := ⟨fun pins s σ H Q I z => h.run pins s σ H Q I (q _ _ _ z)⟩
def lcN (i : Nat) (tt : TDb) (te : TD) (p : Addr) (ρ0 : Rho) (Q : Mp → Prop) : List D → Mp → Prop
  | [], M => Q M
  | d :: ds, M => tt (ρ0.set i (some d)) M fun b M3 => (b = true → te (ρ0.set i (some d)) M3 fun y M4 => ∃ acc, M4 p = some (.lst acc) ∧ acc.length < sizeLine ∧ lcN i tt te p ρ0 Q ds (um M4 p (.lst (acc ++ [y])))) ∧ (b = false → lcN i tt te p ρ0 Q ds M3)
/-- [e for x in items if ..], settled; own: the slots of the block's own names, i: the target's -/
def dLC (own : List Nat) (i : Nat) (ti : TDI) (tt : TDb) (te : TD) : TD := fun ρ M Q => ti ρ M fun items M1 => ∀ p, M1 p = none → lcN i tt te p (wipeD ρ own) (fun M2 => ∃ acc, M2 p = some (.lst acc) ∧ Q (.lst acc) (dm M2 p)) items (um M1 p (.lst []))
/-- .. that may still change -/
def dLCM (own : List Nat) (i : Nat) (ti : TDI) (tt : TDb) (te : TD) : TD := fun ρ M Q => ti ρ M fun items M1 => ∀ p, M1 p = none → lcN i tt te p (wipeD ρ own) (fun M2 => Q (.ref p) M2) items (um M1 p (.lst []))
theorem Keep.dm {M M' : Mp} {H H' : Hp} {x : Addr} (k : Keep M H M' H') : Keep M H (dm M' x) H' := ⟨fun b o e n' => let ⟨y1, y2⟩ := k.k b o e n'; ⟨y1, by
  by_cases hb : b = x
  · subst hb; exact dm_same _ _
  · rw [dm_ne hb]; exact y2⟩⟩
theorem lc_read {own : List Nat} {i : Nat} {ti : TDI} {tt : TDb} {te : TD} {ρ : Rho} {σ : L2.St} {M : Mp} {H : Hp} {Qf : Addr → Mp → Prop} {Q : VK} (hi : i ∈ own) (hh : Here X B ρ σ M H)
    (h : ti ρ M fun items M1 => ∀ p, M1 p = none → lcN i tt te p (wipeD ρ own) (Qf p) items (um M1 p (.lst [])))
    (q : ∀ p M' H', Qf p M' → Keep M H M' H' → RepM X.K X.mg M' H' → Q (.ref p) H') :
    tLc (lftI X B ti) (gName i) (lftT X At0 tt) (lft X At0 te) own σ H Q := by
  refine ⟨ρ, M, _, hh, h, fun items M1 J H1 h1 k1 m1 sv => ?_⟩
  intro D hD
  have hMD := m1.free hD
  have h2 := h1 D hMD
  have kN : Keep M1 H1 (um M1 D (.lst [])) (upd H1 D (.lst [])) := Keep.newM m1 hD
  have mN : RepM X.K X.mg (um M1 D (.lst [])) (upd H1 D (.lst [])) := m1.newM hD ⟨[], by rw [upd_same], .nil⟩
  refine ⟨fun j m H' => j ≤ items.length ∧ m = items.length - j ∧ ∃ M', Keep M1 H1 M' H' ∧ RepM X.K X.mg M' H' ∧ lcN i tt te D (wipeD ρ own) (Qf D) (items.drop j) M', ⟨_, Nat.zero_le _, rfl, _, kN, mN, by simpa using h2⟩, ?_⟩
  rintro j m H' ⟨hj, rfl, M', k', m', hl⟩
  obtain ⟨s1, s2⟩ := sv M' H' k' m' j
  rcases Nat.lt_or_ge j items.length with lt | ge
  · right
    rw [List.drop_eq_getElem_cons lt] at hl
    obtain ⟨go, s3⟩ := s2 items[j] (List.getElem?_eq_getElem lt)
    refine ⟨go, fun H'' => (j + 1 ≤ items.length ∧ ∃ M', Keep M1 H1 M' H'' ∧ RepM X.K X.mg M' H'' ∧ lcN i tt te D (wipeD ρ own) (Qf D) (items.drop (j + 1)) M'), fun H'' z => ⟨items.length - (j + 1), by omega, z.1, rfl, z.2⟩, fun x H2 hy => ?_⟩
    obtain ⟨k2, m2, r2⟩ := s3 x H2 hy
    refine ⟨wipe_set hi, ?_⟩
    have kk : Keep M H M' H2 := (k1.trans k').trans k2
    have st : RepS X.K X.mg M' H2 ((wipeD ρ own).set i (some items[j])) ((wipe σ own).set i (some x)) := (wipe_rep (hh.s.keep kk) own).set r2
    refine ⟨(wipeD ρ own).set i (some items[j]), M', _, ⟨st, m2, ⟨fun b o e _ => nomatch (show (none : Option HO) = some o from e)⟩⟩, hl, fun b M3 H3 hb k3 m3 => ?_⟩
    cases b with
    | true =>
      refine ⟨(wipeD ρ own).set i (some items[j]), M3, _, ⟨st.keep k3, m3, ⟨fun b o e _ => nomatch (show (none : Option HO) = some o from e)⟩⟩, hb.1 rfl, fun y M4 v H4 hy k4 m4 r4 => ?_⟩
      obtain ⟨acc, ea, la, hn⟩ := hy
      obtain ⟨vs, ha, rs⟩ := m4 D _ ea
      have kw : Keep M4 H4 (um M4 D (.lst (acc ++ [y]))) (upd H4 D (.lst (vs ++ [v]))) := Keep.write ea
      refine ⟨vs, ha, by rw [← rs.length]; exact la, lt, _, (((k'.trans k2).trans k3).trans k4).trans kw, m4.write ea ⟨_, by rw [upd_same], RepVs.keep kw _ _ (RepVs.append rs (.cons r4 .nil))⟩, hn⟩
    | false => exact ⟨lt, M3, (k'.trans k2).trans k3, m3, hb.2 rfl⟩
  · left
    have e : items.drop j = [] := List.drop_eq_nil_iff.mpr ge
    rw [e] at hl
    exact ⟨s1 ge, q D M' H' hl (k1.trans k') m'⟩
section
variable {s0 : Shared} {H0 : Hp} {scope : Scope} {ce : Env} {fp : List Addr} {ρ : Rho} {σ : L2.St} {M : Mp} {H : Hp}
theorem Here.toBlk (h : Here X B ρ σ M H) : Here (X.blk s0 H0 scope ce fp) B ρ σ M H := ⟨h.s, h.m, h.k⟩
theorem lft_blk {t : TD} {Q : VK} (h : lft X B t σ H Q) : lft (X.blk s0 H0 scope ce fp) B t σ H Q := by
  obtain ⟨ρ, M, R, hh, h, q⟩ := h
  exact ⟨ρ, M, R, hh.toBlk, h, fun d M' v H' a b c e => q d M' v H' a b c e⟩
theorem lftT_blk {t : TDb} {Q : Bool → Hp → Prop} (h : lftT X B t σ H Q) : lftT (X.blk s0 H0 scope ce fp) B t σ H Q := by
  obtain ⟨ρ, M, R, hh, h, q⟩ := h
  exact ⟨ρ, M, R, hh.toBlk, h, fun d M' H' a b c => q d M' H' a b c⟩
end
section
variable {elt tg iter : Expr} {ifs : List Expr} {scope : Scope} {own : List (Str × Nat)} {pos : Pos} {ti : TDI} {tt : TDb} {te : TD} {i : Nat}
theorem lc_core' (hc : X.calm = true) (hN : X.N.Nodup) (hi : DI X B tg iter ti) (ok : BlkOk X.N X.env.scope scope own)
    (hg : ∀ (s : Shared) (H : Hp) (C : Addr) (cl : List (Str × Addr)) (fp : List Addr), PG (X.blk s H scope (compEnvC scope cl C X.env) fp) tg (gName i))
    (ht : ∀ (s : Shared) (H : Hp) (C : Addr) (cl : List (Str × Addr)) (fp : List Addr), DTl (X.blk s H scope (compEnvC scope cl C X.env) fp) At0 ifs tt)
    (he : ∀ (s : Shared) (H : Hp) (C : Addr) (cl : List (Str × Addr)) (fp : List Addr), DE (X.blk s H scope (compEnvC scope cl C X.env) fp) At0 elt te)
    (hs : ∀ x, foldedSetIterable iter X.env x = pure x) :
    PE X (.ListComp elt [⟨tg, iter, ifs, 0⟩] scope pos) (tLc (lftI X B ti) (gName i) (lftT X At0 tt) (lft X At0 te) (own.map (·.2))) :=
  pe_lc hc hN hi ok hg (fun s H C cl fp => PTs.imp (ht s H C cl fp) fun σ H Q h => lftT_blk h) (fun s H C cl fp => PE.imp (he s H C cl fp) fun σ H Q h => lft_blk h) hs
theorem de_lc (hc : X.calm = true) (hN : X.N.Nodup) (hi : DI X B tg iter ti) (ok : BlkOk X.N X.env.scope scope own) (hm : i ∈ own.map (·.2))
    (hg : ∀ (s : Shared) (H : Hp) (C : Addr) (cl : List (Str × Addr)) (fp : List Addr), PG (X.blk s H scope (compEnvC scope cl C X.env) fp) tg (gName i))
    (ht : ∀ (s : Shared) (H : Hp) (C : Addr) (cl : List (Str × Addr)) (fp : List Addr), DTl (X.blk s H scope (compEnvC scope cl C X.env) fp) At0 ifs tt)
    (he : ∀ (s : Shared) (H : Hp) (C : Addr) (cl : List (Str × Addr)) (fp : List Addr), DE (X.blk s H scope (compEnvC scope cl C X.env) fp) At0 elt te)
    (hs : ∀ x, foldedSetIterable iter X.env x = pure x := by intro _; rfl) : DE X B (.ListComp elt [⟨tg, iter, ifs, 0⟩] scope pos) (dLC (own.map (·.2)) i ti tt te) := by
  refine PE.imp (lc_core' hc hN hi ok hg ht he hs) fun σ H Q h => ?_
  obtain ⟨ρ, M, R, hh, h, q⟩ := h
  refine lc_read hm hh h fun p M' H' z k m => ?_
  obtain ⟨acc, ea, z⟩ := z
  obtain ⟨vs, ha, rs⟩ := m p _ ea
  refine q _ _ _ _ z k.dm (m.less dm_le) ?_
  unfold RepV
  exact ⟨p, vs, rfl, dm_same _ _, ha, RepVs.keep (Keep.rfl'.less dm_le) _ _ rs⟩
theorem de_lcM (hc : X.calm = true) (hN : X.N.Nodup) (hi : DI X B tg iter ti) (ok : BlkOk X.N X.env.scope scope own) (hm : i ∈ own.map (·.2))
    (hg : ∀ (s : Shared) (H : Hp) (C : Addr) (cl : List (Str × Addr)) (fp : List Addr), PG (X.blk s H scope (compEnvC scope cl C X.env) fp) tg (gName i))
    (ht : ∀ (s : Shared) (H : Hp) (C : Addr) (cl : List (Str × Addr)) (fp : List Addr), DTl (X.blk s H scope (compEnvC scope cl C X.env) fp) At0 ifs tt)
    (he : ∀ (s : Shared) (H : Hp) (C : Addr) (cl : List (Str × Addr)) (fp : List Addr), DE (X.blk s H scope (compEnvC scope cl C X.env) fp) At0 elt te)
    (hs : ∀ x, foldedSetIterable iter X.env x = pure x := by intro _; rfl) : DE X B (.ListComp elt [⟨tg, iter, ifs, 0⟩] scope pos) (dLCM (own.map (·.2)) i ti tt te) := by
  refine PE.imp (lc_core' hc hN hi ok hg ht he hs) fun σ H Q h => ?_
  obtain ⟨ρ, M, R, hh, h, q⟩ := h
  exact lc_read hm hh h fun p M' H' z k m => q _ _ _ _ z k m (by unfold RepV; rfl)
end
/-! ### what a comprehension makes -/
/-- the walk over the items: what is added by each, nothing else changes -/
theorem lc_by {i : Nat} {tt : TDb} {te : TD} {p : Addr} {ρ0 : Rho} {Q : Mp → Prop} {M : Mp} (f : D → Option D) : ∀ (items : List D) (acc : List D), acc.length + items.length ≤ sizeLine →
    (∀ d ∈ items, ∀ (xs : List D) (Kk : D → Mp → Prop) (N : Mp → Prop), (∀ y, f d = some y → Kk y (um M p (.lst xs))) → (f d = none → N (um M p (.lst xs))) →
      tt (ρ0.set i (some d)) (um M p (.lst xs)) fun b M3 => (b = true → te (ρ0.set i (some d)) M3 Kk) ∧ (b = false → N M3)) →
    Q (um M p (.lst (acc ++ items.filterMap f))) → lcN i tt te p ρ0 Q items (um M p (.lst acc))
  | [], acc, hz, h, q => by simpa [lcN] using q
  | d :: ds, acc, hz, h, q => by
    unfold lcN
    refine h d (List.mem_cons_self ..) acc _ _ (fun y e => ⟨acc, um_same _ _ _, by simp only [List.length_cons] at hz; omega, ?_⟩) fun e => ?_
    · rw [um_um]
      refine lc_by f ds (acc ++ [y]) (by simp only [List.length_cons, List.length_append, List.length_nil] at hz ⊢; omega) (fun d' m => h d' (List.mem_cons_of_mem _ m)) ?_
      simpa [e] using q
    · refine lc_by f ds acc (by simp only [List.length_cons] at hz; omega) (fun d' m => h d' (List.mem_cons_of_mem _ m)) ?_
      simpa [e] using q
theorem lc_all {i : Nat} {tt : TDb} {te : TD} {ρ0 : Rho} {Q : DK} {M : Mp} {items : List D} (f : D → Option D) (hz : items.length ≤ sizeLine)
    (h : ∀ p, M p = none → ∀ d ∈ items, ∀ (xs : List D) (Kk : D → Mp → Prop) (N : Mp → Prop), (∀ y, f d = some y → Kk y (um M p (.lst xs))) → (f d = none → N (um M p (.lst xs))) →
      tt (ρ0.set i (some d)) (um M p (.lst xs)) fun b M3 => (b = true → te (ρ0.set i (some d)) M3 Kk) ∧ (b = false → N M3))
    (q : Q (.lst (items.filterMap f)) M) : ∀ p, M p = none → lcN i tt te p ρ0 (fun M2 => ∃ acc, M2 p = some (.lst acc) ∧ Q (.lst acc) (dm M2 p)) items (um M p (.lst [])) := fun p hp =>
  lc_by f items [] (by simpa using hz) (h p hp) ⟨_, um_same _ _ _, by rw [dm_um hp]; exact q⟩
theorem lc_allM {i : Nat} {tt : TDb} {te : TD} {ρ0 : Rho} {Q : DK} {M : Mp} {items : List D} (f : D → Option D) (hz : items.length ≤ sizeLine)
    (h : ∀ p, M p = none → ∀ d ∈ items, ∀ (xs : List D) (Kk : D → Mp → Prop) (N : Mp → Prop), (∀ y, f d = some y → Kk y (um M p (.lst xs))) → (f d = none → N (um M p (.lst xs))) →
      tt (ρ0.set i (some d)) (um M p (.lst xs)) fun b M3 => (b = true → te (ρ0.set i (some d)) M3 Kk) ∧ (b = false → N M3))
    (q : ∀ p, M p = none → Q (.ref p) (um M p (.lst (items.filterMap f)))) : ∀ p, M p = none → lcN i tt te p ρ0 (fun M2 => Q (.ref p) M2) items (um M p (.lst [])) := fun p hp =>
  lc_by f items [] (by simpa using hz) (h p hp) (q p hp)
end
end DL
/-! The D layer, part m: keywords, in, sorted, repr. -/
namespace DL
open PySem PySem.Spec L2
/-! ### keywords -/
/-- the places is of a list, in this order -/
def pick {α : Type} (is : List Nat) (xs : List α) : List α := is.filterMap fun i => xs[i]?
theorem RepVs.pick {K : PySem.W.Frag} {mg : Str → Option Value} {M : Mp} {H : Hp} {ds : List D} {vs : List V} (r : RepVs K mg M H ds vs) : ∀ is : List Nat, RepVs K mg M H (pick is ds) (pick is vs)
  | [] => .nil
  | i :: is => by
    have ih := RepVs.pick r is
    unfold DL.pick at ih ⊢
    cases e : ds[i]? with
    | none =>
      have e2 : vs[i]? = none := by
        rw [List.getElem?_eq_none_iff] at e ⊢
        rw [← r.length]; exact e
      rw [List.filterMap_cons_none e, List.filterMap_cons_none e2]
      exact ih
    | some d =>
      obtain ⟨v, e2, rv⟩ := r.get e
      rw [List.filterMap_cons_some e, List.filterMap_cons_some e2]
      exact .cons rv ih
theorem Vals.get' : ∀ {vs : List V} {us : List Value} {i : Nat} {v : V}, Vals vs us → vs[i]? = some v → ∃ u, us[i]? = some u ∧ RelV v u
  | _, _, _, _, .nil, e => by simp at e
  | _, _, 0, _, .cons r _, e => by simp at e; subst e; exact ⟨_, rfl, r⟩
  | _, _, i + 1, _, .cons _ rs, e => by simpa using Vals.get' rs (by simpa using e)
theorem Vals.pick {vs : List V} {us : List Value} (r : Vals vs us) : ∀ is : List Nat, Vals (pick is vs) (pick is us)
  | [] => .nil
  | i :: is => by
    have ih := Vals.pick r is
    unfold DL.pick at ih ⊢
    cases e : vs[i]? with
    | none =>
      have e2 : us[i]? = none := by
        rw [List.getElem?_eq_none_iff] at e ⊢
        rw [← r.length]; exact e
      rw [List.filterMap_cons_none e, List.filterMap_cons_none e2]
      exact ih
    | some d =>
      obtain ⟨v, e2, rv⟩ := Vals.get' r e
      rw [List.filterMap_cons_some e, List.filterMap_cons_some e2]
      exact .cons rv ih
/-- how keywords named ks behind n values bind: at the places is -/
def KwB (K : PySem.W.Frag) (fd : FuncData) (ps : List Str) (n : Nat) (ks : List Str) (is : List Nat) : Prop := ∀ (s : Shared) (us ws : List Value), us.length = n → ws.length = ks.length → BindsTo s fd ⟨us, ks.zip ws⟩ (ps.zip (pick is (us ++ ws)))
theorem FunD.kw {K : PySem.W.Frag} {x qual : Str} {params : Arguments} {body : List Stmt} {scope : Scope} {f : Addr} {fd : FuncData} {ps ks : List Str} {n : Nat} {is : List Nat} (F : FunD K x qual params body scope [] [] f fd)
    (h : ∀ (kV doc pm : Value) (an : Option Addr) (cdv ct : Value) (us ws : List Value), us.length = n → ws.length = ks.length → bindArgs (PySem.W.fnOf x qual params body scope .none kV doc pm an cdv ct) ⟨us, ks.zip ws⟩ = pure (ps.zip (pick is (us ++ ws)))) : KwB K fd ps n ks is := by
  obtain ⟨oc, od, dV, kV, doc, pm, an, cdv, ct, osl, rfl, lk, hcd, hD, hK⟩ := F.ex
  rcases hD with ⟨_, rfl⟩ | ⟨e, _⟩
  · intro s us ws h1 h2
    exact .of_eq (h kV doc pm an cdv ct us ws h1 h2)
  · exact absurd rfl e
def GFnK (P : Program) (w : World) (K : PySem.W.Frag) (mg : Str → Option Value) (base : Heap) (k : Nat) (x : Str) (n : Nat) (ks : List Str) (is : List Nat) (sp : DSp) : Prop :=
  ∃ f fd ps, DFn P w K mg base k f fd ps sp ∧ mg x = some (.ref f) ∧ PySem.W.keepIn K (.ref f) = true ∧ KwB K fd ps n ks is
section
variable {X : Cx} {B : At}
def DKw (X : Cx) (B : At) (kws : List Keyword) (t : TDs) : Prop := PK X kws (lftA X B t)
theorem PK.imp {X : Cx} {e : List Keyword} {t u : TA} (h : PK X e t) (q : ∀ σ H Q, u σ H Q → t σ H Q) : PK X e u := ⟨fun pos pins s σ H Q I z => h.run pos pins s σ H Q I (q _ _ _ z)⟩
theorem dk_nil : DKw X B [] dNil := PK.imp pk_nil fun σ H Q ⟨ρ, M, R, hh, h, q⟩ => q [] M [] H h .rfl' hh.m .nil
theorem dk_cons {nm : Option Str} {kpos : Pos} {e : Expr} {kws : List Keyword} {te : TD} {t : TDs} (ha : DE X B e te) (hr : DKw X B kws t) : DKw X B (⟨nm, e, kpos⟩ :: kws) (dCons te t) := by
  refine PK.imp (pk_cons ha hr) fun σ H Q h => ?_
  obtain ⟨ρ, M, R, hh, h, q⟩ := h
  refine ⟨ρ, M, _, hh, h, fun d M1 v H1 h1 k1 m1 r1 => ?_⟩
  refine ⟨ρ, M1, _, hh.step k1 m1, h1, fun ds M2 vs H2 h2 k2 m2 r2 => ?_⟩
  exact q (d :: ds) M2 (v :: vs) H2 h2 (k1.trans k2) m2 (.cons (RepV.keep k2 d v r1) r2)
/-- f(k = v, ..), f(e, .., k = v, ..) -/
def dCallKw (n m : Nat) (is : List Nat) (sp : DSp) (W : DW') (t tk : TDs) : TD := fun ρ M Q => t ρ M fun ds M1 => tk ρ M1 fun es M2 => (ds.length = n ∧ es.length = m) ∧ sp (pick is (ds ++ es)) M2 Q fun x M3 => W x ρ M3
theorem Vals.app {vs ws : List V} {us zs : List Value} (a : Vals vs us) (b : Vals ws zs) : Vals (vs ++ ws) (us ++ zs) := a.append b
theorem run_callKw {k n : Nat} {ks : List Str} {is : List Nat} {f : Addr} {fd : FuncData} {ps : List Str} {sp : DSp} {W : DW'} {pins : List (Addr × Obj)} {σ : L2.St} {H : Hp} {s : Shared} {M : Mp} {ρ : Rho} {us ws : List Value} {vs zs : List V} {ds es : List D} {R : DK} {Q : VK}
    (F : DFn X.prog X.w X.K X.mg X.base k f fd ps sp) (c : Cy X.A k) (tk : DTk X B W) (hb : KwB X.K fd ps n ks is) (I : Inv X pins σ H s) (hh : Here X B ρ σ M H) (r : Vals vs us) (rz : Vals zs ws) (rs : RepVs X.K X.mg M H ds vs) (rt : RepVs X.K X.mg M H es zs)
    (hl : ds.length = n ∧ es.length = ks.length) (h : sp (pick is (ds ++ es)) M R fun x M' => W x ρ M') (q : Back X M H R Q) : wpAny (model X.prog X.w) X.A (call (.ref f) us (ks.zip ws)) (EP X pins σ Q) X.xe s := by
  have h1 : us.length = n := by rw [← r.length, ← rs.length]; exact hl.1
  have h2 : ws.length = ks.length := by rw [← rz.length, ← rt.length]; exact hl.2
  refine wpAny_call (codeAny_mono (run_dfn F c tk I hh (hb s us ws h1 h2) (Vals.pick (r.append rz) is) (RepVs.pick (rs.append rt) is) h q) fun r s' hq => ?_)
  cases r with
  | error e => exact hq
  | ok fl => cases fl <;> exact hq
theorem de_callK0 {k : Nat} {x : Str} {ks : List Str} {is : List Nat} {sp : DSp} {W : DW'} {kws : List Keyword} {tk : TDs} {p pos : Pos} (G : GFnK X.prog X.w X.K X.mg X.base k x 0 ks is sp) (c : Cy X.A k) (tkk : DTk X B W) (hg : Gl X x) (hkw : DKw X B kws tk)
    (hks : (backToKw pos (keywordEach kws X.env)).filterMap (·.1) = ks := by rfl) (hall : (backToKw pos (keywordEach kws X.env)).all (·.1.isSome) = true := by rfl) (hdb : (x == ("__debug__" : Str)) = false := by decide)
    (hpl : ((backTo pos (starEach [] X.env)).any (·.1) || (backToKw pos (keywordEach kws X.env)).any (·.1.isNone)) = false := by rfl) : DE X B (.Call (.Name x p) [] kws pos) (dCallKw 0 ks.length is sp W dNil tk) := by
  obtain ⟨f, fd, ps, F, hm, hk, hb⟩ := G
  constructor
  intro pins s σ H Q I h
  obtain ⟨ρ, M, R, hh, h, q⟩ := h
  refine wpAny_Call_Name_kw (ld_glob I hg hm ?_ hdb)
  refine PySem.W.callWith_KW0 (h₀ := X.base) I.ok.mod.kin hk hall ?_ hpl
  refine thn (hkw.run pos pins s σ H (fun vs H1 => ∃ es M1, Keep M H M1 H1 ∧ RepM X.K X.mg M1 H1 ∧ RepVs X.K X.mg M1 H1 es vs ∧ (([] : List D).length = 0 ∧ es.length = ks.length) ∧ sp (pick is ([] ++ es)) M1 R fun x M2 => W x ρ M2) I
    ⟨ρ, M, _, hh, h, fun ds M1 vs H1 h1 k1 m1 r1 => ⟨ds, M1, k1, m1, r1, h1⟩⟩) fun ws s2 hs => ?_
  obtain ⟨zs, H2, I2, rz, es, M2, k2, m2, r2, hl, h2⟩ := hs
  refine ⟨I2.kIn, ?_⟩
  rw [hks]
  exact run_callKw (us := []) (vs := []) (ds := []) F c tkk hb I2 (hh.step k2 m2) .nil rz .nil r2 hl h2 fun d M3 v H3 h3 k3 m3 r3 => q d M3 v H3 h3 (k2.trans k3) m3 r3
theorem de_callK {k n : Nat} {x : Str} {ks : List Str} {is : List Nat} {sp : DSp} {W : DW'} {e : Expr} {es : List Expr} {kws : List Keyword} {t tk : TDs} {p pos : Pos} (G : GFnK X.prog X.w X.K X.mg X.base k x n ks is sp) (c : Cy X.A k) (tkk : DTk X B W) (hg : Gl X x) (ha : DA X B (e :: es) t) (hkw : DKw X B kws tk)
    (hks : (backToKw pos (keywordEach kws X.env)).filterMap (·.1) = ks := by rfl) (hall : (backToKw pos (keywordEach kws X.env)).all (·.1.isSome) = true := by rfl) (hdb : (x == ("__debug__" : Str)) = false := by decide)
    (he : starEach (e :: es) X.env = (false, eval e X.env) :: starEach es X.env := by rfl)
    (hpl : ((backTo pos (starEach (e :: es) X.env)).any (·.1) || (backToKw pos (keywordEach kws X.env)).any (·.1.isNone)) = false := by rfl) : DE X B (.Call (.Name x p) (e :: es) kws pos) (dCallKw n ks.length is sp W t tk) := by
  obtain ⟨f, fd, ps, F, hm, hk, hb⟩ := G
  constructor
  intro pins s σ H Q I h
  obtain ⟨ρ, M, R, hh, h, q⟩ := h
  refine wpAny_Call_Name_kw (ld_glob I hg hm ?_ hdb)
  refine PySem.W.callWith_KW (h₀ := X.base) I.ok.mod.kin hk hall (thn (ha.run pos pins s σ H (fun vs H1 => ∃ ds M1, Keep M H M1 H1 ∧ RepM X.K X.mg M1 H1 ∧ RepVs X.K X.mg M1 H1 ds vs ∧ tk ρ M1 fun es M2 => (ds.length = n ∧ es.length = ks.length) ∧ sp (pick is (ds ++ es)) M2 R fun x M3 => W x ρ M3) I
    ⟨ρ, M, _, hh, h, fun ds M1 vs H1 h1 k1 m1 r1 => ⟨ds, M1, k1, m1, r1, h1⟩⟩) fun us s1 hs => ?_) hpl he
  obtain ⟨vs, H1, I1, r, ds, M1, k1, m1, r1, h1⟩ := hs
  refine thn (hkw.run pos pins s1 σ H1 (fun vs H2 => ∃ es M2, Keep M1 H1 M2 H2 ∧ RepM X.K X.mg M2 H2 ∧ RepVs X.K X.mg M2 H2 es vs ∧ (ds.length = n ∧ es.length = ks.length) ∧ sp (pick is (ds ++ es)) M2 R fun x M3 => W x ρ M3) I1
    ⟨ρ, M1, _, hh.step k1 m1, h1, fun ds M1 vs H1 h1 k1 m1 r1 => ⟨ds, M1, k1, m1, r1, h1⟩⟩) fun ws s2 hs => ?_
  obtain ⟨zs, H2, I2, rz, es, M2, k2, m2, r2, hl, h2⟩ := hs
  refine ⟨I2.kIn, ?_⟩
  rw [hks]
  exact run_callKw F c tkk hb I2 ((hh.step k1 m1).step k2 m2) r rz (RepVs.keep k2 _ _ r1) r2 hl h2 fun d M3 v H3 h3 k3 m3 r3 => q d M3 v H3 h3 ((k1.trans k2).trans k3) m3 r3
/-! ### x in l -/
def gIn (neg : Bool) : DR2 := fun x y M Q => match asL M y with
  | some xs => ((rsv M x).pl 12 = true ∧ pls 11 xs = true) ∧ Q (.bl (if neg then !(xs.any fun z => D.eqv z (rsv M x)) else xs.any fun z => D.eqv z (rsv M x))) M
  | none => False
theorem rsv_asL {M : Mp} {y : D} {xs : List D} (h : asL M y = some xs) : rsv M y = .lst xs := by
  cases y with
  | lst ys => simp only [asL, Option.some.injEq] at h; subst h; rfl
  | ref a =>
    simp only [asL] at h
    simp only [rsv]
    split at h
    · rename_i ds e
      injection h with h
      subst h
      simp only [e]
    · cases h
  | _ => simp [asL] at h
theorem any_py (xs : List D) (d : PyData) : (pys xs).any (fun z => PyData.eqv z d) = xs.any fun z => PyData.eqv z.py d := by
  induction xs with
  | nil => simp [pys]
  | cons x xs ih => simp [pys, ih]
theorem opc_in : OpC X (rInD X.K) (gIn false) := by
  intro M H d1 d2 v1 v2 R Q m r1 r2 g q
  unfold gIn at g
  split at g
  · rename_i xs e
    obtain ⟨⟨p1, p2⟩, g⟩ := g
    have e2 := rsv_asL e
    have p3 : (rsv M d2).pl 12 = true := by rw [e2]; simpa [D.pl] using p2
    have h2 := rsv_dp m r2 p3
    have s2 := pl_shaped (by decide) p3
    rw [e2] at h2 s2
    refine ⟨_, pys xs, rsv_dp m r1 p1, h2, pl_shaped (by decide) p1, s2, ?_⟩
    rw [any_py]
    exact q _ _ _ _ g .rfl' m rBl
  · exact g.elim
theorem opc_notin : OpC X (rNotInD X.K) (gIn true) := by
  intro M H d1 d2 v1 v2 R Q m r1 r2 g q
  unfold gIn at g
  split at g
  · rename_i xs e
    obtain ⟨⟨p1, p2⟩, g⟩ := g
    have e2 := rsv_asL e
    have p3 : (rsv M d2).pl 12 = true := by rw [e2]; simpa [D.pl] using p2
    have h2 := rsv_dp m r2 p3
    have s2 := pl_shaped (by decide) p3
    rw [e2] at h2 s2
    refine ⟨_, pys xs, rsv_dp m r1 p1, h2, pl_shaped (by decide) p1, s2, ?_⟩
    rw [any_py]
    exact q _ _ _ _ g .rfl' m rBl
  · exact g.elim
theorem cd_in (hu : X.A.units + 65 < cLine) : CmpD X .In (gIn false) := ⟨_, op_inD hu, opc_in⟩
theorem cd_notin (hu : X.A.units + 65 < cLine) : CmpD X .NotIn (gIn true) := ⟨_, op_notInD hu, opc_notin⟩
/-! ### sorted(ints) -/
def gSorted : DCall := fun ds M Q => match ds with
  | [d] => (match asI M d with
    | some ns => ∀ ns' : List Int, ns'.Perm ns → ns'.Pairwise (· ≤ ·) → Q (.lst (ns'.map .int)) M
    | none => False)
  | _ => False
theorem c_sorted : CallD X (.builtin "sorted") gSorted := by
  refine ⟨_, cr_sortedI, ?_⟩
  intro M H ds vs R Q m r g q
  unfold gSorted at g
  split at g
  · obtain ⟨v, rfl, r0⟩ := r.one
    have r := r0
    split at g
    · rename_i ns e
      obtain ⟨a, rfl, h⟩ := asI_at e m r
      refine ⟨a, ns, rfl, h, fun ns' p hp hs n => ?_⟩
      refine Back.new q m (g ns' hp hs) n ?_
      unfold RepV
      exact ⟨p, _, rfl, m.free n, upd_same, RepVs.ints ns'⟩
    · exact g.elim
  · exact g.elim
/-! ### repr(x), x a list or a tuple -/
def D.isRef : D → Bool
  | .lst _ => true
  | .tup _ => true
  | _ => false
def gRepr : DCall := fun ds M Q => match ds with
  | [d] => ((rsv M d).isRef = true ∧ (rsv M d).pl 12 = true ∧ (rsv M d).py.showable = true ∧ (rsv M d).py.shown.length ≤ sizeLine) ∧ Q (.str (rsv M d).py.shown) M
  | _ => False
def rRepr (K : PySem.W.Frag) : List V → Hp → VK → Prop := fun xs H Q => ∃ a d, xs = [.ref a] ∧ Dp K H (.ref a) d ∧ d.canLay0 = true ∧ d.depth ≤ 12 ∧ d.showable = true ∧ d.shown.length ≤ sizeLine ∧ Q (.str d.shown) H
theorem cr_repr (hg : X.A.guards = some []) (hu : X.A.units + 64 < cLine) : CallR X (.builtin "repr") (rRepr X.K) := by
  intro pins s σ H xs us Q I r h
  obtain ⟨a, d, rfl, hd, hc, hdp, hs, hz, q⟩ := h
  cases r with
  | cons r1 rr =>
    cases rr
    obtain rfl := (show _ = Value.ref a from r1)
    obtain ⟨as, hr⟩ := Dp.reads I d _ _ hd r1
    refine PySem.repr_of_reads' hr hs (PyData.noDict_hsm (PyData.hasDict_of_canLay d hc)) hg (by omega) (fun b o e => e) (fun h' u tk hk => ?_) hz
    exact ⟨.str d.shown, H, I.kept (t' := tk) hk, ⟨_, rfl⟩, q⟩
theorem rsv_ref {M : Mp} {H : Hp} {d : D} {v : V} {K : PySem.W.Frag} {mg : Str → Option Value} (m : RepM K mg M H) (r : RepV K mg M H d v) (h : (rsv M d).isRef = true) : ∃ a, v = .ref a := by
  cases d with
  | ref a => unfold RepV at r; exact ⟨a, r⟩
  | lst xs => unfold RepV at r; obtain ⟨a, _, e, _⟩ := r; exact ⟨a, e⟩
  | tup xs => unfold RepV at r; obtain ⟨a, _, e, _⟩ := r; exact ⟨a, e⟩
  | _ => simp [rsv, D.isRef] at h
theorem c_repr (hg : X.A.guards = some []) (hu : X.A.units + 64 < cLine) : CallD X (.builtin "repr") gRepr := by
  refine ⟨_, cr_repr hg hu, ?_⟩
  intro M H ds vs R Q m r g q
  unfold gRepr at g
  split at g
  · rename_i d
    obtain ⟨v, rfl, r0⟩ := r.one
    obtain ⟨⟨g1, g2, g3, g4⟩, g⟩ := g
    obtain ⟨a, rfl⟩ := rsv_ref m r0 g1
    obtain ⟨c1, c2⟩ := pl_shape 12 _ g2
    exact ⟨a, _, rfl, rsv_dp m r0 g2, c1, c2, g3, g4, q _ _ _ _ g .rfl' m (by unfold RepV; rfl)⟩
  · exact g.elim
end
end DL
/-! The D layer, part n: enumerate over lists and tuples. -/
namespace DL
open PySem PySem.Spec L2 PyProof.Rows
/-- the tuple at a, each item in a new pair -/
def ItT (K : PySem.W.Frag) (a : Addr) : It :=
  ⟨fun i H => ∃ (xs : List V) (x : V), SqT K H a xs ∧ xs[i]? = some x, fun i H v H' => ∃ T x, v = .ref T ∧ H T = none ∧ H' = upd H T (.tup [.int (i : Nat), x]) ∧ ∀ xs, SqT K H a xs → xs[i]? = some x, fun i H => ∃ xs : List V, SqT K H a xs ∧ xs.length ≤ i⟩
theorem turn_enumT {P : Program} {w : World} {K : PySem.W.Frag} {elts : List Expr} {kk : Nat} {tpos : Pos} (a e it : Addr) :
    Turn P w K (.Tuple elts kk tpos) (ItT K a) [e, it] e (fun i h => (∃ old, IsEnum h e it ((i : Nat) : Int) old) ∧ h.IsTupleIter it a i ∧ e ≠ it) where
  mem := by simp
  obj := fun i h st b hb => by
    obtain ⟨⟨old, he⟩, ⟨o, ho, hc, hd⟩, _⟩ := st
    have e' : b = e ∨ b = it := by simpa using hb
    rcases e' with z | z
    · rw [z]; exact ⟨_, he, fun v q => nomatch q⟩
    · rw [z]; exact ⟨o, ho, fun v q => by rw [hd] at q; cases q⟩
  keep := fun i h h' st k => let ⟨⟨old, he⟩, hi, hne⟩ := st; ⟨⟨old, k e (by simp) _ he⟩, hi.at fun o q => k it (by simp) o q, hne⟩
  item := by
    intro X hP hw hK hc i pins s σ H E I hf st hg
    subst hP hw hK
    obtain ⟨⟨old, he⟩, hit, hne⟩ := st
    obtain ⟨xs, x, hq, hx⟩ := hg
    obtain ⟨its, rv, p, hz⟩ := I.tuple hq
    obtain ⟨u, hu, ru⟩ := rv.get hx
    have hel : e < s.heap.objs.size := Heap.lt_size he
    have pT : s.heap.IsTuple a its.toArray := p
    obtain ⟨o1, ho1, hc1, hd1⟩ := id hit
    obtain ⟨o2, ho2, hc2, _⟩ := id pT
    have hil : it < s.heap.objs.size := Heap.lt_size ho1
    have nai : a ≠ it := fun z => by subst z; rw [ho1] at ho2; cases ho2; rw [hc1] at hc2; simp at hc2
    have nea : e ≠ a := fun z => by subst z; have he' := he; unfold IsEnum at he'; rw [ho2] at he'; cases he'; simp at hc2
    have hil2 : i < its.toArray.size := by
      have := List.getElem?_eq_some_iff.mp hu
      simpa using this.1
    refine wpAny_pyNext_enum_itemD (Draws.tuple (show X.A.in1.handled = none from I.ok.hd hc) it a nai its.toArray) he ⟨hit, pT⟩ hil2 hne (by simp [hne, nea]) fun y h' tk hy ho hit' hT hsz hk => ?_
    have ey : y = u := by
      have h1 : its.toArray[i]? = some u := by simpa using hu
      rw [h1] at hy
      exact (Option.some.inj hy).symm
    subst ey
    refine ⟨_, rfl, wpAny_letOwnedTupleGo_enum (s := { s with heap := h', toks := tk + 1 }) ho fun h'' he' sb => ?_⟩
    have hT2 : h''.get? s.heap.objs.size = some { cls := .type "tuple", data := .seq #[.int i tk, y] } := (sb.2 _ (Nat.ne_of_gt hel)).trans hT
    have new : ObjOk X.prog X.w (upd H s.heap.objs.size (.tup [.int (i : Nat), x])) h'' s.heap.objs.size (.tup [.int (i : Nat), x]) :=
      ⟨by show 2 ≤ sizeLine; decide, [.int i tk, y], .cons ⟨_, rfl⟩ (.cons ru .nil), ⟨_, hT2, rfl, _, rfl⟩⟩
    have I1 : Inv X pins σ (upd H s.heap.objs.size (.tup [.int (i : Nat), x])) { s with heap := h'', toks := tk + 1 } :=
      I.turnedNew (ch := [e, it]) (fun b ob hb q => (sb.2 b (fun z => hb (by simp [z]))).trans (hk b ob (fun z => hb (by simp [z])) (fun z => hb (by simp [z])) q)) hf (Nat.le_refl _) new
    refine ⟨.ref s.heap.objs.size, _, I1, rfl, ⟨_, x, rfl, I.hok.fresh (Nat.le_refl _), rfl, fun ys hy => by rw [I.tuple_inj hy hq]; exact hx⟩, ⟨⟨y, ?_⟩, hit'.1.at fun o q => (sb.2 it (Ne.symm hne)).trans q, hne⟩, fun b hb => ?_⟩
    · have e1 : ((i + 1 : Nat) : Int) = (i : Int) + 1 := by omega
      rw [e1]; exact he'
    · have hb' : b < s.heap.objs.size := by
        have e' : b = e ∨ b = it := by simpa using hb
        rcases e' with z | z
        · rw [z]; exact hel
        · rw [z]; exact hil
      rw [upd_ne (Nat.ne_of_lt hb')]
      exact (hf b hb).1
  done := by
    intro X hP hw hK hc i pins s σ H E I hf st hg
    subst hP hw hK
    obtain ⟨⟨old, he⟩, hit, hne⟩ := st
    obtain ⟨xs, hq, hx⟩ := hg
    obtain ⟨its, rv, p, hz⟩ := I.tuple hq
    obtain ⟨f0, f1, f2, f3, f4, f5⟩ := hf it (by simp)
    have hl := rv.length
    have pT : s.heap.IsTuple a its.toArray := p
    obtain ⟨o1, ho1, hc1, hd1⟩ := id hit
    obtain ⟨o2, ho2, hc2, _⟩ := id pT
    have nai : a ≠ it := fun z => by subst z; rw [ho1] at ho2; cases ho2; rw [hc1] at hc2; simp at hc2
    have D : Draws X.prog X.w X.A.in1 it [it, a] i (fun _ _ => True) (fun j h => (h.IsTupleIter it a j ∧ h.IsTuple a its.toArray) ∧ j = i) :=
      { live := fun _ _ st => let ⟨o, ho, _⟩ := st.1.1; ⟨o, ho⟩
        frame := fun _ _ _ st hk => ⟨⟨st.1.1.at fun o e => hk it (by simp) o e, st.1.2.at fun o e => hk a (by simp) o e⟩, st.2⟩
        item := fun j s Q E hj st hQ => absurd st.2 (Nat.ne_of_lt hj)
        done := fun s Q E st hE => PySem.wpAny_nextOf_tuple_end (show X.A.in1.handled = none from I.ok.hd hc) st.1.1 st.1.2 (by simp; omega) hE }
    exact wpAny_pyNext_enum_endD D he ⟨⟨hit, pT⟩, rfl⟩ fun h' eb => ⟨rfl, I.turned (t' := s.toks) (fun b o hb q => eb b o hb q) f0 f1 f3 f4 f5⟩
  self := fun A i s Q E st h => let ⟨⟨_, he⟩, _⟩ := st; wpAny_pyIter_enum he h

set_option maxHeartbeats 1000000 in
theorem meets_enum1 {v : Value} {o : Obj} {Y : Heap → Prop} (Z : Begins v o Y) :
    Meets (Builtin.«enumerate.__new__» ⟨[.type "enumerate", v], []⟩) (fun _ R s => Y s.heap ∧
      R (.ok (.ret (.ref (s.heap.push o).objs.size))) { s with heap := (s.heap.push o).push { cls := .type "enumerate", data := .fields #[.none, .bool false, .ref s.heap.objs.size, rawInt 0, .none, .none] } }) :=
  .of_wp fun prog w A R s h => by
    obtain ⟨hp, gn, dd, tk, sy⟩ := s
    obtain ⟨y1, h⟩ := h
    have hsub := sub_enumerate
    have z1 : ∀ {A' : Around} {E : Value → Shared → Prop} {Q : Value → Shared → Prop}, Q (.ref hp.objs.size) ⟨hp.push o, gn, dd, tk, sy⟩ → wpAny (model prog w) A' (pyIter v) Q E ⟨hp, gn, dd, tk, sy⟩ :=
      fun z => Z.iter prog w _ _ ⟨hp, gn, dd, tk, sy⟩ _ y1 z
    wp_walk using z1
    refine wpAny_stack_any fun st => wpAny_pure ?_
    split
    · rename_i c _ _ _ _ _
      cases (c == Value.type "enumerate")
      · wp_walk using z1
        exact ⟨_, rfl, h⟩
      · wp_walk using z1
        exact ⟨_, rfl, h⟩
    · wp_walk using z1
      exact ⟨_, rfl, h⟩
theorem call_enum1 {P : Program} {w : World} {A : Around} {E : Value → Shared → Prop} {s : Shared} {v : Value} {o : Obj} {Y : Heap → Prop} {Q : Value → Shared → Prop} (Z : Begins v o Y) (y : Y s.heap)
    (h : ∀ h', IsEnum h' (s.heap.objs.size + 1) s.heap.objs.size 0 .none → h'.get? s.heap.objs.size = some o → (∀ b u, s.heap.get? b = some u → h'.get? b = some u) → Q (.ref (s.heap.objs.size + 1)) { s with heap := h' }) :
    wpAny (model P w) A (call (.type "enumerate") [v]) Q E s := by
  refine callType_new F.called_enumerate (by decide) (F.typeCall_enumerate_1 _) (F.newCall_enumerate_1 _) (fun ob => F.args_object_init_2 ob _) F.entry_enumerate_new (meets_enum1 Z) ⟨y, ?_⟩
  have sz : (s.heap.push o).objs.size = s.heap.objs.size + 1 := Heap.size_push ..
  show _ ∧ _
  rw [sz]
  have en : IsEnum ((s.heap.push o).push { cls := .type "enumerate", data := .fields #[.none, .bool false, .ref s.heap.objs.size, rawInt 0, .none, .none] }) (s.heap.objs.size + 1) s.heap.objs.size 0 .none := by
    have e := Heap.get?_push_size (s.heap.push o) (o := { cls := .type "enumerate", data := .fields #[.none, .bool false, .ref s.heap.objs.size, rawInt 0, .none, .none] }) rfl
    rw [sz] at e
    exact e
  exact ⟨⟨_, en, rfl⟩, h _ en (Heap.get?_push_of_some _ (Heap.get?_push_size _ Z.free)) fun b u x => Heap.get?_push_of_some _ (Heap.get?_push_of_some _ x)⟩
/-! ### the rule: over a list (settled or not) or a tuple -/
def iEn (K : PySem.W.Frag) (ta : TA) : TI := fun σ H R => ta σ H fun vs H1 => ∃ a xs, vs = [.ref a] ∧ ((SqL K H1 a xs ∧ R (Ite K a) H1) ∨ (SqT K H1 a xs ∧ R (ItT K a) H1))
section
variable {X : Cx} {B : At}
theorem pi_enumA {e : Expr} {ta : TA} {p pos tpos : Pos} {elts : List Expr} {kk : Nat} (hg : Gl X "enumerate") (hm : X.mg "enumerate" = none) (ha : PA X [e] ta) (hs : starEach [e] X.env = [(false, eval e X.env)] := by rfl) :
    PI X (.Tuple elts kk tpos) (.Call (.Name "enumerate" p) [e] [] pos) (iEn X.K ta) := by
  refine ⟨fun pins s σ H R I h => ?_⟩
  refine Call_ (ld_blt I hg hm boot_enumerate (PyProof.Rows.callWith_type1 (thn (ha.run pos pins s σ H _ I h) fun us s1 ⟨vs, H1, I1, r1, q1⟩ => ?_) hs rfl))
  obtain ⟨a, xs, ex, q⟩ := q1
  subst ex
  cases r1 with
  | cons r rr =>
    cases rr
    cases r
    have fpo : ∀ {h' : Heap}, (∀ b u, s1.heap.get? b = some u → h'.get? b = some u) → ∀ b ∈ [s1.heap.objs.size + 1, s1.heap.objs.size], FpOk X pins H1 b := by
      intro h' hk b hb
      have e' : b = s1.heap.objs.size + 1 ∨ b = s1.heap.objs.size := by simpa using hb
      have hle : s1.heap.objs.size ≤ b := by
        rcases e' with z | z
        · rw [z]; exact Nat.le_add_right _ _
        · rw [z]; exact Nat.le_refl _
      exact I1.fpOk hle (I1.hok.fresh hle)
    rcases q with ⟨hq, q⟩ | ⟨hq, q⟩
    · obtain ⟨its, rv, p', hz⟩ := I1.list hq
      refine call_enumerate_list p'.isList fun h' he hit hsz hk => wpAny_pyIter_enum he ?_
      have I2 : Inv X pins σ H1 { s1 with heap := h' } := I1.kept (t' := s1.toks) hk
      exact ⟨s1.heap.objs.size + 1, [s1.heap.objs.size + 1, s1.heap.objs.size], _, _, H1, rfl, I2, turn_enum a (s1.heap.objs.size + 1) s1.heap.objs.size, ⟨⟨.none, he⟩, hit, Nat.succ_ne_self _⟩, fpo hk, q⟩
    · obtain ⟨its, rv, p', hz⟩ := I1.tuple hq
      have pT : s1.heap.IsTuple a its.toArray := p'
      refine call_enum1 (begins_tuple a its.toArray) pT fun h' he hit hk => wpAny_pyIter_enum he ?_
      have I2 : Inv X pins σ H1 { s1 with heap := h' } := I1.kept (t' := s1.toks) hk
      exact ⟨s1.heap.objs.size + 1, [s1.heap.objs.size + 1, s1.heap.objs.size], _, _, H1, rfl, I2, turn_enumT a (s1.heap.objs.size + 1) s1.heap.objs.size, ⟨⟨.none, he⟩, ⟨_, hit, rfl, rfl⟩, Nat.succ_ne_self _⟩, fpo hk, q⟩
/-- for i, x in enumerate(l) -/
def enD : Nat → List D → List D
  | _, [] => []
  | i, d :: ds => .tup [.int (i : Nat), d] :: enD (i + 1) ds
theorem enD_get : ∀ (ds : List D) (k i : Nat) (d : D), (enD k ds)[i]? = some d → ∃ x, ds[i]? = some x ∧ d = .tup [.int ((k + i : Nat) : Int), x]
  | [], k, i, d, h => by simp [enD] at h
  | x :: xs, k, 0, d, h => by simp [enD] at h; exact ⟨x, by simp, by simp [← h]⟩
  | x :: xs, k, i + 1, d, h => by
    unfold enD at h
    obtain ⟨y, h1, h2⟩ := enD_get xs (k + 1) i d (by simpa using h)
    exact ⟨y, by simpa using h1, by rw [h2]; congr 3; omega⟩
theorem enD_len : ∀ (ds : List D) (k : Nat), (enD k ds).length = ds.length
  | [], _ => rfl
  | x :: xs, k => by simp [enD, enD_len xs]
def dEnum (t : TDs) : TDI := fun ρ M Q => t ρ M fun ds M1 => match ds with
  | [d] => (match itemsOf M1 d with
    | some xs => Q (enD 0 xs) M1
    | none => False)
  | _ => False
theorem pair_rep {M : Mp} {H : Hp} {i : Nat} {d : D} {x : V} {T : Addr} (m : RepM X.K X.mg M H) (n : H T = none) (r : RepV X.K X.mg M H d x) :
    Keep M H M (upd H T (.tup [.int (i : Nat), x])) ∧ RepM X.K X.mg M (upd H T (.tup [.int (i : Nat), x])) ∧ RepV X.K X.mg M (upd H T (.tup [.int (i : Nat), x])) (.tup [.int ((0 + i : Nat) : Int), d]) (.ref T) := by
  have k : Keep M H M (upd H T (.tup [.int (i : Nat), x])) := Keep.new m n
  refine ⟨k, m.new n, ?_⟩
  have e0 : ((0 + i : Nat) : Int) = (i : Int) := by simp
  rw [e0]
  unfold RepV
  exact ⟨T, _, rfl, m.free n, by rw [upd_same], .cons (by unfold RepV; rfl) (.cons (RepV.keep k _ _ r) .nil)⟩
theorem serves_EL {xs : List D} {vs : List V} {a : Addr} {M : Mp} {H : Hp} (h : ∀ M' H', Keep M H M' H' → SqL X.K H' a vs ∧ RepVs X.K X.mg M' H' xs vs) : Serves X (enD 0 xs) (Ite X.K a) M H := fun M' H' k m i => by
  obtain ⟨h1, h2⟩ := h M' H' k
  refine ⟨fun hl => ⟨vs, h1, by rw [← h2.length, ← enD_len xs 0]; exact hl⟩, fun d e => ?_⟩
  obtain ⟨y, e0, rfl⟩ := enD_get xs 0 i d e
  obtain ⟨v, e1, r⟩ := h2.get e0
  refine ⟨⟨vs, v, h1, e1⟩, fun x H2 z => ?_⟩
  obtain ⟨T, x', rfl, n, rfl, z⟩ := z
  have z := z vs h1
  rw [e1] at z
  cases z
  exact pair_rep m n r
theorem serves_ET {xs : List D} {vs : List V} {a : Addr} {M : Mp} {H : Hp} (h : ∀ M' H', Keep M H M' H' → SqT X.K H' a vs ∧ RepVs X.K X.mg M' H' xs vs) : Serves X (enD 0 xs) (ItT X.K a) M H := fun M' H' k m i => by
  obtain ⟨h1, h2⟩ := h M' H' k
  refine ⟨fun hl => ⟨vs, h1, by rw [← h2.length, ← enD_len xs 0]; exact hl⟩, fun d e => ?_⟩
  obtain ⟨y, e0, rfl⟩ := enD_get xs 0 i d e
  obtain ⟨v, e1, r⟩ := h2.get e0
  refine ⟨⟨vs, v, h1, e1⟩, fun x H2 z => ?_⟩
  obtain ⟨T, x', rfl, n, rfl, z⟩ := z
  have z := z vs h1
  rw [e1] at z
  cases z
  exact pair_rep m n r
theorem di_enum {e : Expr} {t : TDs} {p pos tpos : Pos} {elts : List Expr} {kk : Nat} (hg : Gl X "enumerate") (hm : X.mg "enumerate" = none) (ha : DA X B [e] t) (hs : starEach [e] X.env = [(false, eval e X.env)] := by rfl) :
    DI X B (.Tuple elts kk tpos) (.Call (.Name "enumerate" p) [e] [] pos) (dEnum t) := by
  refine PI.imp (pi_enumA hg hm ha hs) fun σ H T h => ?_
  obtain ⟨ρ, M, R, hh, h, q⟩ := h
  refine ⟨ρ, M, _, hh, h, fun ds M1 vs H1 h1 k1 m1 r1 => ?_⟩
  split at h1
  · rename_i d
    obtain ⟨v, rfl, r0⟩ := r1.one
    cases d with
    | tup xs =>
      have h1 : R (enD 0 xs) M1 := h1
      have r := r0
      unfold RepV at r
      obtain ⟨a, ws, rfl, na, ha, ra⟩ := r
      exact ⟨a, ws, rfl, .inr ⟨SqT.of ha, q _ _ _ _ h1 k1 m1 (serves_ET (vs := ws) fun M' H' k => ⟨SqT.of (k.k _ _ ha na).1, RepVs.keep k _ _ ra⟩)⟩⟩
    | lst xs =>
      have h1 : R (enD 0 xs) M1 := h1
      have r := r0
      unfold RepV at r
      obtain ⟨a, ws, rfl, na, ha, ra⟩ := r
      exact ⟨a, ws, rfl, .inl ⟨SqL.of ha, q _ _ _ _ h1 k1 m1 (serves_EL (vs := ws) fun M' H' k => ⟨SqL.of (k.k _ _ ha na).1, RepVs.keep k _ _ ra⟩)⟩⟩
    | scr ns =>
      have h1 : R (enD 0 (ns.map D.int)) M1 := h1
      obtain ⟨a, rfl, ha⟩ := scr_at r0
      refine ⟨a, _, rfl, .inl ⟨ha, q _ _ _ _ h1 k1 m1 (serves_EL (vs := ns.map V.int) fun M' H' k => ⟨?_, RepVs.ints ns⟩)⟩⟩
      obtain ⟨b, e, hb⟩ := scr_at (RepV.keep k _ _ r0)
      cases e
      exact hb
    | _ => exact h1.elim
  · exact h1.elim
end
end DL
/-! The D layer, part o: name = [..]; words for the generator. -/
namespace DL
open PySem PySem.Spec L2
section
variable {X : Cx} {B : At}
theorem ds_setLc {iy : Nat} {y : Str} {py : Pos} {elt tg iter : Expr} {ifs : List Expr} {scope : Scope} {own : List (Str × Nat)} {pos spos : Pos} {ti : TDI} {tt : TDb} {te : TD} {i : Nat} (hc : X.calm = true) (hN : X.N.Nodup) (hy : X.N[iy]? = some y)
    (hyl : X.env.scope.names.lookup y = some .local) (hsw : swapsWith (.ListComp elt [⟨tg, iter, ifs, 0⟩] scope pos) (some (.Name y py)) spos.line X.env = pure true) (hi : DI X B tg iter ti) (ok : BlkOk X.N X.env.scope scope own) (hm : i ∈ own.map (·.2))
    (hg : ∀ (s : Shared) (H : Hp) (C : Addr) (cl : List (Str × Addr)) (fp : List Addr), PG (X.blk s H scope (compEnvC scope cl C X.env) fp) tg (gName i))
    (ht : ∀ (s : Shared) (H : Hp) (C : Addr) (cl : List (Str × Addr)) (fp : List Addr), DTl (X.blk s H scope (compEnvC scope cl C X.env) fp) At0 ifs tt)
    (he : ∀ (s : Shared) (H : Hp) (C : Addr) (cl : List (Str × Addr)) (fp : List Addr), DE (X.blk s H scope (compEnvC scope cl C X.env) fp) At0 elt te)
    (hs : ∀ x, foldedSetIterable iter X.env x = pure x := by intro _; rfl) : DS X B (.Assign [.Name y py] (.ListComp elt [⟨tg, iter, ifs, 0⟩] scope pos) spos) (dAsg (dLC (own.map (·.2)) i ti tt te) (dgName iy)) := by
  refine PS.imp (ps_setLc (g := gName i) (tt := lftT X At0 tt) (te := lft X At0 te) hc hN hy hyl hsw hi ok hg (fun s H C cl fp => PTs.imp (ht s H C cl fp) fun σ H Q h => lftT_blk h) (fun s H C cl fp => PE.imp (he s H C cl fp) fun σ H Q h => lft_blk h) hs) fun D σ H h => ?_
  obtain ⟨C0, ρ, M, E, kb, hh, le, h⟩ := h
  refine lc_read (Q := fun x H1 => gName iy x σ H1 D.nx) hm (hh.base kb) h fun p M' H' z k m => ?_
  obtain ⟨acc, ea, z⟩ := z
  obtain ⟨vs, ha, rs⟩ := m p _ ea
  refine le.nx _ _ _ _ ((hh.step k.dm (m.less dm_le)).set ?_) z
  unfold RepV
  exact ⟨p, vs, rfl, dm_same _ _, ha, RepVs.keep (Keep.rfl'.less dm_le) _ _ rs⟩
end
section
variable {P : Program} {w : World} {K : PySem.W.Frag} {mg : Str → Option Value} {base : Heap}
theorem GProp.mono {j k : Nat} {c f : Str} {sp : DSp} (G : GProp P w K mg base j c f sp) (h : j ≤ k) : GProp P w K mg base k c f sp := let ⟨C, p, g, fd, a, b, d, F, e⟩ := G; ⟨C, p, g, fd, a, b, d, F.mono h, e⟩
theorem GMk.mono {j k : Nat} {c : Str} {ps : List Str} {sp : DSp} (G : GMk P w K mg base j c ps sp) (h : j ≤ k) : GMk P w K mg base k c ps sp := let ⟨C, f, fd, a, b, F, e⟩ := G; ⟨C, f, fd, a, b, F.mono h, e⟩
theorem GFnK.mono {j k : Nat} {x : Str} {n : Nat} {ks : List Str} {is : List Nat} {sp : DSp} (G : GFnK P w K mg base j x n ks is sp) (h : j ≤ k) : GFnK P w K mg base k x n ks is sp := let ⟨f, fd, ps, F, e⟩ := G; ⟨f, fd, ps, F.mono h, e⟩
/-- nothing is promised: where a recursion ends -/
theorem DFn.bot {k : Nat} {f : Addr} {fd : FuncData} {ps : List Str} : DFn P w K mg base k f fd ps (fun _ _ _ _ => False) := ⟨fun _ _ _ _ h => h.elim, fun _ _ _ _ _ _ _ _ _ _ _ _ _ _ _ _ _ h => h.elim⟩
theorem Cy.le {A : Around} {j k : Nat} (c : Cy A k) (h : j ≤ k := by decide) : Cy A j := c.mono h
end
theorem prop_gp {P : Program} {w : World} {K : PySem.W.Frag} {mg : Str → Option Value} {base h : Heap} {k : Nat} {c f : Str} {sp : DSp} {fd : FuncData} (X : K.In h) (G : h.Ns mainGlobals mg) (g : (Fx.fa (.glo c)).ok K = true) (i : (Fx.ins c).ok K = true) (p : (Fx.prop c f).ok K = true)
    (F : DFn P w K mg base k (gAd K c f) fd ["self"] sp) (b : Binds K fd ["self"] []) : GProp P w K mg base k c f sp := ⟨_, _, _, fd, He.glo_ok X G (fa_ok g), (ins_ok i).cl, prop_ok p, F, b⟩
theorem fld_n {K : PySem.W.Frag} {mg : Str → Option Value} {h : Heap} {c f : Str} (X : K.In h) (G : h.Ns mainGlobals mg) (g : (Fx.fa (.glo c)).ok K = true) (i : (Fx.ins c).ok K = true) (n : (Fx.fa (.noat c f)).ok K = true) : FldN K mg c f := ⟨_, He.glo_ok X G (fa_ok g), (ins_ok i).cl, He.noat_ok (fa_ok n)⟩
theorem mk_g {P : Program} {w : World} {K : PySem.W.Frag} {mg : Str → Option Value} {base h : Heap} {k : Nat} {c : Str} {ps : List Str} {sp : DSp} {fd : FuncData} (X : K.In h) (G : h.Ns mainGlobals mg) (g : (Fx.fa (.glo c)).ok K = true) (i : (Fx.fa (.mkr c)).ok K = true)
    (F : DFn P w K mg base k (He.ma K (He.ga K c) "__init__") fd ps sp) (b : Binds K fd ps []) : GMk P w K mg base k c ps sp := ⟨_, _, fd, He.glo_ok X G (fa_ok g), He.mkr_ok (fa_ok i), F, b⟩
theorem kit_n {K : PySem.W.Frag} {mg : Str → Option Value} {h : Heap} {c : Str} (X : K.In h) (G : h.Ns mainGlobals mg) (g : (Fx.fa (.glo c)).ok K = true) (i : (Fx.ins c).ok K = true) (k1 : (Fx.kit (.ty "NoneType") (.own c) false).ok K = true) (k2 : (Fx.kit (.ty "bool") (.own c) false).ok K = true)
    (k3 : (Fx.kit (.ty "int") (.own c) false).ok K = true) (k4 : (Fx.kit (.ty "str") (.own c) false).ok K = true) (k5 : (Fx.kit (.ty "tuple") (.own c) false).ok K = true) (k6 : (Fx.kit (.ty "list") (.own c) false).ok K = true) : KitN K mg c :=
  ⟨_, He.glo_ok X G (fa_ok g), ins_ok i, fun n hn => by
    simp only [List.mem_cons, List.not_mem_nil, or_false] at hn
    rcases hn with rfl | rfl | rfl | rfl | rfl | rfl
    · exact kit_ok k1
    · exact kit_ok k2
    · exact kit_ok k3
    · exact kit_ok k4
    · exact kit_ok k5
    · exact kit_ok k6⟩
theorem cls_g {K : PySem.W.Frag} {mg : Str → Option Value} {h : Heap} {c : Str} (X : K.In h) (G : h.Ns mainGlobals mg) (g : (Fx.fa (.glo c)).ok K = true) : ∃ C, mg c = some (.ref C) := ⟨_, He.glo_ok X G (fa_ok g)⟩
end DL
/-! The D layer, part p: methods, C(k = v). -/
namespace DL
open PySem PySem.Spec L2
/-- the class c has the method m, a def that keeps sp -/
def GMeth (P : Program) (w : World) (K : PySem.W.Frag) (mg : Str → Option Value) (base : Heap) (k : Nat) (c m : Str) (ps : List Str) (sp : DSp) : Prop :=
  ∃ C f fd, mg c = some (.ref C) ∧ Cls K C ∧ Meth K C m f ∧ DFn P w K mg base k f fd ps sp ∧ Binds K fd ps []
theorem GMeth.mono {P : Program} {w : World} {K : PySem.W.Frag} {mg : Str → Option Value} {base : Heap} {j k : Nat} {c m : Str} {ps : List Str} {sp : DSp} (G : GMeth P w K mg base j c m ps sp) (h : j ≤ k) : GMeth P w K mg base k c m ps sp :=
  let ⟨C, f, fd, a, b, d, F, e⟩ := G; ⟨C, f, fd, a, b, d, F.mono h, e⟩
/-- an instance of the class that has no attribute of the name -/
def canM (M : Mp) (c m : Str) : D → Prop
  | .inst c' fn _ => c' = c ∧ m ∉ fn
  | .ref a => match M a with
    | some (.ins c' fs) => c' = c ∧ fs.lookup m = none
    | _ => False
  | _ => False
theorem lookup_notin {m : Str} : ∀ {gs : List (Str × V)}, m ∉ gs.map (·.1) → gs.lookup m = none
  | [], _ => rfl
  | (g, v) :: gs, h => by
    rw [List.map_cons, List.mem_cons, not_or] at h
    rw [List.lookup_cons, show (m == g) = false from beq_false_of_ne h.1]
    exact lookup_notin h.2
theorem lookup_none_in {m : Str} : ∀ {fs : List (Str × D)}, fs.lookup m = none → m ∉ fs.map (·.1)
  | [], _ => by simp
  | (g, v) :: fs, h => by
    rw [List.lookup_cons] at h
    cases q : m == g with
    | true => rw [q] at h; cases h
    | false =>
      rw [q] at h
      rw [List.map_cons, List.mem_cons, not_or]
      exact ⟨fun z => by subst z; simp at q, lookup_none_in h⟩
theorem canM_rep {K : PySem.W.Frag} {mg : Str → Option Value} {M : Mp} {H : Hp} (mm : RepM K mg M H) {c m : Str} {d : D} {v : V} (r : RepV K mg M H d v) (l : canM M c m d) :
    ∃ a C dx fs, v = .ref a ∧ H a = some (.ins C dx fs) ∧ mg c = some (.ref C) ∧ fs.lookup m = none := by
  unfold canM at l
  split at l
  · obtain ⟨rfl, l⟩ := l
    unfold RepV at r
    obtain ⟨a, C, dx, fs, rfl, n, hc, ha, hf, rs⟩ := r
    exact ⟨a, C, dx, fs, rfl, ha, hc, lookup_notin (by rw [hf]; exact l)⟩
  · rename_i a
    unfold RepV at r
    subst r
    split at l
    · rename_i c' fs e
      obtain ⟨rfl, l⟩ := l
      obtain ⟨C, dx, gs, hc, ha, hF⟩ := mm a _ e
      exact ⟨a, C, dx, gs, rfl, ha, hc, lookup_notin (by rw [hF.1]; exact lookup_none_in l)⟩
    · exact l.elim
  · exact l.elim
section
variable {X : Cx} {B : At}
def dMeth (c m : Str) (sp : DSp) (W : DW') (o : TD) (t : TDs) : TD := fun ρ M Q => o ρ M fun d M1 => canM M1 c m d ∧ t ρ M1 fun ds M2 => sp (d :: ds) M2 Q fun x M3 => W x ρ M3
theorem de_meth {k : Nat} {c m : Str} {ps : List Str} {sp : DSp} {W : DW'} {o e : Expr} {es : List Expr} {to : TD} {t : TDs} {apos pos : Pos} {pl : Sem Bool} (G : GMeth X.prog X.w X.K X.mg X.base k c m ps sp) (cy : Cy X.A k) (tk : DTk X B W) (ho : DE X B o to) (ha : DA X B (e :: es) t)
    (hst : starEach (e :: es) X.env = (false, eval e X.env) :: starEach es X.env := by rfl) (hpl : (backTo pos (starEach es X.env)).any (·.1) = false := by rfl)
    (ht : eval (.Call (.Attribute o m apos) (e :: es) [] pos) X.env = (do
      let ov ← eval o X.env
      standAt apos.atName
      let (f, first) ← holding [ov] (getMethod ov m pl)
      callWith pos f first (backTo pos (starEach (e :: es) X.env)) (backToKw pos (keywordEach [] X.env))) := by rfl) :
    DE X B (.Call (.Attribute o m apos) (e :: es) [] pos) (dMeth c m sp W to t) := by
  obtain ⟨C, f, fd, hm, cl, hmeth, F, hb⟩ := G
  constructor
  intro pins s σ H Q I h
  obtain ⟨ρ, M, R, hh, h, q⟩ := h
  refine PySem.W.methodCall_KW (pl := pl) (thn (ho.run pins s σ H (fun v H1 => ∃ d M1, Keep M H M1 H1 ∧ RepM X.K X.mg M1 H1 ∧ RepV X.K X.mg M1 H1 d v ∧ canM M1 c m d ∧ t ρ M1 fun ds M2 => sp (d :: ds) M2 R fun x M3 => W x ρ M3) I
    ⟨ρ, M, _, hh, h, fun d M1 v H1 h1 k1 m1 r1 => ⟨d, M1, k1, m1, r1, h1⟩⟩) fun u s1 hs => ?_) ht
  obtain ⟨v, H1, I1, rv, d, M1, k1, m1, r1, hc, h1⟩ := hs
  obtain ⟨a, C', dx, fs, rfl, ea, hc', hl⟩ := canM_rep m1 r1 hc
  rw [hm] at hc'
  cases hc'
  obtain rfl : u = Value.ref a := rv
  refine getmeth_ok I1 ea cl hmeth hl ?_
  refine PySem.W.callWith_K (first := [.ref a]) (h₀ := X.base) I.ok.mod.kin hmeth.kp (thn (ha.run pos pins s1 σ H1 (fun vs H2 => ∃ ds M2, Keep M1 H1 M2 H2 ∧ RepM X.K X.mg M2 H2 ∧ RepVs X.K X.mg M2 H2 ds vs ∧ sp (d :: ds) M2 R fun x M3 => W x ρ M3) I1
    ⟨ρ, M1, _, hh.step k1 m1, h1, fun ds M2 vs H2 h2 k2 m2 r2 => ⟨ds, M2, k2, m2, r2, h2⟩⟩) fun us s2 hs => ?_) hst hpl
  obtain ⟨vs, H2, I2, r, ds, M2, k2, m2, r2, h2⟩ := hs
  exact ⟨I2.kIn, run_call (us := .ref a :: us) (vs := .ref a :: vs) (ds := d :: ds) F cy tk hb I2 ((hh.step k1 m1).step k2 m2) (.cons rfl r) (.cons (RepV.keep k2 _ _ r1) r2) h2 fun d M3 v H3 h3 k3 m3 r3 => q d M3 v H3 h3 ((k1.trans k2).trans k3) m3 r3⟩
theorem de_meth0 {k : Nat} {c m : Str} {ps : List Str} {sp : DSp} {W : DW'} {o : Expr} {to : TD} {apos pos : Pos} {pl : Sem Bool} (G : GMeth X.prog X.w X.K X.mg X.base k c m ps sp) (cy : Cy X.A k) (tk : DTk X B W) (ho : DE X B o to)
    (ht : eval (.Call (.Attribute o m apos) [] [] pos) X.env = (do
      let ov ← eval o X.env
      standAt apos.atName
      let (f, first) ← holding [ov] (getMethod ov m pl)
      callWith pos f first (backTo pos (starEach [] X.env)) (backToKw pos (keywordEach [] X.env))) := by rfl) :
    DE X B (.Call (.Attribute o m apos) [] [] pos) (dMeth c m sp W to dNil) := by
  obtain ⟨C, f, fd, hm, cl, hmeth, F, hb⟩ := G
  constructor
  intro pins s σ H Q I h
  obtain ⟨ρ, M, R, hh, h, q⟩ := h
  refine PySem.W.methodCall_KW (pl := pl) (thn (ho.run pins s σ H (fun v H1 => ∃ d M1, Keep M H M1 H1 ∧ RepM X.K X.mg M1 H1 ∧ RepV X.K X.mg M1 H1 d v ∧ canM M1 c m d ∧ sp [d] M1 R fun x M3 => W x ρ M3) I
    ⟨ρ, M, _, hh, h, fun d M1 v H1 h1 k1 m1 r1 => ⟨d, M1, k1, m1, r1, h1⟩⟩) fun u s1 hs => ?_) ht
  obtain ⟨v, H1, I1, rv, d, M1, k1, m1, r1, hc, h1⟩ := hs
  obtain ⟨a, C', dx, fs, rfl, ea, hc', hl⟩ := canM_rep m1 r1 hc
  rw [hm] at hc'
  cases hc'
  obtain rfl : u = Value.ref a := rv
  refine getmeth_ok I1 ea cl hmeth hl ?_
  exact PySem.W.callWith_K0 (first := [.ref a]) I1.kIn hmeth.kp (run_call (us := [.ref a]) (vs := [.ref a]) (ds := [d]) F cy tk hb I1 (hh.step k1 m1) (.cons rfl .nil) (.cons r1 .nil) h1 fun d M3 v H3 h3 k3 m3 r3 => q d M3 v H3 h3 (k1.trans k3) m3 r3)
end
theorem meth_g {P : Program} {w : World} {K : PySem.W.Frag} {mg : Str → Option Value} {base h : Heap} {k : Nat} {c m : Str} {ps : List Str} {sp : DSp} {fd : FuncData} (X : K.In h) (G : h.Ns mainGlobals mg) (g : (Fx.fa (.glo c)).ok K = true) (i : (Fx.ins c).ok K = true) (y : (Fx.fa (.meth c m)).ok K = true)
    (F : DFn P w K mg base k (He.ma K (He.ga K c) m) fd ps sp) (b : Binds K fd ps []) : GMeth P w K mg base k c m ps sp := ⟨_, _, fd, He.glo_ok X G (fa_ok g), (ins_ok i).cl, He.meth_ok (fa_ok y), F, b⟩
/-! ### C(k = v, ..) -/
def GMkK (P : Program) (w : World) (K : PySem.W.Frag) (mg : Str → Option Value) (base : Heap) (k : Nat) (c : Str) (n : Nat) (ks : List Str) (is : List Nat) (sp : DSp) : Prop :=
  ∃ C f fd ps, mg c = some (.ref C) ∧ Mk K C f ∧ DFn P w K mg base k f fd ps sp ∧ KwB K fd ps (n + 1) ks is
theorem GMkK.mono {P : Program} {w : World} {K : PySem.W.Frag} {mg : Str → Option Value} {base : Heap} {j k : Nat} {c : Str} {n : Nat} {ks : List Str} {is : List Nat} {sp : DSp} (G : GMkK P w K mg base j c n ks is sp) (h : j ≤ k) : GMkK P w K mg base k c n ks is sp :=
  let ⟨C, f, fd, ps, a, b, F, e⟩ := G; ⟨C, f, fd, ps, a, b, F.mono h, e⟩
section
variable {X : Cx} {B : At}
theorem run_makeK {k n : Nat} {c : Str} {ks ps : List Str} {is : List Nat} {sp : DSp} {W : DW'} {C f : Addr} {fd : FuncData} {pins : List (Addr × Obj)} {σ : L2.St} {H : Hp} {s : Shared} {M : Mp} {ρ : Rho} {us ws : List Value} {vs zs : List V} {ds es : List D} {R : Addr → DK} {Q : VK}
    (hm : X.mg c = some (.ref C)) (Y : Mk X.K C f) (F : DFn X.prog X.w X.K X.mg X.base k f fd ps sp) (cy : Cy X.A (k + 1)) (tk : DTk X B W) (hb : KwB X.K fd ps (n + 1) ks is) (I : Inv X pins σ H s) (hh : Here X B ρ σ M H) (r : Vals vs us) (rz : Vals zs ws)
    (rs : RepVs X.K X.mg M H ds vs) (rt : RepVs X.K X.mg M H es zs) (hl : ds.length = n ∧ es.length = ks.length)
    (h : ∀ x, M x = none → sp (pick is ((.ref x :: ds) ++ es)) (um M x (.ins c [])) (R x) fun e M2 => W e ρ M2)
    (q : ∀ x d M' H', M x = none → R x d M' → Keep M H M' H' → RepM X.K X.mg M' H' → d = .non ∧ Q (.ref x) H') :
    wpAny (model X.prog X.w) X.A (call (.ref C) us (ks.zip ws)) (EP X pins σ Q) X.xe s := by
  have n1 : H (s.heap.objs.size + 1) = none := I.hok.fresh (Nat.le_succ _)
  have n0 : H s.heap.objs.size = none := I.hok.fresh (Nat.le_refl _)
  have ne : s.heap.objs.size ≠ s.heap.objs.size + 1 := Nat.ne_of_lt (Nat.lt_succ_self _)
  have n1' : upd H s.heap.objs.size (.own (s.heap.objs.size + 1)) (s.heap.objs.size + 1) = none := by rw [upd_ne (Ne.symm ne)]; exact n1
  have nM := hh.m.free n1
  have hq := h (s.heap.objs.size + 1) nM
  have k0 : Keep M H M (upd H s.heap.objs.size (.own (s.heap.objs.size + 1))) := Keep.new hh.m n0
  have m0 := hh.m.new (o := .own (s.heap.objs.size + 1)) n0
  have k1 : Keep M (upd H s.heap.objs.size (.own (s.heap.objs.size + 1))) (um M (s.heap.objs.size + 1) (.ins c [])) (upd (upd H s.heap.objs.size (.own (s.heap.objs.size + 1))) (s.heap.objs.size + 1) (.ins C s.heap.objs.size [])) := Keep.newM m0 n1'
  have m1 := m0.newM (o := .ins C s.heap.objs.size []) (u := .ins c []) n1' ⟨C, _, [], hm, (by rw [upd_same]), rfl, .nil⟩
  have kk := k0.trans k1
  have I2 := Inv.made (C := C) I
  have l1 : (Value.ref (s.heap.objs.size + 1) :: us).length = n + 1 := by rw [List.length_cons, ← r.length, ← rs.length, hl.1]
  have l2 : ws.length = ks.length := by rw [← rz.length, ← rt.length, hl.2]
  have rr : Vals (V.ref (s.heap.objs.size + 1) :: vs) (Value.ref (s.heap.objs.size + 1) :: us) := .cons rfl r
  have rrs : RepVs X.K X.mg (um M (s.heap.objs.size + 1) (.ins c [])) (upd (upd H s.heap.objs.size (.own (s.heap.objs.size + 1))) (s.heap.objs.size + 1) (.ins C s.heap.objs.size [])) ((.ref (s.heap.objs.size + 1) :: ds) ++ es) ((.ref (s.heap.objs.size + 1) :: vs) ++ zs) :=
    (RepVs.cons (by unfold RepV; rfl) (RepVs.keep kk _ _ rs)).append (RepVs.keep kk _ _ rt)
  refine wpAny_call (make_map (f := f) I.kIn Y.makes Y.init (beq_iff_eq.mp Y.fn) (codeAny_mono (F.run _ X.stack _ _ _ ⟨Value.ref (s.heap.objs.size + 1) :: us, ks.zip ws⟩ _ _ _ _ _ (cy.make C us (ks.zip ws))
    (I2.env0.make C us (ks.zip ws)) (hb _ (Value.ref (s.heap.objs.size + 1) :: us) ws l1 l2) (Vals.pick (rr.append rz) is) m1 (RepVs.pick rrs is) hq) fun r s' hq' => ?_))
  cases r with
  | error e =>
    refine tk e s' (XE.of_call (W := lftX X B W) I2 (fun cls dd H' he => ?_) hq')
    obtain ⟨x, M', k', m', rx, _, e'⟩ := he
    exact ⟨ρ, M', x, (hh.step kk m1).step k' m', rx, e'⟩
  | ok fl =>
    cases fl with
    | ret u =>
      obtain ⟨v, H', I3, rv, d, M', k', m', rd, hR⟩ := I2.after hq'
      obtain ⟨ed, hQ⟩ := q _ d M' H' nM hR (kk.trans k') m'
      subst ed
      unfold RepV at rd
      subst rd
      exact ⟨rv, ⟨V.ref (s.heap.objs.size + 1), H', I3, rfl, hQ⟩⟩
    | next => exact False.elim hq'
    | brk => exact False.elim hq'
    | cont => exact False.elim hq'
def dMakeK (c : Str) (m : Nat) (is : List Nat) (sp : DSp) (W : DW') (tk : TDs) : TD := fun ρ M Q => tk ρ M fun es M1 => es.length = m ∧ ∀ x, M1 x = none → sp (pick is (.ref x :: es)) (um M1 x (.ins c [])) (mkQ c x Q) fun e M2 => W e ρ M2
theorem de_makeK0 {k : Nat} {c : Str} {ks : List Str} {is : List Nat} {sp : DSp} {W : DW'} {kws : List Keyword} {tk : TDs} {p pos : Pos} (G : GMkK X.prog X.w X.K X.mg X.base k c 0 ks is sp) (cy : Cy X.A (k + 1)) (tkk : DTk X B W) (hg : Gl X c) (hkw : DKw X B kws tk)
    (hks : (backToKw pos (keywordEach kws X.env)).filterMap (·.1) = ks := by rfl) (hall : (backToKw pos (keywordEach kws X.env)).all (·.1.isSome) = true := by rfl) (hdb : (c == ("__debug__" : Str)) = false := by decide)
    (hpl : ((backTo pos (starEach [] X.env)).any (·.1) || (backToKw pos (keywordEach kws X.env)).any (·.1.isNone)) = false := by rfl) : DE X B (.Call (.Name c p) [] kws pos) (dMakeK c ks.length is sp W tk) := by
  obtain ⟨C, f, fd, ps, hm, Y, F, hb⟩ := G
  constructor
  intro pins s σ H Q I h
  obtain ⟨ρ, M, R, hh, h, q⟩ := h
  refine wpAny_Call_Name_kw (ld_glob I hg hm ?_ hdb)
  refine PySem.W.callWith_KW0 (h₀ := X.base) I.ok.mod.kin Y.kp hall ?_ hpl
  refine thn (hkw.run pos pins s σ H (fun vs H1 => ∃ es M1, Keep M H M1 H1 ∧ RepM X.K X.mg M1 H1 ∧ RepVs X.K X.mg M1 H1 es vs ∧ es.length = ks.length ∧ ∀ x, M1 x = none → sp (pick is (.ref x :: es)) (um M1 x (.ins c [])) (mkQ c x R) fun e M2 => W e ρ M2) I
    ⟨ρ, M, _, hh, h, fun ds M1 vs H1 h1 k1 m1 r1 => ⟨ds, M1, k1, m1, r1, h1⟩⟩) fun ws s2 hs => ?_
  obtain ⟨zs, H2, I2, rz, es, M2, k2, m2, r2, hl, h2⟩ := hs
  refine ⟨I2.kIn, ?_⟩
  rw [hks]
  refine run_makeK (us := []) (vs := []) (ds := []) (R := fun x => mkQ c x R) hm Y F cy tkk hb I2 (hh.step k2 m2) .nil rz .nil r2 ⟨rfl, hl⟩ h2 fun x d M' H' n z k m => ?_
  unfold mkQ at z
  split at z
  · split at z
    · rename_i c' fs e1
      obtain ⟨rfl, z⟩ := z
      refine ⟨rfl, ?_⟩
      obtain ⟨C', dx, gs, hc, ha, hF⟩ := m x _ e1
      refine q _ _ _ _ z (k2.trans k.dm) (m.less dm_le) ?_
      unfold RepV
      exact ⟨x, C', dx, gs, rfl, dm_same _ _, hc, ha, hF.1, RepVs.keep (Keep.rfl'.less dm_le) _ _ hF.2⟩
    · exact z.elim
  · exact z.elim
end
theorem mkk_g {P : Program} {w : World} {K : PySem.W.Frag} {mg : Str → Option Value} {base h : Heap} {k n : Nat} {c : Str} {ks ps : List Str} {is : List Nat} {sp : DSp} {fd : FuncData} (X : K.In h) (G : h.Ns mainGlobals mg) (g : (Fx.fa (.glo c)).ok K = true) (i : (Fx.fa (.mkr c)).ok K = true)
    (F : DFn P w K mg base k (He.ma K (He.ga K c) "__init__") fd ps sp) (b : KwB K fd ps (n + 1) ks is) : GMkK P w K mg base k c n ks is sp := ⟨_, _, fd, ps, He.glo_ok X G (fa_ok g), He.mkr_ok (fa_ok i), F, b⟩
end DL
/-! The D layer, part q: texts of data fit; loops and comprehensions over mapped lists. -/
namespace DL
open PySem PySem.Spec L2
mutual
/-- ints of less than B - 1 digits, plain texts of short codes -/
def D.fit (B : Nat) : D → Prop
  | .non => True
  | .bl _ => True
  | .int i => i.natAbs < 10 ^ (B - 1)
  | .str s => PyData.canLay0 (.str s) = true ∧ ∀ c ∈ s.cps.toList, c < 16 ^ 8
  | .tup xs => fits B xs
  | .lst xs => fits B xs
  | .scr _ => False
  | .inst _ _ _ => False
  | .ref _ => False
  | .cls _ => False
  | .ty _ => False
  | .dct => False
def fits (B : Nat) : List D → Prop
  | [] => True
  | x :: xs => x.fit B ∧ fits B xs
end
mutual
def D.sz (B : Nat) : D → Nat
  | .int _ => B
  | .str s => 10 * s.cps.size + 2
  | .tup xs => szs B xs + 3
  | .lst xs => szs B xs + 3
  | _ => 5
def szs (B : Nat) : List D → Nat
  | [] => 0
  | x :: xs => x.sz B + 2 + szs B xs
end
mutual
def D.dp : D → Nat
  | .tup xs => dps xs + 1
  | .lst xs => dps xs + 1
  | _ => 0
def dps : List D → Nat
  | [] => 0
  | x :: xs => max x.dp (dps xs)
end
theorem pys_length : ∀ xs : List D, (pys xs).length = xs.length
  | [] => rfl
  | x :: xs => by simp [pys, pys_length xs]
theorem shownAll_len (xs : List PyData) : (PyData.shownAll xs).length = xs.length := PyData.shownAll_length xs
mutual
theorem D.sz_le (B : Nat) (hB : 2 ≤ B) : ∀ d : D, d.fit B → d.py.shown.length ≤ d.sz B
  | .non, _ => by show 4 ≤ 5; decide
  | .bl b, _ => by cases b <;> (simp only [D.py, D.sz]; decide)
  | .int i, h => by
    have h' : i.natAbs < 10 ^ (B - 1) := by simpa only [D.fit] using h
    have e := PySem.int_text_length_le10 (a := i) (k := B - 1) (by omega) h'
    show (PySem.Str.ofString (toString i)).length ≤ B
    rw [PySem.ofString_length]
    omega
  | .str x, h => by
    have h' : PyData.canLay0 (.str x) = true ∧ ∀ c ∈ x.cps.toList, c < 16 ^ 8 := by simpa only [D.fit] using h
    have e := StrLaws.reprText_len x h'.2
    have e2 : x.length = x.cps.size := rfl
    simp only [D.py, PyData.shown, D.sz]
    omega
  | .lst xs, h => by
    have h1 := szs_le B hB xs (by simpa only [D.fit] using h)
    have h2 := listText_len_le (PyData.shownAll (pys xs))
    simp only [D.py, PyData.shown, D.sz]
    rw [shownAll_len, pys_length] at h2
    omega
  | .tup xs, h => by
    have h1 := szs_le B hB xs (by simpa only [D.fit] using h)
    have h2 := tupleText_len_le (PyData.shownAll (pys xs))
    simp only [D.py, PyData.shown, D.sz]
    rw [shownAll_len, pys_length] at h2
    omega
  | .scr _, h => by unfold D.fit at h; exact h.elim
  | .inst _ _ _, h => by unfold D.fit at h; exact h.elim
  | .ref _, h => by unfold D.fit at h; exact h.elim
  | .cls _, h => by unfold D.fit at h; exact h.elim
  | .ty _, h => by unfold D.fit at h; exact h.elim
  | .dct, h => by unfold D.fit at h; exact h.elim
theorem szs_le (B : Nat) (hB : 2 ≤ B) : ∀ xs : List D, fits B xs → ((PyData.shownAll (pys xs)).map (·.length)).sum + 2 * xs.length ≤ szs B xs
  | [], _ => by simp [pys, PyData.shownAll, szs]
  | x :: xs, h => by
    have h' : x.fit B ∧ fits B xs := by simpa only [fits] using h
    have h1 := D.sz_le B hB x h'.1
    have h2 := szs_le B hB xs h'.2
    simp only [pys, PyData.shownAll, List.map_cons, List.sum_cons, List.length_cons, szs]
    omega
end
mutual
theorem D.fit_show (B : Nat) (hB : B ≤ 570) : ∀ d : D, d.fit B → d.py.showable = true
  | .non, _ => rfl
  | .bl b, _ => rfl
  | .int i, h => by
    have h' : i.natAbs < 10 ^ (B - 1) := by simpa only [D.fit] using h
    simp only [D.py, PyData.showable, decide_eq_true_eq]
    by_cases z : i.natAbs = 0
    · rw [z]; decide
    · refine (Nat.log2_lt (n := i.natAbs) (k := 1920) z).mpr (Nat.lt_of_lt_of_le h' ?_)
      refine Nat.le_trans (Nat.pow_le_pow_right (by decide) (show B - 1 ≤ 569 by omega)) ?_
      exact show (10 : Nat) ^ 569 ≤ 2 ^ 1920 by decide +kernel
  | .str x, h => rfl
  | .lst xs, h => by simp only [D.py, PyData.showable]; exact fits_show B hB xs (by simpa only [D.fit] using h)
  | .tup xs, h => by simp only [D.py, PyData.showable]; exact fits_show B hB xs (by simpa only [D.fit] using h)
  | .scr _, h => by unfold D.fit at h; exact h.elim
  | .inst _ _ _, h => by unfold D.fit at h; exact h.elim
  | .ref _, h => by unfold D.fit at h; exact h.elim
  | .cls _, h => by unfold D.fit at h; exact h.elim
  | .ty _, h => by unfold D.fit at h; exact h.elim
  | .dct, h => by unfold D.fit at h; exact h.elim
theorem fits_show (B : Nat) (hB : B ≤ 570) : ∀ xs : List D, fits B xs → PyData.showableAll (pys xs) = true
  | [], _ => rfl
  | x :: xs, h => by
    have h' : x.fit B ∧ fits B xs := by simpa only [fits] using h
    simp only [pys, PyData.showableAll, Bool.and_eq_true]
    exact ⟨D.fit_show B hB x h'.1, fits_show B hB xs h'.2⟩
end
mutual
theorem D.fit_pl (B : Nat) : ∀ (d : D) (n : Nat), d.fit B → d.dp ≤ n → d.pl n = true
  | .non, n, _, _ => by cases n <;> rfl
  | .bl b, n, _, _ => by cases n <;> rfl
  | .int i, n, _, _ => by cases n <;> rfl
  | .str x, n, h, _ => by
    have h' : PyData.canLay0 (.str x) = true ∧ ∀ c ∈ x.cps.toList, c < 16 ^ 8 := by simpa only [D.fit] using h
    cases n <;> exact h'.1
  | .lst xs, n, h, k => by
    simp only [D.dp] at k
    obtain ⟨n, rfl⟩ : ∃ m, n = m + 1 := ⟨n - 1, by omega⟩
    exact fits_pl B xs n (by simpa only [D.fit] using h) (by omega)
  | .tup xs, n, h, k => by
    simp only [D.dp] at k
    obtain ⟨n, rfl⟩ : ∃ m, n = m + 1 := ⟨n - 1, by omega⟩
    exact fits_pl B xs n (by simpa only [D.fit] using h) (by omega)
  | .scr _, _, h, _ => by unfold D.fit at h; exact h.elim
  | .inst _ _ _, _, h, _ => by unfold D.fit at h; exact h.elim
  | .ref _, _, h, _ => by unfold D.fit at h; exact h.elim
  | .cls _, _, h, _ => by unfold D.fit at h; exact h.elim
  | .ty _, _, h, _ => by unfold D.fit at h; exact h.elim
  | .dct, _, h, _ => by unfold D.fit at h; exact h.elim
theorem fits_pl (B : Nat) : ∀ (xs : List D) (n : Nat), fits B xs → dps xs ≤ n → pls n xs = true
  | [], n, _, _ => by simp [pls]
  | x :: xs, n, h, k => by
    have h' : x.fit B ∧ fits B xs := by simpa only [fits] using h
    simp only [dps] at k
    simp only [pls, Bool.and_eq_true]
    exact ⟨D.fit_pl B x n h'.1 (by omega), fits_pl B xs n h'.2 (by omega)⟩
end
/-- what repr asks -/
theorem repr_ok (B : Nat) {d : D} (hB : 2 ≤ B ∧ B ≤ 570) (h : d.fit B) (hr : d.isRef = true) (hd : d.dp ≤ 12) (hz : d.sz B ≤ 16777216) : d.isRef = true ∧ d.pl 12 = true ∧ d.py.showable = true ∧ d.py.shown.length ≤ 16777216 :=
  ⟨hr, D.fit_pl B d 12 h hd, D.fit_show B hB.2 d h, Nat.le_trans (D.sz_le B hB.1 d h) hz⟩
theorem fits_map {α : Type} (B : Nat) (f : α → D) : ∀ L : List α, (∀ x ∈ L, (f x).fit B) → fits B (L.map f)
  | [], _ => by simp [fits]
  | x :: L, h => by
    simp only [List.map_cons, fits]
    exact ⟨h x (List.mem_cons_self ..), fits_map B f L fun y hy => h y (List.mem_cons_of_mem _ hy)⟩
theorem fits_app (B : Nat) : ∀ xs ys : List D, fits B xs → fits B ys → fits B (xs ++ ys)
  | [], ys, _, h => h
  | x :: xs, ys, h, k => by
    have h' : x.fit B ∧ fits B xs := by simpa only [fits] using h
    simp only [List.cons_append, fits]
    exact ⟨h'.1, fits_app B xs ys h'.2 k⟩
theorem fits_ints (B : Nat) (L : List Int) (h : ∀ x ∈ L, x.natAbs < 10 ^ (B - 1)) : fits B (L.map .int) := fits_map B .int L fun x hx => by simpa only [D.fit] using h x hx
theorem szs_ints (B : Nat) : ∀ L : List Int, szs B (L.map .int) = (B + 2) * L.length
  | [] => rfl
  | x :: L => by simp only [List.map_cons, szs, D.sz, szs_ints B L, List.length_cons, Nat.mul_add]; omega
theorem szs_le_map {α : Type} (B K : Nat) (f : α → D) : ∀ L : List α, (∀ x ∈ L, (f x).sz B ≤ K) → szs B (L.map f) ≤ (K + 2) * L.length
  | [], _ => Nat.le_refl _
  | x :: L, h => by
    have h1 := h x (List.mem_cons_self ..)
    have h2 := szs_le_map B K f L fun y hy => h y (List.mem_cons_of_mem _ hy)
    simp only [List.map_cons, szs, List.length_cons, Nat.mul_add]
    omega
theorem dps_ints : ∀ L : List Int, dps (L.map .int) = 0
  | [] => rfl
  | x :: L => by simp only [List.map_cons, dps, D.dp, dps_ints L, Nat.max_self]
theorem dps_le {n : Nat} : ∀ L : List D, (∀ x ∈ L, x.dp ≤ n) → dps L ≤ n
  | [], _ => Nat.zero_le _
  | x :: L, h => by
    have h1 := h x (List.mem_cons_self ..)
    have h2 := dps_le L fun y hy => h y (List.mem_cons_of_mem _ hy)
    simp only [dps]
    omega
/-- equal data -/
theorem eqv_same (B : Nat) {d : D} (h : d.fit B) (hd : d.dp ≤ 12) : D.eqv d d = true := eqv_self (D.fit_pl B d 12 h hd)
theorem mul_l {i j : Int} (h : -(2 ^ 64) < i ∧ i < 2 ^ 64) : mulOk i j := .inl (.inl h)
theorem mul_r {i j : Int} (h : -(2 ^ 64) < j ∧ j < 2 ^ 64) : mulOk i j := .inl (.inr h)
theorem div_s {i j : Int} (h0 : 0 < j) (h : j < 1073741824) : divOk i j := ⟨h0, .inl h⟩
/-! ### a for over a mapped list -/
theorem for_map {α : Type} {f : α → D} {L : List α} {g : TDG} {t : TDS} {E : DEnds} {ρ : Rho} {M : Mp} (Inv : List α → Rho → Mp → Prop) (h0 : Inv [] ρ M)
    (step : ∀ (pre : List α) (x : α) (post : List α) (ρ : Rho) (M : Mp) (P : Rho → Mp → Prop), L = pre ++ x :: post → Inv pre ρ M → (∀ ρ' M', Inv (pre ++ [x]) ρ' M' → Wk (P ρ') M') →
      g (f x) ρ M fun ρ1 M1 => t { E with nx := fun ρ' M' => Wk (P ρ') M', ct := fun ρ' M' => Wk (P ρ') M', bk := E.nx } ρ1 M1)
    (hd : ∀ ρ M, Inv L ρ M → E.nx ρ M) : forL g t E (L.map f) ρ M := by
  refine for_by (fun i ρ M => Inv (L.take i) ρ M) h0 ?_ fun ρ M h => hd ρ M (by simpa using h)
  intro i d ρ M P hi h hP
  rw [List.getElem?_map] at hi
  cases e : L[i]? with
  | none => rw [e] at hi; cases hi
  | some x =>
    rw [e] at hi
    cases hi
    obtain ⟨hlt, e'⟩ := List.getElem?_eq_some_iff.mp e
    have ed : L.drop i = x :: L.drop (i + 1) := by rw [List.drop_eq_getElem_cons hlt, e']
    have et : L.take (i + 1) = L.take i ++ [x] := by rw [List.take_succ_eq_append_getElem hlt, e']
    refine step (L.take i) x (L.drop (i + 1)) ρ M P (by rw [← ed, List.take_append_drop]) h fun ρ' M' h' => Wk.rfl' (hP _ _ ?_)
    rw [et]
    exact h'
/-- a comprehension over a mapped list -/
theorem lc_map {α β : Type} {f : α → D} {h : β → D} {L : List α} {i : Nat} {tt : TDb} {te : TD} {ρ0 : Rho} {R : Addr → List D → Mp → Prop} {M : Mp} (k : α → Option β) (hz : L.length ≤ sizeLine)
    (st : ∀ p, M p = none → ∀ x ∈ L, ∀ (xs : List D) (Kk : D → Mp → Prop) (N : Mp → Prop), (∀ y, k x = some y → Kk (h y) (um M p (.lst xs))) → (k x = none → N (um M p (.lst xs))) →
      tt (ρ0.set i (some (f x))) (um M p (.lst xs)) fun b M3 => (b = true → te (ρ0.set i (some (f x))) M3 Kk) ∧ (b = false → N M3))
    (q : ∀ p, M p = none → R p ((L.filterMap k).map h) (um M p (.lst ((L.filterMap k).map h)))) : ∀ p, M p = none → lcN i tt te p ρ0 (fun M2 => ∃ acc, M2 p = some (.lst acc) ∧ R p acc M2) (L.map f) (um M p (.lst [])) := by
  intro p hp
  have key : ∀ (L' : List α) (acc : List D), (∀ x ∈ L', x ∈ L) → acc.length + L'.length ≤ sizeLine → (∃ acc', um M p (.lst (acc ++ (L'.filterMap k).map h)) p = some (.lst acc') ∧ R p acc' (um M p (.lst (acc ++ (L'.filterMap k).map h)))) →
      lcN i tt te p ρ0 (fun M2 => ∃ acc, M2 p = some (.lst acc) ∧ R p acc M2) (L'.map f) (um M p (.lst acc)) := by
    intro L'
    induction L' with
    | nil => intro acc _ _ q; simpa [lcN] using q
    | cons x L' ih =>
      intro acc hm hl q
      simp only [List.length_cons] at hl
      simp only [List.map_cons, lcN]
      refine st p hp x (hm x (List.mem_cons_self ..)) acc _ _ (fun y e => ⟨acc, um_same _ _ _, by omega, ?_⟩) fun e => ?_
      · rw [um_um]
        refine ih (acc ++ [h y]) (fun z hz => hm z (List.mem_cons_of_mem _ hz)) (by simp only [List.length_append, List.length_cons, List.length_nil]; omega) ?_
        simpa [e] using q
      · exact ih acc (fun z hz => hm z (List.mem_cons_of_mem _ hz)) (by omega) (by simpa [e] using q)
  exact key L [] (fun x hx => hx) (by simpa using hz) ⟨_, um_same _ _ _, by simpa using q p hp⟩
/-- .. that takes all -/
theorem lc_mapA {α β : Type} {f : α → D} {h : β → D} {L : List α} {i : Nat} {te : TD} {ρ0 : Rho} {R : Addr → List D → Mp → Prop} {M : Mp} (k : α → β) (hz : L.length ≤ sizeLine)
    (st : ∀ p, M p = none → ∀ x ∈ L, ∀ (xs : List D) (Kk : D → Mp → Prop), Kk (h (k x)) (um M p (.lst xs)) → te (ρ0.set i (some (f x))) (um M p (.lst xs)) Kk)
    (q : ∀ p, M p = none → R p ((L.map k).map h) (um M p (.lst ((L.map k).map h)))) : ∀ p, M p = none → lcN i dYes te p ρ0 (fun M2 => ∃ acc, M2 p = some (.lst acc) ∧ R p acc M2) (L.map f) (um M p (.lst [])) := by
  refine lc_map (h := h) (fun x => some (k x)) hz (fun p hp x hx xs Kk N h1 h2 => ?_) (by rw [List.filterMap_eq_map']; exact q)
  unfold dYes
  exact ⟨fun _ => st p hp x hx xs Kk (h1 _ rfl), fun z => absurd z (by decide)⟩
/-- .. that takes some as they are -/
theorem lc_mapF {α : Type} {f : α → D} {L : List α} {i : Nat} {tt : TDb} {te : TD} {ρ0 : Rho} {R : Addr → List D → Mp → Prop} {M : Mp} (k : α → Bool) (hz : L.length ≤ sizeLine)
    (st : ∀ p, M p = none → ∀ x ∈ L, ∀ (xs : List D) (Kk : D → Mp → Prop) (N : Mp → Prop), (k x = true → Kk (f x) (um M p (.lst xs))) → (k x = false → N (um M p (.lst xs))) →
      tt (ρ0.set i (some (f x))) (um M p (.lst xs)) fun b M3 => (b = true → te (ρ0.set i (some (f x))) M3 Kk) ∧ (b = false → N M3))
    (q : ∀ p, M p = none → R p ((L.filter k).map f) (um M p (.lst ((L.filter k).map f)))) : ∀ p, M p = none → lcN i tt te p ρ0 (fun M2 => ∃ acc, M2 p = some (.lst acc) ∧ R p acc M2) (L.map f) (um M p (.lst [])) := by
  refine lc_map (h := f) (fun x => if k x then some x else none) hz (fun p hp x hx xs Kk N h1 h2 => st p hp x hx xs Kk N (fun e => h1 _ (by simp [e])) fun e => h2 (by simp [e])) ?_
  have e : (L.filterMap fun x => if k x then some x else none) = L.filter k := by
    rw [← List.filterMap_eq_filter]
    congr 1
    done
  rw [e]
  exact q
end DL
/-! The D layer, part r: min, max of a list; a list so many times. -/
namespace DL
open PySem PySem.Spec L2
section
variable {X : Cx} {B : At}
def gMin1 : DCall := fun ds M Q => match ds with
  | [d] => match asI M d with
    | some ns => ns ≠ [] ∧ ∀ m, m ∈ ns → (∀ y ∈ ns, m ≤ y) → Q (.int m) M
    | none => False
  | _ => False
def gMax1 : DCall := fun ds M Q => match ds with
  | [d] => match asI M d with
    | some ns => ns ≠ [] ∧ ∀ m, m ∈ ns → (∀ y ∈ ns, y ≤ m) → Q (.int m) M
    | none => False
  | _ => False
theorem c_min1 (hc : X.calm = true) : CallD X (.builtin "min") gMin1 := by
  refine ⟨_, cr_min hc, ?_⟩
  intro M H ds vs R Q m r g q
  unfold gMin1 at g
  split at g
  · obtain ⟨v, rfl, r0⟩ := r.one
    split at g
    · rename_i ns e
      obtain ⟨a, rfl, h⟩ := asI_at e m r0
      exact ⟨a, ns, rfl, h, List.length_pos_iff.mpr g.1, fun k h1 h2 => q _ _ _ _ (g.2 k h1 h2) .rfl' m rInt⟩
    · exact g.elim
  · exact g.elim
theorem c_max1 (hc : X.calm = true) : CallD X (.builtin "max") gMax1 := by
  refine ⟨_, cr_max hc, ?_⟩
  intro M H ds vs R Q m r g q
  unfold gMax1 at g
  split at g
  · obtain ⟨v, rfl, r0⟩ := r.one
    split at g
    · rename_i ns e
      obtain ⟨a, rfl, h⟩ := asI_at e m r0
      exact ⟨a, ns, rfl, h, List.length_pos_iff.mpr g.1, fun k h1 h2 => q _ _ _ _ (g.2 k h1 h2) .rfl' m rInt⟩
    · exact g.elim
  · exact g.elim
/-- a * b: ints; a list so many times -/
def gMul : DR2 := fun x y M Q => match x, y with
  | .int i, .int j => mulOk i j ∧ Q (.int (i * j)) M
  | x, .int k => match asL M x with
    | some xs => ((-(2 ^ 63) ≤ k ∧ k < 2 ^ 63) ∧ xs.length * k.toNat ≤ sizeLine) ∧ Q (.lst (List.replicate k.toNat xs).flatten) M
    | none => False
  | _, _ => False
theorem RepVs.rep {K : PySem.W.Frag} {mg : Str → Option Value} {M : Mp} {H : Hp} {ds : List D} {vs : List V} (r : RepVs K mg M H ds vs) : ∀ n : Nat, RepVs K mg M H (List.replicate n ds).flatten (List.replicate n vs).flatten
  | 0 => .nil
  | n + 1 => by
    simp only [List.replicate_succ, List.flatten_cons]
    exact r.append (RepVs.rep r n)
theorem de_mulL {a b : Expr} {ta tb : TD} {pos : Pos} (ha : DE X B a ta) (hb : DE X B b tb) : DE X B (.BinOp a .Mult b pos) (dOp gMul ta tb) := by
  refine de_op (op_mul.or (op_mulW.or op_rep)) ?_ ha hb
  intro M H d1 d2 v1 v2 R Q m r1 r2 g q
  unfold gMul at g
  split at g
  · rename_i i j
    unfold RepV at r1 r2
    rcases g.1 with c | c
    · exact .inl ⟨i, j, r1, r2, c, q _ _ _ _ g.2 .rfl' m rInt⟩
    · exact .inr (.inl ⟨i, j, r1, r2, c, q _ _ _ _ g.2 .rfl' m rInt⟩)
  · rename_i k _
    split at g
    · rename_i xs e
      obtain ⟨a, vs, rfl, h, rs⟩ := asL_at e m r1
      unfold RepV at r2
      obtain ⟨⟨⟨g1, g2⟩, g3⟩, g⟩ := g
      refine .inr (.inr ⟨a, k, vs, rfl, r2, h, g1, g2, by rw [← rs.length]; exact g3, fun p n => ?_⟩)
      refine Back.new q m g n ?_
      unfold RepV
      exact ⟨p, _, rfl, m.free n, upd_same, RepVs.new m n (rs.rep _)⟩
    · exact g.elim
  · exact g.elim
end
end DL
/-! The D layer, part s: walks of any kind (lists that may still change, texts, zip), comprehensions of any form. -/
namespace DL
open PySem PySem.Spec L2 RZ
/-- what is walked: its items, what must stay so meanwhile -/
abbrev TDJ := Rho → Mp → (List D → (Mp → Prop) → Mp → Prop) → Prop
section
variable (X : Cx) (B : At)
def ServesG (items : List D) (G : Mp → Prop) (J : It) (M : Mp) (H : Hp) : Prop :=
  ∀ M' H', Keep M H M' H' → RepM X.K X.mg M' H' → G M' → ∀ i : Nat, (items.length ≤ i → J.stop i H') ∧
    ∀ d, items[i]? = some d → J.go i H' ∧ ∀ x H2, J.yld i H' x H2 → Keep M' H' M' H2 ∧ RepM X.K X.mg M' H2 ∧ RepV X.K X.mg M' H2 d x
def lftJ (t : TDJ) : TI := fun σ H R => ∃ ρ M T, Here X B ρ σ M H ∧ t ρ M T ∧ ∀ items G M' J H', T items G M' → Keep M H M' H' → RepM X.K X.mg M' H' → ServesG X items G J M' H' → R J H'
def DJ (tg e : Expr) (t : TDJ) : Prop := PI X tg e (lftJ X B t)
end
section
variable {X : Cx} {B : At}
def djT (t : TDI) : TDJ := fun ρ M Q => t ρ M fun items M1 => Q items (fun _ => True) M1
theorem dj_of {tg e : Expr} {t : TDI} (h : DI X B tg e t) : DJ X B tg e (djT t) := by
  refine PI.imp h fun σ H R h => ?_
  obtain ⟨ρ, M, T, hh, h, q⟩ := h
  exact ⟨ρ, M, _, hh, h, fun items M' J H' hT k m sv => q items _ M' J H' hT k m fun M'' H'' k' m' _ => sv M'' H'' k' m'⟩
/-! ### what can be walked -/
def chrD (c : Nat) : D := .str ⟨#[c]⟩
/-- its kind (list, tuple, text), its items, what must stay so -/
def seqJ (M : Mp) : D → Option (Nat × List D × (Mp → Prop))
  | .tup xs => some (1, xs, fun _ => True)
  | .lst xs => some (0, xs, fun _ => True)
  | .scr ns => some (0, ns.map D.int, fun _ => True)
  | .str z => some (2, z.cps.toList.map chrD, fun _ => True)
  | .ref a => match M a with
    | some (.lst xs) => some (0, xs, fun M' => M' a = some (.lst xs))
    | _ => none
  | _ => none
/-- the object that is walked, a list (0) or a tuple (1), as it stands at any later time -/
def SqK (K : PySem.W.Frag) (k : Nat) (H : Hp) (a : Addr) (vs : List V) : Prop := if k = 0 then SqL K H a vs else SqT K H a vs
theorem seqJ_at {M : Mp} {H : Hp} {d : D} {v : V} {k : Nat} {xs : List D} {G : Mp → Prop} (e : seqJ M d = some (k, xs, G)) (hk : k ≠ 2) (m : RepM X.K X.mg M H) (r : RepV X.K X.mg M H d v) :
    ∃ a, v = .ref a ∧ G M ∧ ∀ M' H', Keep M H M' H' → RepM X.K X.mg M' H' → G M' → ∃ vs, SqK X.K k H' a vs ∧ RepVs X.K X.mg M' H' xs vs := by
  cases d with
  | tup ys =>
    unfold seqJ at e
    cases e
    unfold RepV at r
    obtain ⟨a, vs, rfl, na, ha, ra⟩ := r
    exact ⟨a, rfl, True.intro, fun M' H' k m' _ => ⟨vs, SqT.of (k.k _ _ ha na).1, RepVs.keep k _ _ ra⟩⟩
  | lst ys =>
    unfold seqJ at e
    cases e
    unfold RepV at r
    obtain ⟨a, vs, rfl, na, ha, ra⟩ := r
    exact ⟨a, rfl, True.intro, fun M' H' k m' _ => ⟨vs, SqL.of (k.k _ _ ha na).1, RepVs.keep k _ _ ra⟩⟩
  | scr ns =>
    unfold seqJ at e
    cases e
    obtain ⟨a, rfl, ha⟩ := scr_at r
    refine ⟨a, rfl, True.intro, fun M' H' k m' _ => ⟨ns.map V.int, ?_, RepVs.ints ns⟩⟩
    obtain ⟨b, e, hb⟩ := scr_at (RepV.keep k _ _ r)
    cases e
    exact hb
  | str z => unfold seqJ at e; cases e; exact absurd rfl hk
  | ref a =>
    simp only [seqJ] at e
    split at e
    · rename_i ys ha
      cases e
      unfold RepV at r
      refine ⟨a, r, ha, fun M' H' k m' g => ?_⟩
      obtain ⟨vs, h1, h2⟩ := m' a _ g
      exact ⟨vs, SqL.of h1, h2⟩
    · cases e
  | _ => unfold seqJ at e; cases e
theorem sqT_inj {K : PySem.W.Frag} {H : Hp} {a : Addr} {xs ys : List V} (h : SqT K H a xs) (k : SqT K H a ys) : True := trivial
/-- walking a list, a tuple, a text, by what it is -/
theorem pi_any {tg l : Expr} {tl : TE} (hl : PE X l tl) : PI X tg l fun σ H R => tl σ H fun x H1 => (∃ a, x = .ref a ∧ (((∃ xs, SqL X.K H1 a xs) ∧ R (Itl X.K a) H1) ∨ ((∃ xs, SqT X.K H1 a xs) ∧ R (Itt X.K a) H1))) ∨ ∃ z, x = .str z ∧ R (Its z) H1 := by
  constructor
  intro pins s σ H R I h
  refine thn (hl.run pins s σ H _ I h) ?_
  rintro v s1 ⟨x, H1, I1, r1, q⟩
  rcases q with ⟨a, e, q⟩ | ⟨z, e, q⟩
  · subst e
    cases r1
    have fp : ∀ b ∈ [s1.heap.objs.size], FpOk X pins H1 b := fun b hb => by
      obtain rfl : b = s1.heap.objs.size := by simpa using hb
      exact I1.fpOk (Nat.le_refl _) (I1.hok.fresh (Nat.le_refl _))
    rcases q with ⟨⟨xs, hq⟩, q⟩ | ⟨⟨xs, hq⟩, q⟩
    · obtain ⟨its, rv, p, _⟩ := I1.list hq
      exact wpAny_pyIter_list p.isList ⟨_, [s1.heap.objs.size], _, _, H1, rfl, I1.kept (t' := s1.toks) fun _ _ e => Heap.get?_push_of_some _ e, turn_list a _, ⟨_, Heap.get?_push_size _ rfl, rfl, rfl⟩, fp, q⟩
    · obtain ⟨its, rv, p, _⟩ := I1.tuple hq
      exact wpAny_pyIter_tuple (show s1.heap.IsTuple a its.toArray from p) ⟨_, [s1.heap.objs.size], _, _, H1, rfl, I1.kept (t' := s1.toks) fun _ _ e => Heap.get?_push_of_some _ e, turn_tuple a _, ⟨_, Heap.get?_push_size _ rfl, rfl, rfl⟩, fp, q⟩
  · subst e
    obtain ⟨t, rfl⟩ := r1
    cases ha : z.cps.all (· < 128)
    · exact wpAny_pyIter_wide ha (pi_one (tk := s1.toks) I1 _ (turn_str _ z t "str_iterator" (.inr rfl)) ⟨_, Heap.get?_push_size _ rfl, rfl, rfl⟩ q)
    · exact wpAny_pyIter_ascii ha (pi_one (tk := s1.toks) I1 _ (turn_str _ z t "str_ascii_iterator" (.inl rfl)) ⟨_, Heap.get?_push_size _ rfl, rfl, rfl⟩ q)
theorem servesG_L {xs : List D} {G : Mp → Prop} {a : Addr} {M : Mp} {H : Hp} (h : ∀ M' H', Keep M H M' H' → RepM X.K X.mg M' H' → G M' → ∃ vs, SqL X.K H' a vs ∧ RepVs X.K X.mg M' H' xs vs) : ServesG X xs G (Itl X.K a) M H := fun M' H' k m g i => by
  obtain ⟨vs, h1, h2⟩ := h M' H' k m g
  refine ⟨fun hl => ⟨vs, h1, by rw [← h2.length]; exact hl⟩, fun d e => ?_⟩
  obtain ⟨v, e1, r⟩ := h2.get e
  refine ⟨⟨vs, v, h1, e1⟩, fun x H2 y => ?_⟩
  obtain ⟨rfl, y⟩ := y
  have := y vs h1
  rw [e1] at this
  cases this
  exact ⟨.rfl', m, r⟩
theorem servesG_T {xs : List D} {G : Mp → Prop} {a : Addr} {M : Mp} {H : Hp} (h : ∀ M' H', Keep M H M' H' → RepM X.K X.mg M' H' → G M' → ∃ vs, SqT X.K H' a vs ∧ RepVs X.K X.mg M' H' xs vs) : ServesG X xs G (Itt X.K a) M H := fun M' H' k m g i => by
  obtain ⟨vs, h1, h2⟩ := h M' H' k m g
  refine ⟨fun hl => ⟨vs, h1, by rw [← h2.length]; exact hl⟩, fun d e => ?_⟩
  obtain ⟨v, e1, r⟩ := h2.get e
  refine ⟨⟨vs, v, h1, e1⟩, fun x H2 y => ?_⟩
  obtain ⟨rfl, y⟩ := y
  have := y vs h1
  rw [e1] at this
  cases this
  exact ⟨.rfl', m, r⟩
theorem servesG_S {z : Str} {G : Mp → Prop} {M : Mp} {H : Hp} : ServesG X (z.cps.toList.map chrD) G (Its z) M H := fun M' H' k m g i => by
  refine ⟨fun hl => by show z.cps.size ≤ i; simpa using hl, fun d e => ?_⟩
  rw [List.getElem?_map] at e
  cases q : z.cps.toList[i]? with
  | none => rw [q] at e; cases e
  | some c =>
    rw [q] at e
    cases e
    have q' : z.cps[i]? = some c := by rw [← Array.getElem?_toList]; exact q
    have hi : i < z.cps.size := by
      have := (List.getElem?_eq_some_iff.mp q).1
      simpa using this
    refine ⟨hi, fun x H2 y => ?_⟩
    obtain ⟨rfl, c', e', rfl⟩ := y
    rw [q'] at e'
    cases e'
    exact ⟨.rfl', m, by unfold chrD RepV; rfl⟩
def djItems (t : TD) : TDJ := fun ρ M Q => t ρ M fun d M1 => match seqJ M1 d with
  | some (_, xs, G) => Q xs G M1
  | none => False
theorem seqJ_kind {M : Mp} {d : D} {k : Nat} {xs : List D} {G : Mp → Prop} (e : seqJ M d = some (k, xs, G)) : k = 0 ∨ k = 1 ∨ (k = 2 ∧ ∃ z, d = .str z ∧ xs = z.cps.toList.map chrD) := by
  cases d with
  | tup ys => unfold seqJ at e; cases e; exact .inr (.inl rfl)
  | lst ys => unfold seqJ at e; cases e; exact .inl rfl
  | scr ns => unfold seqJ at e; cases e; exact .inl rfl
  | str z => unfold seqJ at e; cases e; exact .inr (.inr ⟨rfl, z, rfl, rfl⟩)
  | ref a =>
    simp only [seqJ] at e
    split at e
    · cases e; exact .inl rfl
    · cases e
  | _ => unfold seqJ at e; cases e
theorem dj_items {tg l : Expr} {t : TD} (hl : DE X B l t) : DJ X B tg l (djItems t) := by
  refine PI.imp (pi_any hl) fun σ H T h => ?_
  obtain ⟨ρ, M, R, hh, h, q⟩ := h
  refine ⟨ρ, M, _, hh, h, fun d M1 v H1 h1 k1 m1 r1 => ?_⟩
  split at h1
  · rename_i k xs G e
    rcases seqJ_kind e with rfl | rfl | ⟨rfl, z, rfl, rfl⟩
    · obtain ⟨a, rfl, g, f⟩ := seqJ_at e (by decide) m1 r1
      obtain ⟨vs, hv, _⟩ := f _ _ .rfl' m1 g
      exact .inl ⟨a, rfl, .inl ⟨⟨vs, hv⟩, q _ _ _ _ _ h1 k1 m1 (servesG_L f)⟩⟩
    · obtain ⟨a, rfl, g, f⟩ := seqJ_at e (by decide) m1 r1
      obtain ⟨vs, hv, _⟩ := f _ _ .rfl' m1 g
      exact .inl ⟨a, rfl, .inr ⟨⟨vs, hv⟩, q _ _ _ _ _ h1 k1 m1 (servesG_T f)⟩⟩
    · unfold RepV at r1
      exact .inr ⟨z, r1, q _ _ _ _ _ h1 k1 m1 servesG_S⟩
  · exact h1.elim
/-! ### enumerate, zip -/
theorem servesG_EL {xs : List D} {G : Mp → Prop} {a : Addr} {M : Mp} {H : Hp} (h : ∀ M' H', Keep M H M' H' → RepM X.K X.mg M' H' → G M' → ∃ vs, SqL X.K H' a vs ∧ RepVs X.K X.mg M' H' xs vs) : ServesG X (enD 0 xs) G (Ite X.K a) M H := fun M' H' k m g i => by
  obtain ⟨vs, h1, h2⟩ := h M' H' k m g
  refine ⟨fun hl => ⟨vs, h1, by rw [← h2.length, ← enD_len xs 0]; exact hl⟩, fun d e => ?_⟩
  obtain ⟨y, e0, rfl⟩ := enD_get xs 0 i d e
  obtain ⟨v, e1, r⟩ := h2.get e0
  refine ⟨⟨vs, v, h1, e1⟩, fun x H2 z => ?_⟩
  obtain ⟨T, x', rfl, n, rfl, z⟩ := z
  have z := z vs h1
  rw [e1] at z
  cases z
  exact pair_rep m n r
theorem servesG_ET {xs : List D} {G : Mp → Prop} {a : Addr} {M : Mp} {H : Hp} (h : ∀ M' H', Keep M H M' H' → RepM X.K X.mg M' H' → G M' → ∃ vs, SqT X.K H' a vs ∧ RepVs X.K X.mg M' H' xs vs) : ServesG X (enD 0 xs) G (ItT X.K a) M H := fun M' H' k m g i => by
  obtain ⟨vs, h1, h2⟩ := h M' H' k m g
  refine ⟨fun hl => ⟨vs, h1, by rw [← h2.length, ← enD_len xs 0]; exact hl⟩, fun d e => ?_⟩
  obtain ⟨y, e0, rfl⟩ := enD_get xs 0 i d e
  obtain ⟨v, e1, r⟩ := h2.get e0
  refine ⟨⟨vs, v, h1, e1⟩, fun x H2 z => ?_⟩
  obtain ⟨T, x', rfl, n, rfl, z⟩ := z
  have z := z vs h1
  rw [e1] at z
  cases z
  exact pair_rep m n r
def djEnum (t : TDs) : TDJ := fun ρ M Q => t ρ M fun ds M1 => match ds with
  | [d] => (match seqJ M1 d with
    | some (k, xs, G) => k ≠ 2 ∧ Q (enD 0 xs) G M1
    | none => False)
  | _ => False
theorem dj_enum {e : Expr} {t : TDs} {p pos tpos : Pos} {elts : List Expr} {kk : Nat} (hg : Gl X "enumerate") (hm : X.mg "enumerate" = none) (ha : DA X B [e] t) (hs : starEach [e] X.env = [(false, eval e X.env)] := by rfl) :
    DJ X B (.Tuple elts kk tpos) (.Call (.Name "enumerate" p) [e] [] pos) (djEnum t) := by
  refine PI.imp (pi_enumA hg hm ha hs) fun σ H T h => ?_
  obtain ⟨ρ, M, R, hh, h, q⟩ := h
  refine ⟨ρ, M, _, hh, h, fun ds M1 vs H1 h1 k1 m1 r1 => ?_⟩
  split at h1
  · rename_i d
    obtain ⟨v, rfl, r0⟩ := r1.one
    split at h1
    · rename_i k xs G e
      obtain ⟨hk, h1⟩ := h1
      obtain ⟨a, rfl, g, f⟩ := seqJ_at e hk m1 r0
      obtain ⟨vs, hv, _⟩ := f _ _ .rfl' m1 g
      rcases seqJ_kind e with rfl | rfl | ⟨rfl, _⟩
      · exact ⟨a, vs, rfl, .inl ⟨hv, q _ _ _ _ _ h1 k1 m1 (servesG_EL f)⟩⟩
      · exact ⟨a, vs, rfl, .inr ⟨hv, q _ _ _ _ _ h1 k1 m1 (servesG_ET f)⟩⟩
      · exact absurd rfl hk
    · exact h1.elim
  · exact h1.elim
def zipD (xs ys : List D) : List D := (xs.zip ys).map fun p => .tup [p.1, p.2]
theorem pair_rep2 {M : Mp} {H : Hp} {d e : D} {x y : V} {T : Addr} (m : RepM X.K X.mg M H) (n : H T = none) (r : RepV X.K X.mg M H d x) (r' : RepV X.K X.mg M H e y) :
    Keep M H M (upd H T (.tup [x, y])) ∧ RepM X.K X.mg M (upd H T (.tup [x, y])) ∧ RepV X.K X.mg M (upd H T (.tup [x, y])) (.tup [d, e]) (.ref T) := by
  have k : Keep M H M (upd H T (.tup [x, y])) := Keep.new m n
  refine ⟨k, m.new n, ?_⟩
  unfold RepV
  exact ⟨T, _, rfl, m.free n, by rw [upd_same], .cons (RepV.keep k _ _ r) (.cons (RepV.keep k _ _ r') .nil)⟩
theorem zipD_get {xs ys : List D} {i : Nat} {d : D} (h : (zipD xs ys)[i]? = some d) : ∃ x y, xs[i]? = some x ∧ ys[i]? = some y ∧ d = .tup [x, y] := by
  unfold zipD at h
  rw [List.getElem?_map] at h
  cases q : (xs.zip ys)[i]? with
  | none => rw [q] at h; cases h
  | some p =>
    rw [q] at h
    cases h
    obtain ⟨h1, h2⟩ := List.getElem?_zip_eq_some.mp q
    exact ⟨_, _, h1, h2, rfl⟩
theorem zipD_stop {xs ys : List D} {i : Nat} (h : (zipD xs ys).length ≤ i) : xs.length ≤ i ∨ ys.length ≤ i := by
  unfold zipD at h
  rw [List.length_map, List.length_zip] at h
  omega
theorem servesG_ZL {xs ys : List D} {G : Mp → Prop} {a b : Addr} {M : Mp} {H : Hp} (h : ∀ M' H', Keep M H M' H' → RepM X.K X.mg M' H' → G M' → ∃ vs ws, SqL X.K H' a vs ∧ RepVs X.K X.mg M' H' xs vs ∧ SqL X.K H' b ws ∧ RepVs X.K X.mg M' H' ys ws) : ServesG X (zipD xs ys) G (Itz X.K a b) M H := fun M' H' k m g i => by
  obtain ⟨vs, ws, h1, h2, h3, h4⟩ := h M' H' k m g
  refine ⟨fun hl => ⟨vs, ws, h1, h3, by rw [← h2.length, ← h4.length]; exact zipD_stop hl⟩, fun d e => ?_⟩
  obtain ⟨x, y, e1, e2, rfl⟩ := zipD_get e
  obtain ⟨v, f1, r1⟩ := h2.get e1
  obtain ⟨w, f2, r2⟩ := h4.get e2
  refine ⟨⟨vs, ws, v, w, h1, h3, f1, f2⟩, fun u H2 z => ?_⟩
  obtain ⟨T, x', y', rfl, n, rfl, z1, z2⟩ := z
  have z1 := z1 vs h1
  have z2 := z2 ws h3
  rw [f1] at z1
  rw [f2] at z2
  cases z1
  cases z2
  exact pair_rep2 m n r1 r2
theorem servesG_ZT {xs ys : List D} {G : Mp → Prop} {a b : Addr} {M : Mp} {H : Hp} (h : ∀ M' H', Keep M H M' H' → RepM X.K X.mg M' H' → G M' → ∃ vs ws, SqT X.K H' a vs ∧ RepVs X.K X.mg M' H' xs vs ∧ SqT X.K H' b ws ∧ RepVs X.K X.mg M' H' ys ws) : ServesG X (zipD xs ys) G (ItzT X.K a b) M H := fun M' H' k m g i => by
  obtain ⟨vs, ws, h1, h2, h3, h4⟩ := h M' H' k m g
  refine ⟨fun hl => ⟨vs, ws, h1, h3, by rw [← h2.length, ← h4.length]; exact zipD_stop hl⟩, fun d e => ?_⟩
  obtain ⟨x, y, e1, e2, rfl⟩ := zipD_get e
  obtain ⟨v, f1, r1⟩ := h2.get e1
  obtain ⟨w, f2, r2⟩ := h4.get e2
  refine ⟨⟨vs, ws, v, w, h1, h3, f1, f2⟩, fun u H2 z => ?_⟩
  obtain ⟨T, x', y', rfl, n, rfl, z1, z2⟩ := z
  have z1 := z1 vs h1
  have z2 := z2 ws h3
  rw [f1] at z1
  rw [f2] at z2
  cases z1
  cases z2
  exact pair_rep2 m n r1 r2
def djZip (t : TDs) : TDJ := fun ρ M Q => t ρ M fun ds M1 => match ds with
  | [d, e] => (match seqJ M1 d, seqJ M1 e with
    | some (k, xs, G), some (l, ys, G') => (k = l ∧ k ≠ 2) ∧ Q (zipD xs ys) (fun M => G M ∧ G' M) M1
    | _, _ => False)
  | _ => False
theorem dj_zip {e e2 : Expr} {t : TDs} {p pos tpos : Pos} {elts : List Expr} {kk : Nat} (hg : Gl X "zip") (hm : X.mg "zip" = none) (ha : DA X B [e, e2] t)
    (hs : starEach [e, e2] X.env = (false, eval e X.env) :: starEach [e2] X.env := by rfl) (hpl : (backTo pos (starEach [e2] X.env)).any (·.1) = false := by rfl) :
    DJ X B (.Tuple elts kk tpos) (.Call (.Name "zip" p) [e, e2] [] pos) (djZip t) := by
  refine PI.imp (pi_zipA hg hm ha hs hpl) fun σ H T h => ?_
  obtain ⟨ρ, M, R, hh, h, q⟩ := h
  refine ⟨ρ, M, _, hh, h, fun ds M1 vs H1 h1 k1 m1 r1 => ?_⟩
  split at h1
  · rename_i d d'
    obtain ⟨v, w, rfl, r2, r3⟩ := r1.two
    split at h1
    · rename_i k xs G l ys G' e1 e2
      obtain ⟨⟨rfl, hk⟩, h1⟩ := h1
      obtain ⟨a, rfl, g, f⟩ := seqJ_at e1 hk m1 r2
      obtain ⟨b, rfl, g', f'⟩ := seqJ_at e2 hk m1 r3
      obtain ⟨vs, hv, _⟩ := f _ _ .rfl' m1 g
      obtain ⟨ws, hw, _⟩ := f' _ _ .rfl' m1 g'
      rcases seqJ_kind e1 with rfl | rfl | ⟨rfl, _⟩
      · exact ⟨a, b, vs, ws, rfl, .inl ⟨hv, hw, q _ _ _ _ _ h1 k1 m1 (servesG_ZL fun M' H' kk mm gg => by
          obtain ⟨v1, a1, a2⟩ := f M' H' kk mm gg.1
          obtain ⟨v2, a3, a4⟩ := f' M' H' kk mm gg.2
          exact ⟨v1, v2, a1, a2, a3, a4⟩)⟩⟩
      · exact ⟨a, b, vs, ws, rfl, .inr ⟨hv, hw, q _ _ _ _ _ h1 k1 m1 (servesG_ZT fun M' H' kk mm gg => by
          obtain ⟨v1, a1, a2⟩ := f M' H' kk mm gg.1
          obtain ⟨v2, a3, a4⟩ := f' M' H' kk mm gg.2
          exact ⟨v1, v2, a1, a2, a3, a4⟩)⟩⟩
      · exact absurd rfl hk
    · exact h1.elim
  · exact h1.elim
/-! ### for -/
def forJ (g : TDG) (t : TDS) (E : DEnds) (G : Mp → Prop) : List D → Rho → Mp → Prop
  | [] => fun ρ M => G M ∧ E.nx ρ M
  | d :: ds => fun ρ M => G M ∧ g d ρ M fun ρ1 M1 => t { E with nx := fun ρ' M' => Wk (forJ g t E G ds ρ') M', ct := fun ρ' M' => Wk (forJ g t E G ds ρ') M', bk := E.nx } ρ1 M1
def dForJ (ti : TDJ) (g : TDG) (t : TDS) : TDS := fun E ρ M => ti ρ M fun items G M1 => forJ g t E G items ρ M1
theorem forJ_G {g : TDG} {t : TDS} {E : DEnds} {G : Mp → Prop} {xs : List D} {ρ : Rho} {M : Mp} (h : forJ g t E G xs ρ M) : G M := by
  cases xs with
  | nil => exact h.1
  | cons => exact h.1
theorem ds_forJ {tg iter : Expr} {body : List Stmt} {ti : TDJ} {g : TDG} {t : TDS} {pos : Pos} (hp : PassesOwn (model X.prog X.w) X.A X.env X.xe) (hc : X.calm = true) (hi : DJ X B tg iter ti) (hg : DG X B tg g) (hb : DSs X B body t)
    (hs : ∀ x, foldedSetIterable iter X.env x = pure x := by intro _; rfl) : DS X B (.For tg iter body [] pos) (dForJ ti g t) := by
  refine PS.imp (ps_for hp hc hi hg hb hs) fun D σ H h => ?_
  obtain ⟨C, ρ, M, E, kb, hh, le, h⟩ := h
  refine ⟨ρ, M, _, hh.base kb, h, fun items G M1 J H1 h1 k1 m1 sv => ?_⟩
  have hh1 := hh.step k1 m1
  have kC : Keep B.M B.H M1 H1 := kb.trans hh1.k
  have leC : EndsLe X ⟨M1, H1⟩ E D := le.later (C' := ⟨M1, H1⟩) hh1.k
  refine ⟨fun i m σ H => ∃ ρ M, Here X ⟨M1, H1⟩ ρ σ M H ∧ i ≤ items.length ∧ m = items.length - i ∧ forJ g t E G (items.drop i) ρ M, ⟨_, ρ, M1, ⟨hh1.s, hh1.m, .rfl'⟩, Nat.zero_le _, rfl, by simpa using h1⟩, ?_⟩
  rintro i m σ2 H2 ⟨ρ2, M2, hh2, hi2, em, h2⟩
  obtain ⟨stop, go⟩ := sv M2 H2 hh2.k hh2.m (forJ_G h2) i
  by_cases hlt : i < items.length
  · have ed : items.drop i = items[i] :: items.drop (i + 1) := List.drop_eq_getElem_cons hlt
    rw [ed] at h2
    obtain ⟨g1, g2⟩ := go items[i] (List.getElem?_eq_getElem hlt)
    refine .inr ⟨g1, fun σ' H' => ∃ ρ M, Here X ⟨M1, H1⟩ ρ σ' M H' ∧ forJ g t E G (items.drop (i + 1)) ρ M, fun σ' H' q => ?_, fun x H3 y => ?_⟩
    · obtain ⟨ρ', M', a1, a3⟩ := q
      exact ⟨items.length - (i + 1), by omega, ρ', M', a1, by omega, rfl, a3⟩
    · obtain ⟨k3, m3, r3⟩ := g2 x H3 y
      have hh3 := hh2.step k3 m3
      refine ⟨ρ2, M2, items[i], _, hh3.base kC, r3, h2.2, fun ρ4 M4 σ4 H4 h4 k4 hh4 => ?_⟩
      refine ⟨⟨M1, H1⟩, ρ4, M4, _, kC, hh4.up (hh3.k.trans k4), ⟨?_, ?_, ?_, ?_⟩, h4⟩
      · exact fun ρ' σ' M' H' h' q => let ⟨M0, l, w⟩ := q; ⟨ρ', M0, h'.less l, w⟩
      · exact leC.nx
      · exact fun ρ' σ' M' H' h' q => let ⟨M0, l, w⟩ := q; ⟨ρ', M0, h'.less l, w⟩
      · exact leC.rt
  · have e : items.drop i = [] := List.drop_of_length_le (by omega)
    rw [e] at h2
    exact .inl ⟨stop (by omega), leC.nx _ _ _ _ hh2 h2.2⟩
/-! ### comprehensions -/
/-- a comprehension's target: a name, a tuple of names -/
inductive CT where
  | one (i : Nat)
  | tup (is : List Nat)
def gNames : List Nat → TGs
  | [] => gNil
  | i :: is => gCons (gName i) (gNames is)
def CT.tg (K : PySem.W.Frag) : CT → TG
  | .one i => gName i
  | .tup is => gTup K is.length (gNames is)
def dgNames : List Nat → TDGs
  | [] => dgNil
  | i :: is => dgCons (dgName i) (dgNames is)
def CT.dg : CT → TDG
  | .one i => dgName i
  | .tup is => dgTup (dgNames is)
def CT.slots : CT → List Nat
  | .one i => [i]
  | .tup is => is
theorem wipe_set' {σ : L2.St} {vs : List Nat} {i : Nat} {y : Option V} (hi : i ∈ vs) : wipe (σ.set i y) vs = wipe σ vs := by
  apply List.ext_getElem?
  intro j
  rw [wipe_get, wipe_get]
  by_cases hj : j ∈ vs
  · rw [if_pos hj, if_pos hj]
    by_cases z : i = j
    · subst z
      rw [List.getElem?_set_self']
      cases σ[i]? <;> simp
    · rw [List.getElem?_set_ne z]
  · rw [if_neg hj, if_neg hj]
    have z : i ≠ j := fun e => hj (e ▸ hi)
    rw [List.getElem?_set_ne z]
theorem wipe_wipe (σ : L2.St) (vs : List Nat) : wipe (wipe σ vs) vs = wipe σ vs := by
  apply List.ext_getElem?
  intro j
  rw [wipe_get, wipe_get]
  by_cases hj : j ∈ vs
  · rw [if_pos hj, if_pos hj]
    cases σ[j]? <;> simp
  · rw [if_neg hj, if_neg hj]
section
variable {M : Mp} {H : Hp} {own : List Nat} {σ0 : L2.St} {Qd : Rho → Mp → Prop} {Qh : L2.St → Hp → Prop}
theorem names_read (q : ∀ ρ' σ', RepS X.K X.mg M H ρ' σ' → wipe σ' own = wipe σ0 own → Qd ρ' M → Qh σ' H) : ∀ (is : List Nat) (ρ : Rho) (σ : L2.St) (ds : List D) (vs : List V), (∀ i ∈ is, i ∈ own) → RepS X.K X.mg M H ρ σ → wipe σ own = wipe σ0 own → RepVs X.K X.mg M H ds vs → dgNames is ds ρ M Qd → gNames is vs σ H Qh
  | [], ρ, σ, ds, vs, hs, r, w, rv, h => by
    cases ds with
    | nil => unfold RepVs at rv; exact ⟨rv, q _ _ r w h⟩
    | cons => exact h.elim
  | i :: is, ρ, σ, ds, vs, hs, r, w, rv, h => by
    cases ds with
    | nil => exact h.elim
    | cons d ds =>
      unfold RepVs at rv
      obtain ⟨v, vr, rfl, rd, rr⟩ := rv
      exact ⟨v, vr, rfl, names_read q is _ _ ds vr (fun j hj => hs j (List.mem_cons_of_mem _ hj)) (r.set rd) (by rw [wipe_set' (hs i (List.mem_cons_self ..)), w]) rr h⟩
theorem names_len : ∀ (is : List Nat) (ρ : Rho) (M : Mp) (ds : List D), dgNames is ds ρ M Qd → ds.length = is.length
  | [], ρ, M, ds, h => by
    cases ds with
    | nil => rfl
    | cons => exact h.elim
  | i :: is, ρ, M, ds, h => by
    cases ds with
    | nil => exact h.elim
    | cons d ds =>
      have := names_len is _ M ds h
      simp [this]
theorem ct_read {c : CT} {ρ : Rho} {σ : L2.St} {d : D} {v : V} (hs : ∀ i ∈ c.slots, i ∈ own) (r : RepS X.K X.mg M H ρ σ) (w : wipe σ own = wipe σ0 own) (rv : RepV X.K X.mg M H d v) (h : c.dg d ρ M Qd)
    (q : ∀ ρ' σ', RepS X.K X.mg M H ρ' σ' → wipe σ' own = wipe σ0 own → Qd ρ' M → Qh σ' H) : c.tg X.K v σ H Qh := by
  cases c with
  | one i => exact q _ _ (r.set rv) (by rw [wipe_set' (hs i (List.mem_cons_self ..)), w]) h
  | tup is =>
    have h : dgTup (dgNames is) d ρ M Qd := h
    cases d with
    | tup xs =>
      unfold RepV at rv
      obtain ⟨a, vs, rfl, n, ha, rs⟩ := rv
      exact ⟨a, vs, rfl, SqT.of ha, by rw [← rs.length]; exact names_len is _ _ xs h, names_read q is ρ σ xs vs hs r w rs h⟩
    | _ => exact h.elim
end
/-- one walk of a comprehension -/
theorem walkG {c : CT} {own : List Nat} {items : List D} {G : Mp → Prop} {J : It} {M1 M1' : Mp} {H1 H1' : Hp} {ρ0 : Rho} {σ0 : L2.St} (F : List D → Mp → Prop) (Q : Mp → Prop) (Body : Rho → Mp → (Mp → Prop) → Prop) (BodyH : L2.St → Hp → (Hp → Prop) → Prop) (NE : Hp → Prop)
    (hs : ∀ i ∈ c.slots, i ∈ own) (r0 : RepS X.K X.mg M1 H1 ρ0 (wipe σ0 own)) (sv : ServesG X items G J M1 H1)
    (f0 : ∀ M, F [] M → G M ∧ Q M) (f1 : ∀ d ds M, F (d :: ds) M → G M ∧ c.dg d ρ0 M fun ρ1 M2 => Body ρ1 M2 (F ds))
    (hE : ∀ M H, Keep M1 H1 M H → RepM X.K X.mg M H → Q M → NE H)
    (hB : ∀ (ρ1 : Rho) (M2 : Mp) (σ2 : L2.St) (H2 : Hp) (N : Mp → Prop) (NH : Hp → Prop), RepS X.K X.mg M2 H2 ρ1 σ2 → wipe σ2 own = wipe σ0 own → Keep M1 H1 M2 H2 → RepM X.K X.mg M2 H2 → Body ρ1 M2 N → (∀ M H, Keep M1 H1 M H → RepM X.K X.mg M H → N M → NH H) → BodyH σ2 H2 NH)
    (k1 : Keep M1 H1 M1' H1') (m1 : RepM X.K X.mg M1' H1') (h : F items M1') :
    ∃ W : Nat → Nat → Hp → Prop, (∃ m, W 0 m H1') ∧ ∀ i m H, W i m H → (J.stop i H ∧ NE H) ∨ (J.go i H ∧ ∃ Nx : Hp → Prop, (∀ H', Nx H' → ∃ m', m' < m ∧ W (i + 1) m' H') ∧ ∀ x H', J.yld i H x H' → c.tg X.K x (wipe σ0 own) H' fun σ2 H2 => wipe σ2 own = wipe σ0 own ∧ BodyH σ2 H2 Nx) := by
  refine ⟨fun i m H => i ≤ items.length ∧ m = items.length - i ∧ ∃ M, Keep M1 H1 M H ∧ RepM X.K X.mg M H ∧ F (items.drop i) M, ⟨_, Nat.zero_le _, rfl, _, k1, m1, by simpa using h⟩, ?_⟩
  rintro i m H ⟨hi, rfl, M, k', m', hf⟩
  rcases Nat.lt_or_ge i items.length with lt | ge
  · right
    rw [List.drop_eq_getElem_cons lt] at hf
    obtain ⟨g, hf⟩ := f1 _ _ _ hf
    obtain ⟨s1, s2⟩ := sv M H k' m' g i
    obtain ⟨go, s3⟩ := s2 items[i] (List.getElem?_eq_getElem lt)
    refine ⟨go, fun H'' => i + 1 ≤ items.length ∧ ∃ M, Keep M1 H1 M H'' ∧ RepM X.K X.mg M H'' ∧ F (items.drop (i + 1)) M, fun H'' z => ⟨items.length - (i + 1), by omega, z.1, rfl, z.2⟩, fun x H2 hy => ?_⟩
    obtain ⟨k2, m2, r2⟩ := s3 x H2 hy
    have kk := k'.trans k2
    exact ct_read (σ0 := σ0) hs (r0.keep kk) (wipe_wipe _ _) r2 hf fun ρ' σ' rs w q => ⟨w, hB _ _ _ _ _ _ rs w kk m2 q fun M3 H3 k3 m3 n3 => ⟨lt, M3, k3, m3, n3⟩⟩
  · left
    have e : items.drop i = [] := List.drop_eq_nil_iff.mpr ge
    rw [e] at hf
    obtain ⟨g, hq⟩ := f0 _ hf
    obtain ⟨s1, s2⟩ := sv M H k' m' g i
    exact ⟨s1 ge, hE _ _ k' m' hq⟩
def lcG (g : TDG) (tt : TDb) (te : TD) (p : Addr) (ρ0 : Rho) (G : Mp → Prop) (Q : Mp → Prop) : List D → Mp → Prop
  | [], M => G M ∧ Q M
  | d :: ds, M => G M ∧ g d ρ0 M fun ρ1 M2 => tt ρ1 M2 fun b M3 => (b = true → te ρ1 M3 fun y M4 => ∃ acc, M4 p = some (.lst acc) ∧ acc.length < sizeLine ∧ lcG g tt te p ρ0 G Q ds (um M4 p (.lst (acc ++ [y])))) ∧ (b = false → lcG g tt te p ρ0 G Q ds M3)
def dLCG (own : List Nat) (g : TDG) (ti : TDJ) (tt : TDb) (te : TD) : TD := fun ρ M Q => ti ρ M fun items G M1 => ∀ p, M1 p = none → lcG g tt te p (wipeD ρ own) G (fun M2 => ∃ acc, M2 p = some (.lst acc) ∧ Q (.lst acc) (dm M2 p)) items (um M1 p (.lst []))
def lcG2 (g : TDG) (tt : TDb) (own1 : List Nat) (ti1 : TDJ) (g1 : TDG) (tt1 : TDb) (te : TD) (p : Addr) (ρ0 : Rho) (G : Mp → Prop) (Q : Mp → Prop) : List D → Mp → Prop
  | [], M => G M ∧ Q M
  | d :: ds, M => G M ∧ g d ρ0 M fun ρ1 M2 => tt ρ1 M2 fun b M3 => (b = true → ti1 ρ1 M3 fun items1 G1 M4 => lcG g1 tt1 te p (wipeD ρ1 own1) G1 (fun M5 => lcG2 g tt own1 ti1 g1 tt1 te p ρ0 G Q ds M5) items1 M4) ∧ (b = false → lcG2 g tt own1 ti1 g1 tt1 te p ρ0 G Q ds M3)
def dLCG2 (own own1 : List Nat) (g : TDG) (ti : TDJ) (tt : TDb) (g1 : TDG) (ti1 : TDJ) (tt1 : TDb) (te : TD) : TD := fun ρ M Q => ti ρ M fun items G M1 => ∀ p, M1 p = none → lcG2 g tt own1 ti1 g1 tt1 te p (wipeD ρ own) G (fun M2 => ∃ acc, M2 p = some (.lst acc) ∧ Q (.lst acc) (dm M2 p)) items (um M1 p (.lst []))
theorem keepAt0 {M : Mp} {H : Hp} : Keep At0.M At0.H M H := ⟨fun b o e _ => nomatch (show (none : Option HO) = some o from e)⟩
section
variable {X : Cx} {tt : TDb} {te : TD}
def bodyD (tt : TDb) (te : TD) (p : Addr) : Rho → Mp → (Mp → Prop) → Prop := fun ρ1 M2 N => tt ρ1 M2 fun b M3 => (b = true → te ρ1 M3 fun y M4 => ∃ acc, M4 p = some (.lst acc) ∧ acc.length < sizeLine ∧ N (um M4 p (.lst (acc ++ [y])))) ∧ (b = false → N M3)
def bodyH (X : Cx) (tt : TDb) (te : TD) (D : Addr) : L2.St → Hp → (Hp → Prop) → Prop := fun σ2 H2 NH => lftT X At0 tt σ2 H2 fun b H3 => if b = true then lft X At0 te σ2 H3 fun y H4 => ∃ acc, H4 D = some (.lst acc) ∧ acc.length < sizeLine ∧ NH (upd H4 D (.lst (acc ++ [y]))) else NH H3
theorem body_read {M1 M2 : Mp} {H1 H2 : Hp} {ρ1 : Rho} {σ2 : L2.St} {D : Addr} {N : Mp → Prop} {NH : Hp → Prop} (rs : RepS X.K X.mg M2 H2 ρ1 σ2) (k : Keep M1 H1 M2 H2) (m : RepM X.K X.mg M2 H2) (h : bodyD tt te D ρ1 M2 N) (q : ∀ M H, Keep M1 H1 M H → RepM X.K X.mg M H → N M → NH H) : bodyH X tt te D σ2 H2 NH := by
  refine ⟨ρ1, M2, _, ⟨rs, m, keepAt0⟩, h, fun b M3 H3 hb k3 m3 => ?_⟩
  cases b with
  | true =>
    refine iteT ⟨ρ1, M3, _, ⟨rs.keep k3, m3, keepAt0⟩, hb.1 rfl, fun y M4 v H4 hy k4 m4 r4 => ?_⟩
    obtain ⟨acc, ea, la, hn⟩ := hy
    obtain ⟨vs, ha, rs⟩ := m4 D _ ea
    have kw : Keep M4 H4 (um M4 D (.lst (acc ++ [y]))) (upd H4 D (.lst (vs ++ [v]))) := Keep.write ea
    exact ⟨vs, ha, by rw [← rs.length]; exact la, q _ _ (((k.trans k3).trans k4).trans kw) (m4.write ea ⟨_, by rw [upd_same], RepVs.keep kw _ _ (RepVs.append rs (.cons r4 .nil))⟩) hn⟩
  | false => exact iteF (q _ _ (k.trans k3) m3 (hb.2 rfl))
theorem lcG_read {own : List Nat} {c : CT} {ti : TDJ} {ρ : Rho} {σ : L2.St} {M : Mp} {H : Hp} {Qf : Addr → Mp → Prop} {Q : VK} (hs : ∀ i ∈ c.slots, i ∈ own) (hh : Here X B ρ σ M H)
    (h : ti ρ M fun items G M1 => ∀ p, M1 p = none → lcG c.dg tt te p (wipeD ρ own) G (Qf p) items (um M1 p (.lst [])))
    (q : ∀ p M' H', Qf p M' → Keep M H M' H' → RepM X.K X.mg M' H' → Q (.ref p) H') :
    tLc (lftJ X B ti) (c.tg X.K) (lftT X At0 tt) (lft X At0 te) own σ H Q := by
  refine ⟨ρ, M, _, hh, h, fun items G M1 J H1 h1 k1 m1 sv => ?_⟩
  intro D hD
  have hMD := m1.free hD
  have h2 := h1 D hMD
  have kN : Keep M1 H1 (um M1 D (.lst [])) (upd H1 D (.lst [])) := Keep.newM m1 hD
  have mN : RepM X.K X.mg (um M1 D (.lst [])) (upd H1 D (.lst [])) := m1.newM hD ⟨[], by rw [upd_same], .nil⟩
  exact walkG (fun xs M => lcG c.dg tt te D (wipeD ρ own) G (Qf D) xs M) (Qf D) (bodyD tt te D) (bodyH X tt te D) (Q (.ref D)) hs (wipe_rep (hh.s.keep k1) own) sv (fun M h => h) (fun d ds M h => h)
    (fun M' H' k m z => q D M' H' z (k1.trans k) m) (fun ρ1 M2 σ2 H2 N NH rs w k m hb hn => body_read rs k m hb hn) kN mN h2
theorem lcG2_read {own own1 : List Nat} {c c1 : CT} {ti ti1 : TDJ} {tt1 : TDb} {ρ : Rho} {σ : L2.St} {M : Mp} {H : Hp} {Qf : Addr → Mp → Prop} {Q : VK} (hs : ∀ i ∈ c.slots, i ∈ own) (hs1 : ∀ i ∈ c1.slots, i ∈ own1) (hh : Here X B ρ σ M H)
    (h : ti ρ M fun items G M1 => ∀ p, M1 p = none → lcG2 c.dg tt own1 ti1 c1.dg tt1 te p (wipeD ρ own) G (Qf p) items (um M1 p (.lst [])))
    (q : ∀ p M' H', Qf p M' → Keep M H M' H' → RepM X.K X.mg M' H' → Q (.ref p) H') :
    tLc2 (lftJ X B ti) (c.tg X.K) (lftT X At0 tt) (lftJ X At0 ti1) (c1.tg X.K) (lftT X At0 tt1) (lft X At0 te) own own1 σ H Q := by
  refine ⟨ρ, M, _, hh, h, fun items G M1 J H1 h1 k1 m1 sv => ?_⟩
  intro D hD
  have hMD := m1.free hD
  have h2 := h1 D hMD
  have kN : Keep M1 H1 (um M1 D (.lst [])) (upd H1 D (.lst [])) := Keep.newM m1 hD
  have mN : RepM X.K X.mg (um M1 D (.lst [])) (upd H1 D (.lst [])) := m1.newM hD ⟨[], by rw [upd_same], .nil⟩
  refine walkG (fun xs M => lcG2 c.dg tt own1 ti1 c1.dg tt1 te D (wipeD ρ own) G (Qf D) xs M) (Qf D)
    (fun ρ1 M2 N => tt ρ1 M2 fun b M3 => (b = true → ti1 ρ1 M3 fun items1 G1 M4 => lcG c1.dg tt1 te D (wipeD ρ1 own1) G1 N items1 M4) ∧ (b = false → N M3))
    (fun σ2 H2 Nx => lftT X At0 tt σ2 H2 fun b H3 => if b = true then lftJ X At0 ti1 σ2 H3 fun J1 H4 => ∃ W1 : Nat → Nat → Hp → Prop, (∃ m, W1 0 m H4) ∧ ∀ j k H, W1 j k H →
      (J1.stop j H ∧ Nx H) ∨ (J1.go j H ∧ ∃ Nx1 : Hp → Prop, (∀ H', Nx1 H' → ∃ k', k' < k ∧ W1 (j + 1) k' H') ∧ ∀ x H', J1.yld j H x H' → c1.tg X.K x (wipe σ2 own1) H' fun σ3 H5 => wipe σ3 own1 = wipe σ2 own1 ∧ bodyH X tt1 te D σ3 H5 Nx1) else Nx H3)
    (Q (.ref D)) hs (wipe_rep (hh.s.keep k1) own) sv (fun M h => h) (fun d ds M h => h) (fun M' H' k m z => q D M' H' z (k1.trans k) m) ?_ kN mN h2
  intro ρ1 M2 σ2 H2 N NH rs w k m hb hn
  refine ⟨ρ1, M2, _, ⟨rs, m, keepAt0⟩, hb, fun b M3 H3 hb k3 m3 => ?_⟩
  cases b with
  | false => exact iteF (hn _ _ (k.trans k3) m3 (hb.2 rfl))
  | true =>
    refine iteT ⟨ρ1, M3, _, ⟨rs.keep k3, m3, keepAt0⟩, hb.1 rfl, fun items1 G1 M4 J1 H4 h4 k4 m4 sv1 => ?_⟩
    exact walkG (fun xs M => lcG c1.dg tt1 te D (wipeD ρ1 own1) G1 N xs M) N (bodyD tt1 te D) (bodyH X tt1 te D) NH hs1 (wipe_rep (rs.keep (k3.trans k4)) own1) sv1 (fun M h => h) (fun d ds M h => h)
      (fun M' H' k' m' z => hn M' H' ((k.trans (k3.trans k4)).trans k') m' z) (fun ρ3 M5 σ3 H5 N' NH' rs' w' k' m' hb' hn' => body_read rs' k' m' hb' hn') .rfl' m4 h4
end
section
variable {elt tg iter tg1 iter1 : Expr} {ifs ifs1 : List Expr} {scope : Scope} {own : List (Str × Nat)} {own1 : List Nat} {pos : Pos} {ti ti1 : TDJ} {tt tt1 : TDb} {te : TD} {c c1 : CT}
theorem lftJ_blk {s0 : Shared} {H0 : Hp} {scope : Scope} {ce : Env} {fp : List Addr} {σ : L2.St} {H : Hp} {R : It → Hp → Prop} {t : TDJ} (h : lftJ X B t σ H R) : lftJ (X.blk s0 H0 scope ce fp) B t σ H R := by
  obtain ⟨ρ, M, T, hh, h, q⟩ := h
  exact ⟨ρ, M, T, hh.toBlk, h, fun items G M' J H' a b c e => q items G M' J H' a b c e⟩
theorem PI.imp' {X : Cx} {tg e : Expr} {t u : TI} (h : PI X tg e t) (q : ∀ σ H Q, u σ H Q → t σ H Q) : PI X tg e u := PI.imp h q
theorem lc_end {Q : VK} {R : DK} {M : Mp} {H : Hp} {p : Addr} {M' : Mp} {H' : Hp} (q : ∀ d M' v H', R d M' → Keep M H M' H' → RepM X.K X.mg M' H' → RepV X.K X.mg M' H' d v → Q v H') (z : ∃ acc, M' p = some (.lst acc) ∧ R (.lst acc) (dm M' p)) (k : Keep M H M' H') (m : RepM X.K X.mg M' H') : Q (.ref p) H' := by
  obtain ⟨acc, ea, z⟩ := z
  obtain ⟨vs, ha, rs⟩ := m p _ ea
  refine q _ _ _ _ z k.dm (m.less dm_le) ?_
  unfold RepV
  exact ⟨p, vs, rfl, dm_same _ _, ha, RepVs.keep (Keep.rfl'.less dm_le) _ _ rs⟩
theorem de_lcG (hc : X.calm = true) (hN : X.N.Nodup) (hi : DJ X B tg iter ti) (ok : BlkOk X.N X.env.scope scope own) (hs' : ∀ i ∈ c.slots, i ∈ own.map (·.2))
    (hg : ∀ (s : Shared) (H : Hp) (C : Addr) (cl : List (Str × Addr)) (fp : List Addr), PG (X.blk s H scope (compEnvC scope cl C X.env) fp) tg (c.tg X.K))
    (ht : ∀ (s : Shared) (H : Hp) (C : Addr) (cl : List (Str × Addr)) (fp : List Addr), DTl (X.blk s H scope (compEnvC scope cl C X.env) fp) At0 ifs tt)
    (he : ∀ (s : Shared) (H : Hp) (C : Addr) (cl : List (Str × Addr)) (fp : List Addr), DE (X.blk s H scope (compEnvC scope cl C X.env) fp) At0 elt te)
    (hs : ∀ x, foldedSetIterable iter X.env x = pure x := by intro _; rfl) : DE X B (.ListComp elt [⟨tg, iter, ifs, 0⟩] scope pos) (dLCG (own.map (·.2)) c.dg ti tt te) := by
  refine PE.imp (pe_lc hc hN hi ok hg (fun s H C cl fp => PTs.imp (ht s H C cl fp) fun σ H Q h => lftT_blk h) (fun s H C cl fp => PE.imp (he s H C cl fp) fun σ H Q h => lft_blk h) hs) fun σ H Q h => ?_
  obtain ⟨ρ, M, R, hh, h, q⟩ := h
  exact lcG_read hs' hh h fun p M' H' z k m => lc_end q z k m
theorem ds_setLcG {iy : Nat} {y : Str} {py spos : Pos} (hc : X.calm = true) (hN : X.N.Nodup) (hy : X.N[iy]? = some y) (hyl : X.env.scope.names.lookup y = some .local) (hsw : swapsWith (.ListComp elt [⟨tg, iter, ifs, 0⟩] scope pos) (some (.Name y py)) spos.line X.env = pure true) (hi : DJ X B tg iter ti) (ok : BlkOk X.N X.env.scope scope own) (hs' : ∀ i ∈ c.slots, i ∈ own.map (·.2))
    (hg : ∀ (s : Shared) (H : Hp) (C : Addr) (cl : List (Str × Addr)) (fp : List Addr), PG (X.blk s H scope (compEnvC scope cl C X.env) fp) tg (c.tg X.K))
    (ht : ∀ (s : Shared) (H : Hp) (C : Addr) (cl : List (Str × Addr)) (fp : List Addr), DTl (X.blk s H scope (compEnvC scope cl C X.env) fp) At0 ifs tt)
    (he : ∀ (s : Shared) (H : Hp) (C : Addr) (cl : List (Str × Addr)) (fp : List Addr), DE (X.blk s H scope (compEnvC scope cl C X.env) fp) At0 elt te)
    (hs : ∀ x, foldedSetIterable iter X.env x = pure x := by intro _; rfl) : DS X B (.Assign [.Name y py] (.ListComp elt [⟨tg, iter, ifs, 0⟩] scope pos) spos) (dAsg (dLCG (own.map (·.2)) c.dg ti tt te) (dgName iy)) := by
  refine PS.imp (ps_setLc (g := c.tg X.K) (tt := lftT X At0 tt) (te := lft X At0 te) hc hN hy hyl hsw hi ok hg (fun s H C cl fp => PTs.imp (ht s H C cl fp) fun σ H Q h => lftT_blk h) (fun s H C cl fp => PE.imp (he s H C cl fp) fun σ H Q h => lft_blk h) hs) fun D σ H h => ?_
  obtain ⟨C0, ρ, M, E, kb, hh, le, h⟩ := h
  refine lcG_read (Q := fun x H1 => gName iy x σ H1 D.nx) hs' (hh.base kb) h fun p M' H' z k m => ?_
  exact lc_end (Q := fun x H1 => gName iy x σ H1 D.nx) (R := fun d M' => E.nx (ρ.set iy (some d)) M') (M := M) (H := H) (fun d M' v H' z k m r => le.nx _ _ _ _ ((hh.step k m).set r) z) z k m
theorem de_lcG2 (hc : X.calm = true) (hN : X.N.Nodup) (hi : DJ X B tg iter ti) (ok : BlkOk X.N X.env.scope scope own) (hs' : ∀ i ∈ c.slots, i ∈ own.map (·.2)) (hs1' : ∀ i ∈ c1.slots, i ∈ own1) (hv : ∀ i ∈ own1, i ∈ own.map (·.2))
    (hg : ∀ (s : Shared) (H : Hp) (C : Addr) (cl : List (Str × Addr)) (fp : List Addr), PG (X.blk s H scope (compEnvC scope cl C X.env) fp) tg (c.tg X.K))
    (ht : ∀ (s : Shared) (H : Hp) (C : Addr) (cl : List (Str × Addr)) (fp : List Addr), DTl (X.blk s H scope (compEnvC scope cl C X.env) fp) At0 ifs tt)
    (hi1 : ∀ (s : Shared) (H : Hp) (C : Addr) (cl : List (Str × Addr)) (fp : List Addr), DJ (X.blk s H scope (compEnvC scope cl C X.env) fp) At0 tg1 iter1 ti1)
    (hg1 : ∀ (s : Shared) (H : Hp) (C : Addr) (cl : List (Str × Addr)) (fp : List Addr), PG (X.blk s H scope (compEnvC scope cl C X.env) fp) tg1 (c1.tg X.K))
    (ht1 : ∀ (s : Shared) (H : Hp) (C : Addr) (cl : List (Str × Addr)) (fp : List Addr), DTl (X.blk s H scope (compEnvC scope cl C X.env) fp) At0 ifs1 tt1)
    (he : ∀ (s : Shared) (H : Hp) (C : Addr) (cl : List (Str × Addr)) (fp : List Addr), DE (X.blk s H scope (compEnvC scope cl C X.env) fp) At0 elt te)
    (hs : ∀ x, foldedSetIterable iter X.env x = pure x := by intro _; rfl) (hs1 : ∀ env x, foldedSetIterable iter1 env x = pure x := by intro _ _; rfl) : DE X B (.ListComp elt [⟨tg, iter, ifs, 0⟩, ⟨tg1, iter1, ifs1, 0⟩] scope pos) (dLCG2 (own.map (·.2)) own1 c.dg ti tt c1.dg ti1 tt1 te) := by
  refine PE.imp (pe_lc2 (vs1 := own1) hc hN hi ok hv hg (fun s H C cl fp => PTs.imp (ht s H C cl fp) fun σ H Q h => lftT_blk h) (fun s H C cl fp => PI.imp (hi1 s H C cl fp) fun σ H Q h => lftJ_blk h) hg1 (fun s H C cl fp => PTs.imp (ht1 s H C cl fp) fun σ H Q h => lftT_blk h) (fun s H C cl fp => PE.imp (he s H C cl fp) fun σ H Q h => lft_blk h) hs hs1) fun σ H Q h => ?_
  obtain ⟨ρ, M, R, hh, h, q⟩ := h
  exact lcG2_read hs' hs1' hh h fun p M' H' z k m => lc_end q z k m
end
end
end DL
/-! The D layer, part t: words for walks of any kind. -/
namespace DL
open PySem PySem.Spec L2
/-- an expression that is not come to -/
def dNo : TD := fun _ _ _ => False
theorem de_no {X : Cx} {B : At} {e : Expr} : DE X B e dNo := ⟨fun pins s σ H Q I h => by
  obtain ⟨ρ, M, R, hh, h, q⟩ := h
  exact h.elim⟩
theorem pl_lint (n : Nat) (L : List Int) : D.pl (n + 1) (.lst (L.map .int)) = true := by simp [D.pl]
theorem pl_tint (n : Nat) (L : List Int) : D.pl (n + 1) (.tup (L.map .int)) = true := by simp [D.pl]
theorem pl_bl (n : Nat) (b : Bool) : D.pl n (.bl b) = true := by cases n <;> rfl
theorem pl_i (n : Nat) (b : Int) : D.pl n (.int b) = true := by cases n <;> rfl
theorem pl_n (n : Nat) : D.pl n .non = true := by cases n <;> rfl
theorem eqv_bl (a b : Bool) : D.eqv (.bl a) (.bl b) = (a == b) := rfl
theorem eqv_ii (a b : Int) : D.eqv (.int a) (.int b) = (a == b) := rfl
theorem eqv_nn : D.eqv .non .non = true := rfl
theorem ints_inj (ps qs : List Int) : (ps.map D.int = qs.map D.int) = (ps = qs) := by
  refine propext ⟨fun h => ?_, fun h => by rw [h]⟩
  induction ps generalizing qs with
  | nil => cases qs with
    | nil => rfl
    | cons => cases h
  | cons p ps ih =>
    cases qs with
    | nil => cases h
    | cons q qs =>
      simp only [List.map_cons] at h
      injection h with h1 h2
      injection h1 with h1
      rw [h1, ih qs h2]
theorem same_go {d : D} (p : d.pl 12 = true) {X Y : Prop} (y : Y) : d.pl 12 = true ∧ (D.eqv d d = false → X) ∧ (D.eqv d d = true → Y) := ⟨p, fun z => absurd (eqv_self p) (by rw [z]; decide), fun _ => y⟩
theorem eqv_lint (L K : List Int) : D.eqv (.lst (L.map .int)) (.lst (K.map .int)) = decide (L = K) := by
  unfold D.eqv
  simp only [D.py, PyData.eqv, eqv_ints]
theorem eqv_tint (L K : List Int) : D.eqv (.tup (L.map .int)) (.tup (K.map .int)) = decide (L = K) := by
  unfold D.eqv
  simp only [D.py, PyData.eqv, eqv_ints]
theorem for_byJ {g : TDG} {t : TDS} {E : DEnds} {G : Mp → Prop} {items : List D} {ρ : Rho} {M : Mp} (Inv : Nat → Rho → Mp → Prop) (hG : ∀ i ρ M, Inv i ρ M → G M) (h0 : Inv 0 ρ M)
    (step : ∀ (i : Nat) (d : D) (ρ : Rho) (M : Mp) (P : Rho → Mp → Prop), items[i]? = some d → Inv i ρ M → (∀ ρ' M', Inv (i + 1) ρ' M' → P ρ' M') →
      g d ρ M fun ρ1 M1 => t { E with nx := fun ρ' M' => Wk (P ρ') M', ct := fun ρ' M' => Wk (P ρ') M', bk := E.nx } ρ1 M1)
    (hd : ∀ ρ M, Inv items.length ρ M → E.nx ρ M) : forJ g t E G items ρ M := by
  have key : ∀ (xs : List D) (i : Nat) (ρ : Rho) (M : Mp), items.drop i = xs → i ≤ items.length → Inv i ρ M → forJ g t E G xs ρ M := by
    intro xs
    induction xs with
    | nil =>
      intro i ρ M e hi h
      have : items.length ≤ i := List.drop_eq_nil_iff.mp e
      have : i = items.length := by omega
      subst this
      exact ⟨hG _ _ _ h, hd ρ M h⟩
    | cons d xs ih =>
      intro i ρ M e hi h
      have hlt : i < items.length := by
        rcases Nat.lt_or_ge i items.length with q | q
        · exact q
        · rw [List.drop_of_length_le q] at e; cases e
      rw [List.drop_eq_getElem_cons hlt] at e
      injection e with e1 e2
      exact ⟨hG _ _ _ h, step i d ρ M (fun ρ' M' => forJ g t E G xs ρ' M') (by rw [List.getElem?_eq_getElem hlt, e1]) h fun ρ' M' h' => ih (i + 1) ρ' M' e2 hlt h'⟩
  exact key items 0 ρ M rfl (Nat.zero_le _) h0
theorem for_mapJ {α : Type} {f : α → D} {L : List α} {g : TDG} {t : TDS} {E : DEnds} {G : Mp → Prop} {ρ : Rho} {M : Mp} (Inv : List α → Rho → Mp → Prop) (hG : ∀ pre ρ M, Inv pre ρ M → G M) (h0 : Inv [] ρ M)
    (step : ∀ (pre : List α) (x : α) (post : List α) (ρ : Rho) (M : Mp) (P : Rho → Mp → Prop), L = pre ++ x :: post → Inv pre ρ M → (∀ ρ' M', Inv (pre ++ [x]) ρ' M' → Wk (P ρ') M') →
      g (f x) ρ M fun ρ1 M1 => t { E with nx := fun ρ' M' => Wk (P ρ') M', ct := fun ρ' M' => Wk (P ρ') M', bk := E.nx } ρ1 M1)
    (hd : ∀ ρ M, Inv L ρ M → E.nx ρ M) : forJ g t E G (L.map f) ρ M := by
  refine for_byJ (fun i ρ M => Inv (L.take i) ρ M) (fun i ρ M h => hG _ _ _ h) h0 ?_ fun ρ M h => hd ρ M (by simpa using h)
  intro i d ρ M P hi h hP
  rw [List.getElem?_map] at hi
  cases e : L[i]? with
  | none => rw [e] at hi; cases hi
  | some x =>
    rw [e] at hi
    cases hi
    obtain ⟨hlt, e'⟩ := List.getElem?_eq_some_iff.mp e
    have ed : L.drop i = x :: L.drop (i + 1) := by rw [List.drop_eq_getElem_cons hlt, e']
    have et : L.take (i + 1) = L.take i ++ [x] := by rw [List.take_succ_eq_append_getElem hlt, e']
    refine step (L.take i) x (L.drop (i + 1)) ρ M P (by rw [← ed, List.take_append_drop]) h fun ρ' M' h' => Wk.rfl' (hP _ _ ?_)
    rw [et]
    exact h'
theorem lcG_map {α β : Type} {f : α → D} {h : β → D} {L : List α} {g : TDG} {tt : TDb} {te : TD} {ρ0 : Rho} {G : Mp → Prop} {R : Addr → List D → Mp → Prop} {M : Mp} (k : α → Option β) (hz : L.length ≤ sizeLine) (hG : ∀ p, M p = none → ∀ xs, G (um M p (.lst xs)))
    (st : ∀ p, M p = none → ∀ x ∈ L, ∀ (xs : List D) (Kk : D → Mp → Prop) (N : Mp → Prop), (∀ y, k x = some y → Kk (h y) (um M p (.lst xs))) → (k x = none → N (um M p (.lst xs))) →
      g (f x) ρ0 (um M p (.lst xs)) fun ρ1 M2 => tt ρ1 M2 fun b M3 => (b = true → te ρ1 M3 Kk) ∧ (b = false → N M3))
    (q : ∀ p, M p = none → R p ((L.filterMap k).map h) (um M p (.lst ((L.filterMap k).map h)))) : ∀ p, M p = none → lcG g tt te p ρ0 G (fun M2 => ∃ acc, M2 p = some (.lst acc) ∧ R p acc M2) (L.map f) (um M p (.lst [])) := by
  intro p hp
  have key : ∀ (L' : List α) (acc : List D), (∀ x ∈ L', x ∈ L) → acc.length + L'.length ≤ sizeLine → (∃ acc', um M p (.lst (acc ++ (L'.filterMap k).map h)) p = some (.lst acc') ∧ R p acc' (um M p (.lst (acc ++ (L'.filterMap k).map h)))) →
      lcG g tt te p ρ0 G (fun M2 => ∃ acc, M2 p = some (.lst acc) ∧ R p acc M2) (L'.map f) (um M p (.lst acc)) := by
    intro L'
    induction L' with
    | nil => intro acc _ _ q; exact ⟨hG p hp _, by simpa using q⟩
    | cons x L' ih =>
      intro acc hm hl q
      simp only [List.length_cons] at hl
      simp only [List.map_cons, lcG]
      refine ⟨hG p hp _, st p hp x (hm x (List.mem_cons_self ..)) acc _ _ (fun y e => ⟨acc, um_same _ _ _, by omega, ?_⟩) fun e => ?_⟩
      · rw [um_um]
        refine ih (acc ++ [h y]) (fun z hz => hm z (List.mem_cons_of_mem _ hz)) (by simp only [List.length_append, List.length_cons, List.length_nil]; omega) ?_
        simpa [e] using q
      · exact ih acc (fun z hz => hm z (List.mem_cons_of_mem _ hz)) (by omega) (by simpa [e] using q)
  exact key L [] (fun x hx => hx) (by simpa using hz) ⟨_, um_same _ _ _, by simpa using q p hp⟩
theorem lcG_mapA {α β : Type} {f : α → D} {h : β → D} {L : List α} {g : TDG} {te : TD} {ρ0 : Rho} {G : Mp → Prop} {R : Addr → List D → Mp → Prop} {M : Mp} (k : α → β) (hz : L.length ≤ sizeLine) (hG : ∀ p, M p = none → ∀ xs, G (um M p (.lst xs)))
    (st : ∀ p, M p = none → ∀ x ∈ L, ∀ (xs : List D) (Kk : D → Mp → Prop), Kk (h (k x)) (um M p (.lst xs)) → g (f x) ρ0 (um M p (.lst xs)) fun ρ1 M2 => te ρ1 M2 Kk) (hg : ∀ d ρ M (P P' : Rho → Mp → Prop), (∀ ρ' M', P ρ' M' → P' ρ' M') → g d ρ M P → g d ρ M P')
    (q : ∀ p, M p = none → R p ((L.map k).map h) (um M p (.lst ((L.map k).map h)))) : ∀ p, M p = none → lcG g dYes te p ρ0 G (fun M2 => ∃ acc, M2 p = some (.lst acc) ∧ R p acc M2) (L.map f) (um M p (.lst [])) := by
  refine lcG_map (h := h) (fun x => some (k x)) hz hG (fun p hp x hx xs Kk N h1 h2 => ?_) (fun p hp => by rw [List.filterMap_eq_map']; exact q p hp)
  refine hg _ _ _ _ _ (fun ρ' M' z => ?_) (st p hp x hx xs Kk (h1 _ rfl))
  unfold dYes
  exact ⟨fun _ => z, fun z => absurd z (by decide)⟩
theorem zipD_map {α β : Type} (f : α → D) (h : β → D) (L : List α) (L' : List β) : zipD (L.map f) (L'.map h) = (L.zip L').map fun p => .tup [f p.1, h p.2] := by
  unfold zipD
  rw [List.zip_map, List.map_map]
  rfl
theorem enD_map {α : Type} (f : α → D) : ∀ (L : List α) (k : Nat), enD k (L.map f) = (L.zipIdx k).map fun p => .tup [.int (p.2 : Nat), f p.1]
  | [], _ => rfl
  | x :: L, k => by simp only [List.map_cons, enD, List.zipIdx_cons, enD_map f L (k + 1)]
end DL
/-! DLu: in a tuple of flat values, in a text. -/
namespace DL
open PySem PySem.Spec L2
section
variable {X : Cx} {B : List Str}
def D.flat : D → Bool
  | .non => true
  | .bl _ => true
  | .int _ => true
  | .str _ => true
  | _ => false
def eqF : D → D → Bool
  | .non, .non => true
  | .bl a, .bl b => a == b
  | .bl a, .int b => (if a then 1 else 0) == b
  | .int a, .bl b => a == (if b then 1 else 0)
  | .int a, .int b => a == b
  | .str a, .str b => a == b
  | _, _ => false
/-- whether the text b holds a -/
def hasT (b a : Str) : Bool := !(Builtin.Str.occurrences b a 0 b.length 1).isEmpty
def gIn2 (neg : Bool) : DR2 := fun x y M Q => match y with
  | .str b => (match x with
    | .str a => Q (.bl (if neg then !hasT b a else hasT b a)) M
    | _ => False)
  | .tup ys => (x.flat = true ∧ ys.all D.flat = true) ∧ Q (.bl (if neg then !(ys.any fun z => eqF z x) else ys.any fun z => eqF z x)) M
  | y => gIn neg x y M Q
theorem flat_V {K : PySem.W.Frag} {mg : Str → Option Value} {M : Mp} {H : Hp} {d : D} {v : V} (r : RepV K mg M H d v) (f : d.flat = true) : flatV v = true := by
  cases d <;> first | exact absurd f Bool.false_ne_true | (unfold RepV at r; subst r; rfl)
theorem flat_eq {K : PySem.W.Frag} {mg : Str → Option Value} {M : Mp} {H : Hp} {z x : D} {w v : V} (rz : RepV K mg M H z w) (rx : RepV K mg M H x v) (fz : z.flat = true) (fx : x.flat = true) : eqV w v = eqF z x := by
  cases z <;> first
    | exact absurd fz Bool.false_ne_true
    | (unfold RepV at rz; subst rz
       cases x <;> first
         | exact absurd fx Bool.false_ne_true
         | (unfold RepV at rx; subst rx; rfl))
theorem flat_all {K : PySem.W.Frag} {mg : Str → Option Value} {M : Mp} {H : Hp} {x : D} {v : V} (rx : RepV K mg M H x v) (fx : x.flat = true) : ∀ (ys : List D) (vs : List V), RepVs K mg M H ys vs → ys.all D.flat = true → vs.all flatV = true ∧ inV v vs = ys.any fun z => eqF z x
  | [], vs, r, _ => by unfold RepVs at r; subst r; exact ⟨rfl, rfl⟩
  | y :: ys, vs, r, f => by
    unfold RepVs at r
    obtain ⟨w, wr, rfl, r1, r2⟩ := r
    rw [List.all_cons, Bool.and_eq_true] at f
    obtain ⟨a, b⟩ := flat_all rx fx ys wr r2 f.2
    refine ⟨by rw [List.all_cons, flat_V r1 f.1, a]; rfl, ?_⟩
    rw [List.any_cons, ← b, ← flat_eq r1 rx f.1 fx]
    rfl
def rIn2 (K : PySem.W.Frag) (neg : Bool) : R2 := fun x y H Q => (∃ i j, x = .str i ∧ y = .str j ∧ Q (.bl (if neg then !hasT j i else hasT j i)) H) ∨ rIn K neg x y H Q
theorem opc_in2 (neg : Bool) (r0 : R2) (h0 : OpC X r0 (gIn neg)) : OpC X (fun x y H Q => rIn2 X.K neg x y H Q ∨ r0 x y H Q) (gIn2 neg) := by
  intro M H d1 d2 v1 v2 R Q m r1 r2 g q
  unfold gIn2 at g
  split at g
  · split at g
    · unfold RepV at r1 r2
      subst r1 r2
      exact .inl (.inl ⟨_, _, rfl, rfl, q _ _ _ _ g .rfl' m rBl⟩)
    · exact g.elim
  · obtain ⟨⟨f1, f2⟩, g⟩ := g
    have r2' := r2
    unfold RepV at r2'
    obtain ⟨a, vs, rfl, n, ha, rs⟩ := r2'
    obtain ⟨z1, z2⟩ := flat_all r1 f1 _ _ rs f2
    refine .inl (.inr ⟨a, vs, rfl, .inr (SqT.of ha), flat_V r1 f1, z1, ?_⟩)
    rw [z2]
    exact q _ _ _ _ g .rfl' m rBl
  · exact .inr (h0 M H _ _ v1 v2 R Q m r1 r2 g q)
theorem op_in2 : OpR X (compareOp .In) (rIn2 X.K false) := op_in_str.or op_in_seq
theorem op_notin2 : OpR X (compareOp .NotIn) (rIn2 X.K true) := op_notIn_str.or op_notIn_seq
theorem cd_in2 (hu : X.A.units + 65 < cLine) : CmpD X .In (gIn2 false) := ⟨_, op_in2.or (op_inD hu), opc_in2 _ _ opc_in⟩
theorem cd_notin2 (hu : X.A.units + 65 < cLine) : CmpD X .NotIn (gIn2 true) := ⟨_, op_notin2.or (op_notInD hu), opc_in2 _ _ opc_notin⟩
end
end DL
/-! DLv: an empty dict, as a value. -/
namespace DL
open PySem PySem.Spec L2
section
variable {X : Cx} {B : At}
def dDct : TD := fun _ M Q => Q .dct M
theorem de_dct {pos : Pos} : DE X B (.Dict [] [] pos) dDct := by
  refine PE.imp pe_dnewK fun σ H Q h => ?_
  obtain ⟨ρ, M, R, hh, h, q⟩ := h
  intro p n
  refine q _ _ _ _ h (Keep.new hh.m n) (hh.m.new n) ?_
  unfold RepV
  exact ⟨p, rfl, hh.m.free n, upd_same⟩
end
/-! ### a target in a target -/
theorem mts_nil : ∀ ds ρ M (Q : Rho → Mp → Prop), dgNil ds ρ M Q → ∃ ρ' M', Q ρ' M' := fun ds ρ M Q h => by
  cases ds with
  | nil => exact ⟨_, _, h⟩
  | cons => exact h.elim
theorem mts_cons {t : TDG} {u : TDGs} (mt : ∀ d ρ M (Q : Rho → Mp → Prop), t d ρ M Q → ∃ ρ' M', Q ρ' M') (mu : ∀ ds ρ M (Q : Rho → Mp → Prop), u ds ρ M Q → ∃ ρ' M', Q ρ' M') : ∀ ds ρ M (Q : Rho → Mp → Prop), dgCons t u ds ρ M Q → ∃ ρ' M', Q ρ' M' := fun ds ρ M Q h => by
  cases ds with
  | nil => exact h.elim
  | cons d ds =>
    obtain ⟨_, _, q⟩ := mt _ _ _ _ h
    exact mu _ _ _ _ q
theorem mt_tup {u : TDGs} (mu : ∀ ds ρ M (Q : Rho → Mp → Prop), u ds ρ M Q → ∃ ρ' M', Q ρ' M') : ∀ d ρ M (Q : Rho → Mp → Prop), dgTup u d ρ M Q → ∃ ρ' M', Q ρ' M' := fun d ρ M Q h => by
  unfold dgTup at h
  split at h
  · exact mu _ _ _ _ h
  · exact h.elim
/-! ### is, is not of bools -/
section
variable {X : Cx}
def gIs2 : DR2 := fun x y M Q => match y with
  | .bl b => (match x with
    | .bl a => Q (.bl (decide (a = b))) M
    | _ => False)
  | y => gIs x y M Q
def gIsNot2 : DR2 := fun x y M Q => match y with
  | .bl b => (match x with
    | .bl a => Q (.bl (!decide (a = b))) M
    | _ => False)
  | y => gIsNot x y M Q
theorem cd_is2 : CmpD X .Is gIs2 := by
  obtain ⟨r0, o0, c0⟩ := cd_is (X := X)
  refine ⟨_, op_isBl.or o0, ?_⟩
  intro M H d1 d2 v1 v2 R Q m r1 r2 g q
  unfold gIs2 at g
  split at g
  · split at g
    · unfold RepV at r1 r2
      subst r1 r2
      exact .inl ⟨_, _, rfl, rfl, q _ _ _ _ g .rfl' m rBl⟩
    · exact g.elim
  · exact .inr (c0 M H _ _ v1 v2 R Q m r1 r2 g q)
theorem cd_isnot2 : CmpD X .IsNot gIsNot2 := by
  obtain ⟨r0, o0, c0⟩ := cd_isnot (X := X)
  refine ⟨_, op_notBl.or o0, ?_⟩
  intro M H d1 d2 v1 v2 R Q m r1 r2 g q
  unfold gIsNot2 at g
  split at g
  · split at g
    · unfold RepV at r1 r2
      subst r1 r2
      exact .inl ⟨_, _, rfl, rfl, q _ _ _ _ g .rfl' m rBl⟩
    · exact g.elim
  · exact .inr (c0 M H _ _ v1 v2 R Q m r1 r2 g q)
end
/-! ### answers of isinstance -/
theorem kb_di : kitB "dict" "int" = some false := by decide +kernel
theorem kb_db : kitB "dict" "bool" = some false := by decide +kernel
theorem kb_ds : kitB "dict" "str" = some false := by decide +kernel
theorem kb_dt : kitB "dict" "tuple" = some false := by decide +kernel
theorem kb_dl : kitB "dict" "list" = some false := by decide +kernel
end DL
namespace Law
open PySem PySem.Spec L2 DL

abbrev N_law_dip : List Str := ["_law_jar", "_law_many", "_law_mixed", "_law_stock", "_law_digit"]
def gO (a b c : Int) : MO := .lst [.int a, .int b, .int c]
/-- a jar at g, behind some draws -/
def Gs (g : Addr) (M M' : Mp) : Prop := ∃ a b c, 0 ≤ a ∧ 0 ≤ b ∧ M' = um M g (gO a b c)
def Gd (M : Mp) (g : Addr) : Prop := ∃ a b c, 0 ≤ a ∧ 0 ≤ b ∧ M g = some (gO a b c)
theorem Gs.gd {g : Addr} {M M' : Mp} (h : Gs g M M') : Gd M' g := let ⟨a, b, c, h1, h2, e⟩ := h; ⟨a, b, c, h1, h2, by rw [e, um_same]⟩
theorem Gs.tr {g : Addr} {M M1 M2 : Mp} (h : Gs g M M1) (k : Gs g M1 M2) : Gs g M M2 := by
  obtain ⟨a, b, c, h1, h2, rfl⟩ := h
  obtain ⟨a', b', c', k1, k2, rfl⟩ := k
  exact ⟨a', b', c', k1, k2, um_um ..⟩
theorem Gs.ne {g p : Addr} {M M' : Mp} (h : Gs g M M') (n : p ≠ g) : M' p = M p := by
  obtain ⟨a, b, c, h1, h2, rfl⟩ := h
  exact um_ne n
def sp_law_dip : DSp := fun ds M Q E => match ds with
  | [.ref g, .int n] => Gd M g ∧ (1 ≤ n ∧ n < 2 ^ 30) ∧ ∀ r M', 0 ≤ r → r < n → Gs g M M' → Q (.int r) M'
  | _ => False
theorem len_law_dip : ∀ ds M Q E, sp_law_dip ds M Q E → ds.length = 2 := fun ds M Q E h => by
  unfold sp_law_dip at h; split at h <;> first | rfl | exact h.elim
def r6_law_dip (W : DW') : TDS :=
  dRet (dV 4)
def r5_law_dip (W : DW') : TDS :=
  dSeq (dAsg (dV 3) (dgSub (dV 0) (dC (.int 0)))) <|
  r6_law_dip W
def r4_law_dip (W : DW') : TDS :=
  dSeq (dAsg (dCB gDivmod (dCons (dOp gIx (dV 0) (dC (.int 0))) (dCons (dV 1) (dNil)))) (dgTup (dgCons (dgName 3) (dgCons (dgName 4) (dgNil))))) <|
  r5_law_dip W
def r3_law_dip (W : DW') : TDS :=
  dSeq (dIfS (dB (dOp gEq (dOp gIx (dV 0) (dC (.int 0))) (dC (.int 0)))) (dRet (dOp (gI (fun _ j => 0 < j) fun i j => .int (i % j)) (dCB gInt (dCons (dOp (gI divOk fun i j => .int (i / j)) (dOp gIx (dV 0) (dC (.int 1))) (dC (.int 103))) (dNil))) (dV 1))) (dNext)) <|
  r4_law_dip W
def r2_law_dip (W : DW') : TDS :=
  dSeq (dAsg (dOp (gI (fun _ j => 0 < j) fun i j => .int (i % j)) (dCB gInt (dCons (dOp gAdd (dOp gAdd (dOp gMul (dV 2) (dV 2)) (dOp gMul (dC (.int 2753159)) (dV 2))) (dC (.int 519371))) (dNil))) (dC (.int 2147483587))) (dgSub (dV 0) (dC (.int 1)))) <|
  r3_law_dip W
def r1_law_dip (W : DW') : TDS :=
  dSeq (dAsg (dOp (gI (fun _ j => 0 < j) fun i j => .int (i % j)) (dCB gInt (dCons (dOp gAdd (dOp gIx (dV 0) (dC (.int 1))) (dOp gMul (dC (.int 770551)) (dOp gIx (dV 0) (dC (.int 2))))) (dNil))) (dC (.int 2147483587))) (dgName 2)) <|
  r2_law_dip W
def t_law_dip (W : DW') : TDS :=
  dSeq (dAsg (dOp gAdd (dOp gIx (dV 0) (dC (.int 2))) (dC (.int 1))) (dgSub (dV 0) (dC (.int 2)))) <|
  r1_law_dip W
theorem pure_law_dip (ds : List D) (M : Mp) (Q : DK) (E : XE') (h : sp_law_dip ds M Q E) : t_law_dip (fnW E) { nx := fun _ M' => Wk (Q .non) M', rt := fun d M' => Wk (Q d) M' } (startD N_law_dip ds) M := by
  unfold sp_law_dip at h
  split at h
  rotate_left
  · exact h.elim
  rename_i g n
  obtain ⟨⟨a, b, c, ha, hb, hg⟩, ⟨n1, n2⟩, h⟩ := h
  unfold gO at hg
  simp (config := { decide := false }) only [dMeth, dMakeK, pl_lint, pl_tint, eqv_lint, eqv_tint, decide_true, decide_false, dForJ, djT, djItems, djEnum, djZip, seqJ, dLCG, dLCG2, gMul, gMin1, gMax1, dEnum, dLC, dLCM, dYes, wipeD, dFld, fldOf, dSetF, putD, dMake, dMakeM, mkQ, mkQM, dProp, isOf, gIsC, gIn, gIn2, dDct, gSorted, asI, gRepr, dCallKw, pick, List.filterMap_cons, List.filterMap_nil, List.getElem?_nil, dSeq, dNext, dRet, dRetN, dIfS, dAsg, dgName, dgTup, dgCons, dgNil, dgSub, dPar, dAug, dDrop, dBreak, dCont, dNever, dOp, gI, gT, gPlus, gAdd, gEq, gNe, gIs, gIsNot, gIs2, gIsNot2, gIx, dV, dC, dB, dAnd, dOr, dNot, dAndV, dOrV, dNotV, dIf, dNeg, dChain, dNil, dCons, dTup, dLst, dLstM, dNoPart, dPart, dSl, dCB, dCall, gLen, gAbs, g2, gInt, gStr, gDivmod, gIsTy, gTuple, gList, gSum, gAll, gAny, dAppend, dItems, itemsOf, dRange1, dRange2, dFor, D.onB, D.tyn, D.isNon, asL, rsv, kb_di, kb_db, kb_ds, kb_dt, kb_dl, kb_ii, kb_bi, kb_ni, kb_si, kb_ti, kb_li, kb_ib, kb_bb, kb_nb, kb_sb, kb_tb, kb_lb, kb_is, kb_bs, kb_ns, kb_ss, kb_ts, kb_ls, kb_it, kb_bt, kb_nt, kb_st, kb_tt, kb_lt, startD, List.map_cons, List.map_nil, List.length_cons, List.length_nil, List.cons_append, List.nil_append, List.replicate, List.getElem?_cons_zero, List.getElem?_cons_succ, List.set_cons_zero, List.set_cons_succ, List.zip_cons_cons, List.zip_nil_right, List.foldl_cons, List.foldl_nil, Option.bind_some, Option.bind_none, um_same, um_um, Bool.false_eq_true, reduceCtorEq, false_implies, true_implies, forall_const, true_and, and_true, and_self, Bool.not_true, Bool.not_false, implies_true, decide_eq_true_eq, decide_eq_false_iff_not, Bool.not_eq_true, not_true_eq_false, not_false_eq_true, Bool.not_eq_true', Bool.not_eq_false', D.onB, sizeLine_eq, Nat.reduceAdd, Nat.reduceLeDiff, Nat.zero_add, Nat.reduceLT, t_law_dip, r1_law_dip, r2_law_dip, r3_law_dip, r4_law_dip, r5_law_dip, r6_law_dip, hg, at0, at1, at2, at3, ix0, ix1, ix2]
  have e0 := Int.emod_nonneg (b + 770551 * (c + 1)) (show (2147483587 : Int) ≠ 0 by decide)
  have e1 := Int.emod_lt_of_pos (b + 770551 * (c + 1)) (show (0 : Int) < 2147483587 by decide)
  generalize (b + 770551 * (c + 1)) % 2147483587 = x at *
  refine ⟨mul_l ⟨by decide, by decide⟩, by decide, mul_l ⟨by omega, by omega⟩, mul_l ⟨by decide, by decide⟩, by decide, fun c1 => ⟨⟨by decide, .inl (by decide)⟩, by omega, ?_⟩, fun c1 => ⟨⟨by omega, by omega⟩, Wk.of (h _ _ (Int.emod_nonneg _ (by omega)) (Int.emod_lt_of_pos _ (by omega)) ⟨_, _, _, Int.ediv_nonneg ha (by omega), Int.emod_nonneg _ (by decide), rfl⟩)⟩⟩
  exact Wk.of (h _ _ (Int.emod_nonneg _ (by omega)) (Int.emod_lt_of_pos _ (by omega)) ⟨_, _, _, ha, Int.emod_nonneg _ (by decide), rfl⟩)
abbrev N_law_well : List Str := ["_law_cell_here"]
def sp_law_well : DSp := fun ds M Q E => match ds with
  | [.int x] => ∀ p M', M p = none → Gs p M M' → Q (.ref p) M'
  | _ => False
theorem len_law_well : ∀ ds M Q E, sp_law_well ds M Q E → ds.length = 1 := fun ds M Q E h => by
  unfold sp_law_well at h; split at h <;> first | rfl | exact h.elim
def t_law_well (W : DW') : TDS :=
  dRet (dLstM (dCons (dIf (dOr (dB (dOp (gT fun i j => decide (i < j)) (dV 0) (dC (.int 0)))) (dB (dOp (gT fun i j => decide (j ≤ i)) (dV 0) (dOp (gI CPow fun i j => .int (i ^ j.toNat)) (dC (.int 10)) (dC (.int 18)))))) (dCB gAbs (dCons (dV 0) (dNil))) (dC (.int 0))) (dCons (dOp (gI (fun _ j => 0 < j) fun i j => .int (i % j)) (dCB gInt (dCons (dV 0) (dNil))) (dC (.int 2147483587))) (dCons (dC (.int 0)) (dNil)))))
theorem pure_law_well (ds : List D) (M : Mp) (Q : DK) (E : XE') (h : sp_law_well ds M Q E) : t_law_well (fnW E) { nx := fun _ M' => Wk (Q .non) M', rt := fun d M' => Wk (Q d) M' } (startD N_law_well ds) M := by
  unfold sp_law_well at h
  split at h
  rotate_left
  · exact h.elim
  rename_i x
  have cp : CPow 10 18 := ⟨by decide, by decide, by decide⟩
  have e0 := Int.emod_nonneg x (show (2147483587 : Int) ≠ 0 by decide)
  simp (config := { decide := false }) only [dMeth, dMakeK, pl_lint, pl_tint, eqv_lint, eqv_tint, decide_true, decide_false, dForJ, djT, djItems, djEnum, djZip, seqJ, dLCG, dLCG2, gMul, gMin1, gMax1, dEnum, dLC, dLCM, dYes, wipeD, dFld, fldOf, dSetF, putD, dMake, dMakeM, mkQ, mkQM, dProp, isOf, gIsC, gIn, gIn2, dDct, gSorted, asI, gRepr, dCallKw, pick, List.filterMap_cons, List.filterMap_nil, List.getElem?_nil, dSeq, dNext, dRet, dRetN, dIfS, dAsg, dgName, dgTup, dgCons, dgNil, dgSub, dPar, dAug, dDrop, dBreak, dCont, dNever, dOp, gI, gT, gPlus, gAdd, gEq, gNe, gIs, gIsNot, gIs2, gIsNot2, gIx, dV, dC, dB, dAnd, dOr, dNot, dAndV, dOrV, dNotV, dIf, dNeg, dChain, dNil, dCons, dTup, dLst, dLstM, dNoPart, dPart, dSl, dCB, dCall, gLen, gAbs, g2, gInt, gStr, gDivmod, gIsTy, gTuple, gList, gSum, gAll, gAny, dAppend, dItems, itemsOf, dRange1, dRange2, dFor, D.onB, D.tyn, D.isNon, asL, rsv, kb_di, kb_db, kb_ds, kb_dt, kb_dl, kb_ii, kb_bi, kb_ni, kb_si, kb_ti, kb_li, kb_ib, kb_bb, kb_nb, kb_sb, kb_tb, kb_lb, kb_is, kb_bs, kb_ns, kb_ss, kb_ts, kb_ls, kb_it, kb_bt, kb_nt, kb_st, kb_tt, kb_lt, startD, List.map_cons, List.map_nil, List.length_cons, List.length_nil, List.cons_append, List.nil_append, List.replicate, List.getElem?_cons_zero, List.getElem?_cons_succ, List.set_cons_zero, List.set_cons_succ, List.zip_cons_cons, List.zip_nil_right, List.foldl_cons, List.foldl_nil, Option.bind_some, Option.bind_none, um_same, um_um, Bool.false_eq_true, reduceCtorEq, false_implies, true_implies, forall_const, true_and, and_true, and_self, Bool.not_true, Bool.not_false, implies_true, decide_eq_true_eq, decide_eq_false_iff_not, Bool.not_eq_true, not_true_eq_false, not_false_eq_true, Bool.not_eq_true', Bool.not_eq_false', D.onB, sizeLine_eq, Nat.reduceAdd, Nat.reduceLeDiff, Nat.zero_add, Nat.reduceLT, pl_bl, pl_i, pl_n, eqv_bl, eqv_ii, eqv_nn, ints_inj, exists_eq_left', exists_eq_left, beq_iff_eq, beq_eq_false_iff_ne, ne_eq, true_or, or_true, false_or, or_false, false_and, and_false, if_true, if_false, List.lookup_cons, beq_self_eq_true, t_law_well, cp]
  refine ⟨fun c => ⟨by decide, fun p hp => Wk.of (h p _ hp ⟨_, _, _, by omega, e0, rfl⟩)⟩, fun c => ⟨fun c2 => ⟨by decide, fun p hp => Wk.of (h p _ hp ⟨_, _, _, by omega, e0, rfl⟩)⟩, fun c2 => ⟨by decide, fun p hp => Wk.of (h p _ hp ⟨_, _, _, by omega, e0, rfl⟩)⟩⟩⟩
abbrev N_law_cell : List Str := ["_law_cells", "_law_k", "_law_made", "_law_own"]
def sp_law_cell : DSp := fun ds M Q E => match ds with
  | [.scr ns, .int k] => (0 ≤ k ∧ k < 1000) ∧ ∀ x, Q (.int x) M
  | _ => False
theorem len_law_cell : ∀ ds M Q E, sp_law_cell ds M Q E → ds.length = 2 := fun ds M Q E h => by
  unfold sp_law_cell at h; split at h <;> first | rfl | exact h.elim
def b1_law_cell (W : DW') : TDS :=
  dAsg (dOp (gI (fun _ j => 0 < j) fun i j => .int (i % j)) (dCB gInt (dCons (dOp gAdd (dOp gAdd (dOp gMul (dV 2) (dC (.int 53047))) (dOp gMul (dV 3) (dC (.int 1009)))) (dV 1)) (dNil))) (dC (.int 2147483563))) (dgName 2)
def t_law_cell (W : DW') : TDS :=
  dSeq (dIfS (dB (dOp (gT fun i j => decide (i < j)) (dV 1) (dCB gLen (dCons (dV 0) (dNil))))) (dRet (dOp gIx (dV 0) (dV 1))) (dNext)) <|
  dSeq (dAsg (dOp gAdd (dC (.int 580687)) (dOp gMul (dC (.int 80107)) (dV 1))) (dgName 2)) <|
  dSeq (dFor (dItems (dSl (dV 0) (dNoPart) (dPart (dC (.int 5))))) (dgName 3) (b1_law_cell W)) <|
  dRet (dV 2)
theorem pure_law_cell (ds : List D) (M : Mp) (Q : DK) (E : XE') (h : sp_law_cell ds M Q E) : t_law_cell (fnW E) { nx := fun _ M' => Wk (Q .non) M', rt := fun d M' => Wk (Q d) M' } (startD N_law_cell ds) M := by
  unfold sp_law_cell at h
  split at h
  rotate_left
  · exact h.elim
  rename_i ns k
  obtain ⟨⟨k0, k1⟩, h⟩ := h
  simp (config := { decide := false }) only [dMeth, dMakeK, pl_lint, pl_tint, eqv_lint, eqv_tint, decide_true, decide_false, dForJ, djT, djItems, djEnum, djZip, seqJ, dLCG, dLCG2, gMul, gMin1, gMax1, dEnum, dLC, dLCM, dYes, wipeD, dFld, fldOf, dSetF, putD, dMake, dMakeM, mkQ, mkQM, dProp, isOf, gIsC, gIn, gIn2, dDct, gSorted, asI, gRepr, dCallKw, pick, List.filterMap_cons, List.filterMap_nil, List.getElem?_nil, dSeq, dNext, dRet, dRetN, dIfS, dAsg, dgName, dgTup, dgCons, dgNil, dgSub, dPar, dAug, dDrop, dBreak, dCont, dNever, dOp, gI, gT, gPlus, gAdd, gEq, gNe, gIs, gIsNot, gIs2, gIsNot2, gIx, dV, dC, dB, dAnd, dOr, dNot, dAndV, dOrV, dNotV, dIf, dNeg, dChain, dNil, dCons, dTup, dLst, dLstM, dNoPart, dPart, dSl, dCB, dCall, gLen, gAbs, g2, gInt, gStr, gDivmod, gIsTy, gTuple, gList, gSum, gAll, gAny, dAppend, dItems, itemsOf, dRange1, dRange2, dFor, D.onB, D.tyn, D.isNon, asL, rsv, kb_di, kb_db, kb_ds, kb_dt, kb_dl, kb_ii, kb_bi, kb_ni, kb_si, kb_ti, kb_li, kb_ib, kb_bb, kb_nb, kb_sb, kb_tb, kb_lb, kb_is, kb_bs, kb_ns, kb_ss, kb_ts, kb_ls, kb_it, kb_bt, kb_nt, kb_st, kb_tt, kb_lt, startD, List.map_cons, List.map_nil, List.length_cons, List.length_nil, List.cons_append, List.nil_append, List.replicate, List.getElem?_cons_zero, List.getElem?_cons_succ, List.set_cons_zero, List.set_cons_succ, List.zip_cons_cons, List.zip_nil_right, List.foldl_cons, List.foldl_nil, Option.bind_some, Option.bind_none, um_same, um_um, Bool.false_eq_true, reduceCtorEq, false_implies, true_implies, forall_const, true_and, and_true, and_self, Bool.not_true, Bool.not_false, implies_true, decide_eq_true_eq, decide_eq_false_iff_not, Bool.not_eq_true, not_true_eq_false, not_false_eq_true, Bool.not_eq_true', Bool.not_eq_false', D.onB, sizeLine_eq, Nat.reduceAdd, Nat.reduceLeDiff, Nat.zero_add, Nat.reduceLT, pl_bl, pl_i, pl_n, eqv_bl, eqv_ii, eqv_nn, ints_inj, exists_eq_left', exists_eq_left, beq_iff_eq, beq_eq_false_iff_ne, ne_eq, true_or, or_true, false_or, or_false, false_and, and_false, if_true, if_false, List.lookup_cons, beq_self_eq_true, t_law_cell]
  refine ⟨fun c => ?_, fun c => ⟨mul_l ⟨by decide, by decide⟩, ?_⟩⟩
  · have hk : k.toNat < ns.length := by omega
    have e : atI ns k = some ns[k.toNat] := by
      have : atI ns ((k.toNat : Nat) : Int) = some ns[k.toNat] := atI_nat (List.getElem?_eq_getElem hk)
      rwa [Int.toNat_of_nonneg k0] at this
    rw [e]
    exact Wk.of (h _)
  · refine for_map (f := D.int) (L := cutL ns none (some 5)) (fun i ρ M' => M' = M ∧ ∃ m z, ρ = [some (.scr ns), some (.int k), some (.int m), z]) ⟨rfl, _, none, rfl⟩ ?_ ?_
    · rintro pre x post ρ M' P hL ⟨rfl, m, z, rfl⟩ hP
      simp (config := { decide := false }) only [dMeth, dMakeK, pl_lint, pl_tint, eqv_lint, eqv_tint, decide_true, decide_false, dForJ, djT, djItems, djEnum, djZip, seqJ, dLCG, dLCG2, gMul, gMin1, gMax1, dEnum, dLC, dLCM, dYes, wipeD, dFld, fldOf, dSetF, putD, dMake, dMakeM, mkQ, mkQM, dProp, isOf, gIsC, gIn, gIn2, dDct, gSorted, asI, gRepr, dCallKw, pick, List.filterMap_cons, List.filterMap_nil, List.getElem?_nil, dSeq, dNext, dRet, dRetN, dIfS, dAsg, dgName, dgTup, dgCons, dgNil, dgSub, dPar, dAug, dDrop, dBreak, dCont, dNever, dOp, gI, gT, gPlus, gAdd, gEq, gNe, gIs, gIsNot, gIs2, gIsNot2, gIx, dV, dC, dB, dAnd, dOr, dNot, dAndV, dOrV, dNotV, dIf, dNeg, dChain, dNil, dCons, dTup, dLst, dLstM, dNoPart, dPart, dSl, dCB, dCall, gLen, gAbs, g2, gInt, gStr, gDivmod, gIsTy, gTuple, gList, gSum, gAll, gAny, dAppend, dItems, itemsOf, dRange1, dRange2, dFor, D.onB, D.tyn, D.isNon, asL, rsv, kb_di, kb_db, kb_ds, kb_dt, kb_dl, kb_ii, kb_bi, kb_ni, kb_si, kb_ti, kb_li, kb_ib, kb_bb, kb_nb, kb_sb, kb_tb, kb_lb, kb_is, kb_bs, kb_ns, kb_ss, kb_ts, kb_ls, kb_it, kb_bt, kb_nt, kb_st, kb_tt, kb_lt, startD, List.map_cons, List.map_nil, List.length_cons, List.length_nil, List.cons_append, List.nil_append, List.replicate, List.getElem?_cons_zero, List.getElem?_cons_succ, List.set_cons_zero, List.set_cons_succ, List.zip_cons_cons, List.zip_nil_right, List.foldl_cons, List.foldl_nil, Option.bind_some, Option.bind_none, um_same, um_um, Bool.false_eq_true, reduceCtorEq, false_implies, true_implies, forall_const, true_and, and_true, and_self, Bool.not_true, Bool.not_false, implies_true, decide_eq_true_eq, decide_eq_false_iff_not, Bool.not_eq_true, not_true_eq_false, not_false_eq_true, Bool.not_eq_true', Bool.not_eq_false', D.onB, sizeLine_eq, Nat.reduceAdd, Nat.reduceLeDiff, Nat.zero_add, Nat.reduceLT, pl_bl, pl_i, pl_n, eqv_bl, eqv_ii, eqv_nn, ints_inj, exists_eq_left', exists_eq_left, beq_iff_eq, beq_eq_false_iff_ne, ne_eq, true_or, or_true, false_or, or_false, false_and, and_false, if_true, if_false, List.lookup_cons, beq_self_eq_true, b1_law_cell]
      exact ⟨mul_r ⟨by decide, by decide⟩, mul_r ⟨by decide, by decide⟩, by decide, hP _ _ ⟨rfl, _, _, rfl⟩⟩
    · rintro ρ M' ⟨rfl, m, z, rfl⟩
      simp (config := { decide := false }) only [dMeth, dMakeK, pl_lint, pl_tint, eqv_lint, eqv_tint, decide_true, decide_false, dForJ, djT, djItems, djEnum, djZip, seqJ, dLCG, dLCG2, gMul, gMin1, gMax1, dEnum, dLC, dLCM, dYes, wipeD, dFld, fldOf, dSetF, putD, dMake, dMakeM, mkQ, mkQM, dProp, isOf, gIsC, gIn, gIn2, dDct, gSorted, asI, gRepr, dCallKw, pick, List.filterMap_cons, List.filterMap_nil, List.getElem?_nil, dSeq, dNext, dRet, dRetN, dIfS, dAsg, dgName, dgTup, dgCons, dgNil, dgSub, dPar, dAug, dDrop, dBreak, dCont, dNever, dOp, gI, gT, gPlus, gAdd, gEq, gNe, gIs, gIsNot, gIs2, gIsNot2, gIx, dV, dC, dB, dAnd, dOr, dNot, dAndV, dOrV, dNotV, dIf, dNeg, dChain, dNil, dCons, dTup, dLst, dLstM, dNoPart, dPart, dSl, dCB, dCall, gLen, gAbs, g2, gInt, gStr, gDivmod, gIsTy, gTuple, gList, gSum, gAll, gAny, dAppend, dItems, itemsOf, dRange1, dRange2, dFor, D.onB, D.tyn, D.isNon, asL, rsv, kb_di, kb_db, kb_ds, kb_dt, kb_dl, kb_ii, kb_bi, kb_ni, kb_si, kb_ti, kb_li, kb_ib, kb_bb, kb_nb, kb_sb, kb_tb, kb_lb, kb_is, kb_bs, kb_ns, kb_ss, kb_ts, kb_ls, kb_it, kb_bt, kb_nt, kb_st, kb_tt, kb_lt, startD, List.map_cons, List.map_nil, List.length_cons, List.length_nil, List.cons_append, List.nil_append, List.replicate, List.getElem?_cons_zero, List.getElem?_cons_succ, List.set_cons_zero, List.set_cons_succ, List.zip_cons_cons, List.zip_nil_right, List.foldl_cons, List.foldl_nil, Option.bind_some, Option.bind_none, um_same, um_um, Bool.false_eq_true, reduceCtorEq, false_implies, true_implies, forall_const, true_and, and_true, and_self, Bool.not_true, Bool.not_false, implies_true, decide_eq_true_eq, decide_eq_false_iff_not, Bool.not_eq_true, not_true_eq_false, not_false_eq_true, Bool.not_eq_true', Bool.not_eq_false', D.onB, sizeLine_eq, Nat.reduceAdd, Nat.reduceLeDiff, Nat.zero_add, Nat.reduceLT, pl_bl, pl_i, pl_n, eqv_bl, eqv_ii, eqv_nn, ints_inj, exists_eq_left', exists_eq_left, beq_iff_eq, beq_eq_false_iff_ne, ne_eq, true_or, or_true, false_or, or_false, false_and, and_false, if_true, if_false, List.lookup_cons, beq_self_eq_true]
      exact Wk.of (h _)
/-- the gourd moves on, nothing else is lost -/
def Gw (g : Addr) (M M' : Mp) : Prop := Gd M' g ∧ ∀ a o, a ≠ g → M a = some o → M' a = some o
theorem Gw.tr {g : Addr} {M M1 M2 : Mp} (h : Gw g M M1) (k : Gw g M1 M2) : Gw g M M2 := ⟨k.1, fun a o n e => k.2 a o n (h.2 a o n e)⟩
theorem Gs.gw {g : Addr} {M M' : Mp} (h : Gs g M M') : Gw g M M' := ⟨h.gd, fun a o n e => by rw [h.ne n]; exact e⟩
theorem Gw.new {g q : Addr} {M M' : Mp} {o : MO} (h : Gw g M M') (n : M' q = none) : Gw g M (um M' q o) := by
  have ng : g ≠ q := fun z => by subst z; obtain ⟨_, _, _, _, _, e⟩ := h.1; rw [n] at e; cases e
  refine ⟨?_, fun a u na e => ?_⟩
  · obtain ⟨a, b, c, h1, h2, e⟩ := h.1
    exact ⟨a, b, c, h1, h2, by rw [um_ne ng]; exact e⟩
  · have := h.2 a u na e
    rw [um_ne fun z => by subst z; rw [n] at this; cases this]
    exact this
theorem Gw.set {g q : Addr} {M M' : Mp} {o : MO} (h : Gw g M M') (n : M q = none) (ng : q ≠ g) : Gw g M (um M' q o) := by
  refine ⟨?_, fun a u na e => ?_⟩
  · obtain ⟨a, b, c, h1, h2, e⟩ := h.1
    exact ⟨a, b, c, h1, h2, by rw [um_ne (Ne.symm ng)]; exact e⟩
  · rw [um_ne fun z => by subst z; rw [n] at e; cases e]
    exact h.2 a u na e
theorem Gd.ne {g q : Addr} {M : Mp} (h : Gd M g) (n : M q = none) : q ≠ g := fun z => by subst z; obtain ⟨_, _, _, _, _, e⟩ := h; rw [n] at e; cases e
theorem Gw.none {g q : Addr} {M M' : Mp} (h : Gw g M M') (n : M' q = none) : M q = none := by
  cases e : M q with
  | none => rfl
  | some o => rw [h.2 q o (h.1.ne n) e] at n; cases n
abbrev N_is_integer : List Str := ["value"]
/-- an int, no bool -/
def D.isInt : D → Bool
  | .int _ => true
  | _ => false
def sp_is_integer : DSp := fun ds M Q _ => match ds with
  | [d] => d.tyn M ≠ none ∧ Q (.bl (D.isInt d)) M
  | _ => False
theorem len_is_integer : ∀ ds M Q E, sp_is_integer ds M Q E → ds.length = 1 := fun ds M Q E h => by
  unfold sp_is_integer at h; split at h <;> first | rfl | exact h.elim
def t_is_integer (W : DW') : TDS :=
  dRet (dAndV (dCB gIsTy (dCons (dV 0) (dCons (dC (.ty "int")) (dNil)))) (dNotV (dCB gIsTy (dCons (dV 0) (dCons (dC (.ty "bool")) (dNil))))))
theorem pure_is_integer (ds : List D) (M : Mp) (Q : DK) (E : XE') (h : sp_is_integer ds M Q E) : t_is_integer (fnW E) { nx := fun _ M' => Wk (Q .non) M', rt := fun d M' => Wk (Q d) M' } (startD N_is_integer ds) M := by
  unfold sp_is_integer at h
  split at h
  · rename_i d
    obtain ⟨h0, h⟩ := h
    cases d
    case ref a =>
      simp only [D.tyn] at h0
      split at h0
      · rename_i xs e
        simp (config := { decide := false }) only [dMeth, dMakeK, pl_lint, pl_tint, eqv_lint, eqv_tint, decide_true, decide_false, dForJ, djT, djItems, djEnum, djZip, seqJ, dLCG, dLCG2, gMul, gMin1, gMax1, dEnum, dLC, dLCM, dYes, wipeD, dFld, fldOf, dSetF, putD, dMake, dMakeM, mkQ, mkQM, dProp, isOf, gIsC, gIn, gIn2, dDct, gSorted, asI, gRepr, dCallKw, pick, List.filterMap_cons, List.filterMap_nil, List.getElem?_nil, dSeq, dNext, dRet, dRetN, dIfS, dAsg, dgName, dgTup, dgCons, dgNil, dgSub, dPar, dAug, dDrop, dBreak, dCont, dNever, dOp, gI, gT, gPlus, gAdd, gEq, gNe, gIs, gIsNot, gIs2, gIsNot2, gIx, dV, dC, dB, dAnd, dOr, dNot, dAndV, dOrV, dNotV, dIf, dNeg, dChain, dNil, dCons, dTup, dLst, dLstM, dNoPart, dPart, dSl, dCB, dCall, gLen, gAbs, g2, gInt, gStr, gDivmod, gIsTy, gTuple, gList, gSum, gAll, gAny, dAppend, dItems, itemsOf, dRange1, dRange2, dFor, D.onB, D.tyn, D.isNon, asL, rsv, kb_di, kb_db, kb_ds, kb_dt, kb_dl, kb_ii, kb_bi, kb_ni, kb_si, kb_ti, kb_li, kb_ib, kb_bb, kb_nb, kb_sb, kb_tb, kb_lb, kb_is, kb_bs, kb_ns, kb_ss, kb_ts, kb_ls, kb_it, kb_bt, kb_nt, kb_st, kb_tt, kb_lt, startD, List.map_cons, List.map_nil, List.length_cons, List.length_nil, List.cons_append, List.nil_append, List.replicate, List.getElem?_cons_zero, List.getElem?_cons_succ, List.set_cons_zero, List.set_cons_succ, List.zip_cons_cons, List.zip_nil_right, List.foldl_cons, List.foldl_nil, Option.bind_some, Option.bind_none, um_same, um_um, Bool.false_eq_true, reduceCtorEq, false_implies, true_implies, forall_const, true_and, and_true, and_self, Bool.not_true, Bool.not_false, implies_true, decide_eq_true_eq, decide_eq_false_iff_not, Bool.not_eq_true, not_true_eq_false, not_false_eq_true, Bool.not_eq_true', Bool.not_eq_false', D.onB, sizeLine_eq, Nat.reduceAdd, Nat.reduceLeDiff, Nat.zero_add, Nat.reduceLT, t_is_integer, e]
        exact Wk.of h
      · exact absurd rfl h0
    all_goals first
      | exact absurd rfl h0
      | (simp (config := { decide := false }) only [dMeth, dMakeK, pl_lint, pl_tint, eqv_lint, eqv_tint, decide_true, decide_false, dForJ, djT, djItems, djEnum, djZip, seqJ, dLCG, dLCG2, gMul, gMin1, gMax1, dEnum, dLC, dLCM, dYes, wipeD, dFld, fldOf, dSetF, putD, dMake, dMakeM, mkQ, mkQM, dProp, isOf, gIsC, gIn, gIn2, dDct, gSorted, asI, gRepr, dCallKw, pick, List.filterMap_cons, List.filterMap_nil, List.getElem?_nil, dSeq, dNext, dRet, dRetN, dIfS, dAsg, dgName, dgTup, dgCons, dgNil, dgSub, dPar, dAug, dDrop, dBreak, dCont, dNever, dOp, gI, gT, gPlus, gAdd, gEq, gNe, gIs, gIsNot, gIs2, gIsNot2, gIx, dV, dC, dB, dAnd, dOr, dNot, dAndV, dOrV, dNotV, dIf, dNeg, dChain, dNil, dCons, dTup, dLst, dLstM, dNoPart, dPart, dSl, dCB, dCall, gLen, gAbs, g2, gInt, gStr, gDivmod, gIsTy, gTuple, gList, gSum, gAll, gAny, dAppend, dItems, itemsOf, dRange1, dRange2, dFor, D.onB, D.tyn, D.isNon, asL, rsv, kb_di, kb_db, kb_ds, kb_dt, kb_dl, kb_ii, kb_bi, kb_ni, kb_si, kb_ti, kb_li, kb_ib, kb_bb, kb_nb, kb_sb, kb_tb, kb_lb, kb_is, kb_bs, kb_ns, kb_ss, kb_ts, kb_ls, kb_it, kb_bt, kb_nt, kb_st, kb_tt, kb_lt, startD, List.map_cons, List.map_nil, List.length_cons, List.length_nil, List.cons_append, List.nil_append, List.replicate, List.getElem?_cons_zero, List.getElem?_cons_succ, List.set_cons_zero, List.set_cons_succ, List.zip_cons_cons, List.zip_nil_right, List.foldl_cons, List.foldl_nil, Option.bind_some, Option.bind_none, um_same, um_um, Bool.false_eq_true, reduceCtorEq, false_implies, true_implies, forall_const, true_and, and_true, and_self, Bool.not_true, Bool.not_false, implies_true, decide_eq_true_eq, decide_eq_false_iff_not, Bool.not_eq_true, not_true_eq_false, not_false_eq_true, Bool.not_eq_true', Bool.not_eq_false', D.onB, sizeLine_eq, Nat.reduceAdd, Nat.reduceLeDiff, Nat.zero_add, Nat.reduceLT, t_is_integer]; exact Wk.of h)
  · exact h.elim
abbrev N_is_within : List Str := ["value", "least", "most"]
def D.within : D → Int → Int → Bool
  | .int i, a, b => decide (a ≤ i) && decide (i ≤ b)
  | _, _, _ => false
def sp_is_within : DSp := fun ds M Q _ => match ds with
  | [d, .int a, .int b] => d.tyn M ≠ none ∧ Q (.bl (D.within d a b)) M
  | _ => False
theorem len_is_within : ∀ ds M Q E, sp_is_within ds M Q E → ds.length = 3 := fun ds M Q E h => by
  unfold sp_is_within at h; split at h <;> first | rfl | exact h.elim
def t_is_within (W : DW') : TDS :=
  dRet (dAndV (dCall sp_is_integer W (dCons (dV 0) (dNil))) (dChain (gT fun i j => decide (i ≤ j)) (gT fun i j => decide (i ≤ j)) (dV 1) (dV 0) (dV 2)))
theorem pure_is_within (ds : List D) (M : Mp) (Q : DK) (E : XE') (h : sp_is_within ds M Q E) : t_is_within (fnW E) { nx := fun _ M' => Wk (Q .non) M', rt := fun d M' => Wk (Q d) M' } (startD N_is_within ds) M := by
  unfold sp_is_within at h
  split at h
  · rename_i d a b
    obtain ⟨h0, h⟩ := h
    cases d
    case int i =>
      simp (config := { decide := false }) only [dMeth, dMakeK, pl_lint, pl_tint, eqv_lint, eqv_tint, decide_true, decide_false, dForJ, djT, djItems, djEnum, djZip, seqJ, dLCG, dLCG2, gMul, gMin1, gMax1, dEnum, dLC, dLCM, dYes, wipeD, dFld, fldOf, dSetF, putD, dMake, dMakeM, mkQ, mkQM, dProp, isOf, gIsC, gIn, gIn2, dDct, gSorted, asI, gRepr, dCallKw, pick, List.filterMap_cons, List.filterMap_nil, List.getElem?_nil, dSeq, dNext, dRet, dRetN, dIfS, dAsg, dgName, dgTup, dgCons, dgNil, dgSub, dPar, dAug, dDrop, dBreak, dCont, dNever, dOp, gI, gT, gPlus, gAdd, gEq, gNe, gIs, gIsNot, gIs2, gIsNot2, gIx, dV, dC, dB, dAnd, dOr, dNot, dAndV, dOrV, dNotV, dIf, dNeg, dChain, dNil, dCons, dTup, dLst, dLstM, dNoPart, dPart, dSl, dCB, dCall, gLen, gAbs, g2, gInt, gStr, gDivmod, gIsTy, gTuple, gList, gSum, gAll, gAny, dAppend, dItems, itemsOf, dRange1, dRange2, dFor, D.onB, D.tyn, D.isNon, asL, rsv, kb_di, kb_db, kb_ds, kb_dt, kb_dl, kb_ii, kb_bi, kb_ni, kb_si, kb_ti, kb_li, kb_ib, kb_bb, kb_nb, kb_sb, kb_tb, kb_lb, kb_is, kb_bs, kb_ns, kb_ss, kb_ts, kb_ls, kb_it, kb_bt, kb_nt, kb_st, kb_tt, kb_lt, startD, List.map_cons, List.map_nil, List.length_cons, List.length_nil, List.cons_append, List.nil_append, List.replicate, List.getElem?_cons_zero, List.getElem?_cons_succ, List.set_cons_zero, List.set_cons_succ, List.zip_cons_cons, List.zip_nil_right, List.foldl_cons, List.foldl_nil, Option.bind_some, Option.bind_none, um_same, um_um, Bool.false_eq_true, reduceCtorEq, false_implies, true_implies, forall_const, true_and, and_true, and_self, Bool.not_true, Bool.not_false, implies_true, decide_eq_true_eq, decide_eq_false_iff_not, Bool.not_eq_true, not_true_eq_false, not_false_eq_true, Bool.not_eq_true', Bool.not_eq_false', D.onB, sizeLine_eq, Nat.reduceAdd, Nat.reduceLeDiff, Nat.zero_add, Nat.reduceLT, t_is_within, sp_is_integer, D.isInt]
      refine ⟨h0, fun h1 => ?_, fun h1 => ?_⟩
      · rw [show D.within (.int i) a b = decide (i ≤ b) by simp [D.within, h1]] at h; exact Wk.of h
      · rw [show D.within (.int i) a b = false by simp [D.within, h1]] at h; exact Wk.of h
    all_goals
      simp (config := { decide := false }) only [dMeth, dMakeK, pl_lint, pl_tint, eqv_lint, eqv_tint, decide_true, decide_false, dForJ, djT, djItems, djEnum, djZip, seqJ, dLCG, dLCG2, gMul, gMin1, gMax1, dEnum, dLC, dLCM, dYes, wipeD, dFld, fldOf, dSetF, putD, dMake, dMakeM, mkQ, mkQM, dProp, isOf, gIsC, gIn, gIn2, dDct, gSorted, asI, gRepr, dCallKw, pick, List.filterMap_cons, List.filterMap_nil, List.getElem?_nil, dSeq, dNext, dRet, dRetN, dIfS, dAsg, dgName, dgTup, dgCons, dgNil, dgSub, dPar, dAug, dDrop, dBreak, dCont, dNever, dOp, gI, gT, gPlus, gAdd, gEq, gNe, gIs, gIsNot, gIs2, gIsNot2, gIx, dV, dC, dB, dAnd, dOr, dNot, dAndV, dOrV, dNotV, dIf, dNeg, dChain, dNil, dCons, dTup, dLst, dLstM, dNoPart, dPart, dSl, dCB, dCall, gLen, gAbs, g2, gInt, gStr, gDivmod, gIsTy, gTuple, gList, gSum, gAll, gAny, dAppend, dItems, itemsOf, dRange1, dRange2, dFor, D.onB, D.tyn, D.isNon, asL, rsv, kb_di, kb_db, kb_ds, kb_dt, kb_dl, kb_ii, kb_bi, kb_ni, kb_si, kb_ti, kb_li, kb_ib, kb_bb, kb_nb, kb_sb, kb_tb, kb_lb, kb_is, kb_bs, kb_ns, kb_ss, kb_ts, kb_ls, kb_it, kb_bt, kb_nt, kb_st, kb_tt, kb_lt, startD, List.map_cons, List.map_nil, List.length_cons, List.length_nil, List.cons_append, List.nil_append, List.replicate, List.getElem?_cons_zero, List.getElem?_cons_succ, List.set_cons_zero, List.set_cons_succ, List.zip_cons_cons, List.zip_nil_right, List.foldl_cons, List.foldl_nil, Option.bind_some, Option.bind_none, um_same, um_um, Bool.false_eq_true, reduceCtorEq, false_implies, true_implies, forall_const, true_and, and_true, and_self, Bool.not_true, Bool.not_false, implies_true, decide_eq_true_eq, decide_eq_false_iff_not, Bool.not_eq_true, not_true_eq_false, not_false_eq_true, Bool.not_eq_true', Bool.not_eq_false', D.onB, sizeLine_eq, Nat.reduceAdd, Nat.reduceLeDiff, Nat.zero_add, Nat.reduceLT, t_is_within, sp_is_integer, D.isInt]
      exact ⟨h0, Wk.of h⟩
  · exact h.elim
abbrev N_root_below : List Str := ["number", "low", "high", "middle"]
/-- r is the root of n, rounded down -/
def Fl (n r : Int) : Prop := 0 ≤ r ∧ r * r ≤ n ∧ n < (r + 1) * (r + 1)
theorem Fl.uniq {n r s : Int} (a : Fl n r) (b : Fl n s) : r = s := by
  obtain ⟨a0, a1, a2⟩ := a
  obtain ⟨b0, b1, b2⟩ := b
  rcases Int.lt_trichotomy r s with h | h | h
  · have := Int.mul_le_mul (show r + 1 ≤ s by omega) (show r + 1 ≤ s by omega) (by omega) (by omega)
    omega
  · exact h
  · have := Int.mul_le_mul (show s + 1 ≤ r by omega) (show s + 1 ≤ r by omega) (by omega) (by omega)
    omega
theorem Fl.le {n r : Int} (a : Fl n r) : r ≤ n := by
  obtain ⟨a0, a1, a2⟩ := a
  rcases Int.lt_or_le 0 r with h | h
  · have := Int.mul_le_mul (Int.le_refl r) (show 1 ≤ r by omega) (by omega) (by omega)
    omega
  · have : r = 0 := by omega
    subst this
    omega
theorem sz {n : Nat} (h : n ≤ 16777216) : n ≤ sizeLine := by rw [sizeLine_eq]; exact h
theorem szl {n : Nat} (h : n < 16777216) : n < sizeLine := by rw [sizeLine_eq]; exact h
def sp_root_below : DSp := fun ds M Q _ => match ds with
  | [.int n] => (0 ≤ n ∧ n < 2 ^ 60) ∧ ∀ r, Fl n r → Q (.int r) M
  | _ => False
theorem len_root_below : ∀ ds M Q E, sp_root_below ds M Q E → ds.length = 1 := fun ds M Q E h => by
  unfold sp_root_below at h; split at h <;> first | rfl | exact h.elim
def b1_root_below (W : DW') : TDS :=
  dSeq (dAsg (dOp (gI divOk fun i j => .int (i / j)) (dOp gAdd (dV 1) (dV 2)) (dC (.int 2))) (dgName 3)) <|
  dIfS (dB (dOp (gT fun i j => decide (i ≤ j)) (dOp gMul (dV 3) (dV 3)) (dV 0))) (dAsg (dV 3) (dgName 1)) (dAsg (dV 3) (dgName 2))
def c2_root_below (W : DW') : TDb :=
  dB (dOp (gT fun i j => decide (j < i)) (dOp (gI (fun _ _ => True) fun i j => .int (i - j)) (dV 2) (dV 1)) (dC (.int 1)))
def t_root_below (W : DW') : TDS :=
  dSeq (dPar [1, 2] (dCons (dC (.int 0)) (dCons (dOp gAdd (dV 0) (dC (.int 1))) (dNil)))) <|
  dSeq (dWhile (c2_root_below W) (b1_root_below W)) <|
  dRet (dV 1)
theorem pure_root_below (ds : List D) (M : Mp) (Q : DK) (E : XE') (h : sp_root_below ds M Q E) : t_root_below (fnW E) { nx := fun _ M' => Wk (Q .non) M', rt := fun d M' => Wk (Q d) M' } (startD N_root_below ds) M := by
  unfold sp_root_below at h
  split at h
  · rename_i n
    obtain ⟨⟨h0, h1⟩, h⟩ := h
    simp (config := { decide := false }) only [dMeth, dMakeK, pl_lint, pl_tint, eqv_lint, eqv_tint, decide_true, decide_false, dForJ, djT, djItems, djEnum, djZip, seqJ, dLCG, dLCG2, gMul, gMin1, gMax1, dEnum, dLC, dLCM, dYes, wipeD, dFld, fldOf, dSetF, putD, dMake, dMakeM, mkQ, mkQM, dProp, isOf, gIsC, gIn, gIn2, dDct, gSorted, asI, gRepr, dCallKw, pick, List.filterMap_cons, List.filterMap_nil, List.getElem?_nil, dSeq, dNext, dRet, dRetN, dIfS, dAsg, dgName, dgTup, dgCons, dgNil, dgSub, dPar, dAug, dDrop, dBreak, dCont, dNever, dOp, gI, gT, gPlus, gAdd, gEq, gNe, gIs, gIsNot, gIs2, gIsNot2, gIx, dV, dC, dB, dAnd, dOr, dNot, dAndV, dOrV, dNotV, dIf, dNeg, dChain, dNil, dCons, dTup, dLst, dLstM, dNoPart, dPart, dSl, dCB, dCall, gLen, gAbs, g2, gInt, gStr, gDivmod, gIsTy, gTuple, gList, gSum, gAll, gAny, dAppend, dItems, itemsOf, dRange1, dRange2, dFor, D.onB, D.tyn, D.isNon, asL, rsv, kb_di, kb_db, kb_ds, kb_dt, kb_dl, kb_ii, kb_bi, kb_ni, kb_si, kb_ti, kb_li, kb_ib, kb_bb, kb_nb, kb_sb, kb_tb, kb_lb, kb_is, kb_bs, kb_ns, kb_ss, kb_ts, kb_ls, kb_it, kb_bt, kb_nt, kb_st, kb_tt, kb_lt, startD, List.map_cons, List.map_nil, List.length_cons, List.length_nil, List.cons_append, List.nil_append, List.replicate, List.getElem?_cons_zero, List.getElem?_cons_succ, List.set_cons_zero, List.set_cons_succ, List.zip_cons_cons, List.zip_nil_right, List.foldl_cons, List.foldl_nil, Option.bind_some, Option.bind_none, um_same, um_um, Bool.false_eq_true, reduceCtorEq, false_implies, true_implies, forall_const, true_and, and_true, and_self, Bool.not_true, Bool.not_false, implies_true, decide_eq_true_eq, decide_eq_false_iff_not, Bool.not_eq_true, not_true_eq_false, not_false_eq_true, Bool.not_eq_true', Bool.not_eq_false', D.onB, sizeLine_eq, Nat.reduceAdd, Nat.reduceLeDiff, Nat.zero_add, Nat.reduceLT, t_root_below]
    refine while_byN (fun k ρ M' => M' = M ∧ ∃ lo hi x, ρ = [some (.int n), some (.int lo), some (.int hi), x] ∧ 0 ≤ lo ∧ lo * lo ≤ n ∧ n < hi * hi ∧ lo < hi ∧ hi ≤ n + 1 ∧ k = (hi - lo).toNat) _ ⟨rfl, 0, n + 1, none, rfl, by omega, by omega, ?_, by omega, by omega, rfl⟩ ?_
    · have := Int.mul_le_mul (show (1 : Int) ≤ n + 1 by omega) (show n + 1 ≤ n + 1 by omega) (by omega) (by omega)
      omega
    · rintro k ρ M' P ⟨rfl, lo, hi, x, rfl, l0, l1, l2, l3, l4, rfl⟩ hP
      simp (config := { decide := false }) only [dMeth, dMakeK, pl_lint, pl_tint, eqv_lint, eqv_tint, decide_true, decide_false, dForJ, djT, djItems, djEnum, djZip, seqJ, dLCG, dLCG2, gMul, gMin1, gMax1, dEnum, dLC, dLCM, dYes, wipeD, dFld, fldOf, dSetF, putD, dMake, dMakeM, mkQ, mkQM, dProp, isOf, gIsC, gIn, gIn2, dDct, gSorted, asI, gRepr, dCallKw, pick, List.filterMap_cons, List.filterMap_nil, List.getElem?_nil, dSeq, dNext, dRet, dRetN, dIfS, dAsg, dgName, dgTup, dgCons, dgNil, dgSub, dPar, dAug, dDrop, dBreak, dCont, dNever, dOp, gI, gT, gPlus, gAdd, gEq, gNe, gIs, gIsNot, gIs2, gIsNot2, gIx, dV, dC, dB, dAnd, dOr, dNot, dAndV, dOrV, dNotV, dIf, dNeg, dChain, dNil, dCons, dTup, dLst, dLstM, dNoPart, dPart, dSl, dCB, dCall, gLen, gAbs, g2, gInt, gStr, gDivmod, gIsTy, gTuple, gList, gSum, gAll, gAny, dAppend, dItems, itemsOf, dRange1, dRange2, dFor, D.onB, D.tyn, D.isNon, asL, rsv, kb_di, kb_db, kb_ds, kb_dt, kb_dl, kb_ii, kb_bi, kb_ni, kb_si, kb_ti, kb_li, kb_ib, kb_bb, kb_nb, kb_sb, kb_tb, kb_lb, kb_is, kb_bs, kb_ns, kb_ss, kb_ts, kb_ls, kb_it, kb_bt, kb_nt, kb_st, kb_tt, kb_lt, startD, List.map_cons, List.map_nil, List.length_cons, List.length_nil, List.cons_append, List.nil_append, List.replicate, List.getElem?_cons_zero, List.getElem?_cons_succ, List.set_cons_zero, List.set_cons_succ, List.zip_cons_cons, List.zip_nil_right, List.foldl_cons, List.foldl_nil, Option.bind_some, Option.bind_none, um_same, um_um, Bool.false_eq_true, reduceCtorEq, false_implies, true_implies, forall_const, true_and, and_true, and_self, Bool.not_true, Bool.not_false, implies_true, decide_eq_true_eq, decide_eq_false_iff_not, Bool.not_eq_true, not_true_eq_false, not_false_eq_true, Bool.not_eq_true', Bool.not_eq_false', D.onB, sizeLine_eq, Nat.reduceAdd, Nat.reduceLeDiff, Nat.zero_add, Nat.reduceLT, c2_root_below, b1_root_below]
      refine ⟨fun t => ?_, fun t => ?_⟩
      · have hm : 0 < (2 : Int) ∧ ((2 : Int) < 1073741824 ∨ (2 : Int).natAbs.log2 < 9000) := ⟨by decide, .inl (by decide)⟩
        have e : (lo + hi) / 2 * 2 ≤ lo + hi ∧ lo + hi < (lo + hi) / 2 * 2 + 2 := by omega
        generalize (lo + hi) / 2 = mid at *
        refine ⟨hm, .inl (.inl ⟨by omega, by omega⟩), fun c => Wk.of (hP _ _ _ ⟨rfl, _, _, _, rfl, by omega, c, l2, by omega, by omega, rfl⟩ (by omega)), fun c => Wk.of (hP _ _ _ ⟨rfl, _, _, _, rfl, by omega, l1, by omega, by omega, by omega, rfl⟩ (by omega))⟩
      · refine Wk.of (h lo ⟨l0, l1, ?_⟩)
        have : hi = lo + 1 := by omega
        rw [← this]; exact l2
  · exact h.elim
abbrev N_is_root : List Str := ["value", "whole"]
/-- d is a root; w its root rounded down -/
def Rt (d w : Int) : Prop := Fl d w ∧ 2 ≤ d ∧ d ≤ 1000000 ∧ w * w ≠ d
def sp_is_root : DSp := fun ds M Q E => match ds with
  | [d] => d.tyn M ≠ none ∧ (D.within d 2 1000000 = false → Q (.bl false) M) ∧ (∀ i, d = .int i → 2 ≤ i → i ≤ 1000000 → ∀ r, Fl i r → Q (.bl (!decide (r * r = i))) M)
  | _ => False
theorem len_is_root : ∀ ds M Q E, sp_is_root ds M Q E → ds.length = 1 := fun ds M Q E h => by
  unfold sp_is_root at h; split at h <;> first | rfl | exact h.elim
def t_is_root (W : DW') : TDS :=
  dSeq (dIfS (dNot (dB (dCall sp_is_within W (dCons (dV 0) (dCons (dC (.int 2)) (dCons (dC (.int 1000000)) (dNil))))))) (dRet (dC (.bl false))) (dNext)) <|
  dSeq (dAsg (dCall sp_root_below W (dCons (dV 0) (dNil))) (dgName 1)) <|
  dRet (dOp gNe (dOp gMul (dV 1) (dV 1)) (dV 0))
theorem pure_is_root (ds : List D) (M : Mp) (Q : DK) (E : XE') (h : sp_is_root ds M Q E) : t_is_root (fnW E) { nx := fun _ M' => Wk (Q .non) M', rt := fun d M' => Wk (Q d) M' } (startD N_is_root ds) M := by
  unfold sp_is_root at h
  split at h
  rotate_left
  · exact h.elim
  rename_i d
  obtain ⟨h0, h1, h2⟩ := h
  simp (config := { decide := false }) only [dMeth, dMakeK, pl_lint, pl_tint, eqv_lint, eqv_tint, decide_true, decide_false, dForJ, djT, djItems, djEnum, djZip, seqJ, dLCG, dLCG2, gMul, gMin1, gMax1, dEnum, dLC, dLCM, dYes, wipeD, dFld, fldOf, dSetF, putD, dMake, dMakeM, mkQ, mkQM, dProp, isOf, gIsC, gIn, gIn2, dDct, gSorted, asI, gRepr, dCallKw, pick, List.filterMap_cons, List.filterMap_nil, List.getElem?_nil, dSeq, dNext, dRet, dRetN, dIfS, dAsg, dgName, dgTup, dgCons, dgNil, dgSub, dPar, dAug, dDrop, dBreak, dCont, dNever, dOp, gI, gT, gPlus, gAdd, gEq, gNe, gIs, gIsNot, gIs2, gIsNot2, gIx, dV, dC, dB, dAnd, dOr, dNot, dAndV, dOrV, dNotV, dIf, dNeg, dChain, dNil, dCons, dTup, dLst, dLstM, dNoPart, dPart, dSl, dCB, dCall, gLen, gAbs, g2, gInt, gStr, gDivmod, gIsTy, gTuple, gList, gSum, gAll, gAny, dAppend, dItems, itemsOf, dRange1, dRange2, dFor, D.onB, D.tyn, D.isNon, asL, rsv, kb_di, kb_db, kb_ds, kb_dt, kb_dl, kb_ii, kb_bi, kb_ni, kb_si, kb_ti, kb_li, kb_ib, kb_bb, kb_nb, kb_sb, kb_tb, kb_lb, kb_is, kb_bs, kb_ns, kb_ss, kb_ts, kb_ls, kb_it, kb_bt, kb_nt, kb_st, kb_tt, kb_lt, startD, List.map_cons, List.map_nil, List.length_cons, List.length_nil, List.cons_append, List.nil_append, List.replicate, List.getElem?_cons_zero, List.getElem?_cons_succ, List.set_cons_zero, List.set_cons_succ, List.zip_cons_cons, List.zip_nil_right, List.foldl_cons, List.foldl_nil, Option.bind_some, Option.bind_none, um_same, um_um, Bool.false_eq_true, reduceCtorEq, false_implies, true_implies, forall_const, true_and, and_true, and_self, Bool.not_true, Bool.not_false, implies_true, decide_eq_true_eq, decide_eq_false_iff_not, Bool.not_eq_true, not_true_eq_false, not_false_eq_true, Bool.not_eq_true', Bool.not_eq_false', D.onB, sizeLine_eq, Nat.reduceAdd, Nat.reduceLeDiff, Nat.zero_add, Nat.reduceLT, pl_bl, pl_i, pl_n, eqv_bl, eqv_ii, eqv_nn, ints_inj, exists_eq_left', exists_eq_left, beq_iff_eq, beq_eq_false_iff_ne, ne_eq, true_or, or_true, false_or, or_false, false_and, and_false, if_true, if_false, List.lookup_cons, beq_self_eq_true, t_is_root, sp_is_within]
  refine ⟨h0, fun c => Wk.of (h1 c), fun c => ?_⟩
  cases d with
  | int i =>
    simp only [D.within, Bool.and_eq_true, decide_eq_true_eq] at c
    simp (config := { decide := false }) only [dMeth, dMakeK, pl_lint, pl_tint, eqv_lint, eqv_tint, decide_true, decide_false, dForJ, djT, djItems, djEnum, djZip, seqJ, dLCG, dLCG2, gMul, gMin1, gMax1, dEnum, dLC, dLCM, dYes, wipeD, dFld, fldOf, dSetF, putD, dMake, dMakeM, mkQ, mkQM, dProp, isOf, gIsC, gIn, gIn2, dDct, gSorted, asI, gRepr, dCallKw, pick, List.filterMap_cons, List.filterMap_nil, List.getElem?_nil, dSeq, dNext, dRet, dRetN, dIfS, dAsg, dgName, dgTup, dgCons, dgNil, dgSub, dPar, dAug, dDrop, dBreak, dCont, dNever, dOp, gI, gT, gPlus, gAdd, gEq, gNe, gIs, gIsNot, gIs2, gIsNot2, gIx, dV, dC, dB, dAnd, dOr, dNot, dAndV, dOrV, dNotV, dIf, dNeg, dChain, dNil, dCons, dTup, dLst, dLstM, dNoPart, dPart, dSl, dCB, dCall, gLen, gAbs, g2, gInt, gStr, gDivmod, gIsTy, gTuple, gList, gSum, gAll, gAny, dAppend, dItems, itemsOf, dRange1, dRange2, dFor, D.onB, D.tyn, D.isNon, asL, rsv, kb_di, kb_db, kb_ds, kb_dt, kb_dl, kb_ii, kb_bi, kb_ni, kb_si, kb_ti, kb_li, kb_ib, kb_bb, kb_nb, kb_sb, kb_tb, kb_lb, kb_is, kb_bs, kb_ns, kb_ss, kb_ts, kb_ls, kb_it, kb_bt, kb_nt, kb_st, kb_tt, kb_lt, startD, List.map_cons, List.map_nil, List.length_cons, List.length_nil, List.cons_append, List.nil_append, List.replicate, List.getElem?_cons_zero, List.getElem?_cons_succ, List.set_cons_zero, List.set_cons_succ, List.zip_cons_cons, List.zip_nil_right, List.foldl_cons, List.foldl_nil, Option.bind_some, Option.bind_none, um_same, um_um, Bool.false_eq_true, reduceCtorEq, false_implies, true_implies, forall_const, true_and, and_true, and_self, Bool.not_true, Bool.not_false, implies_true, decide_eq_true_eq, decide_eq_false_iff_not, Bool.not_eq_true, not_true_eq_false, not_false_eq_true, Bool.not_eq_true', Bool.not_eq_false', D.onB, sizeLine_eq, Nat.reduceAdd, Nat.reduceLeDiff, Nat.zero_add, Nat.reduceLT, pl_bl, pl_i, pl_n, eqv_bl, eqv_ii, eqv_nn, ints_inj, exists_eq_left', exists_eq_left, beq_iff_eq, beq_eq_false_iff_ne, ne_eq, true_or, or_true, false_or, or_false, false_and, and_false, if_true, if_false, List.lookup_cons, beq_self_eq_true, sp_root_below]
    refine ⟨⟨by omega, by omega⟩, fun r hr => ⟨mul_l ⟨?_, ?_⟩, Wk.of (h2 i rfl c.1 c.2 r hr)⟩⟩
    · have := hr.1; omega
    · have := hr.le; omega
  | _ => simp [D.within] at c
abbrev N_fraction_of : List Str := ["root", "whole", "m", "k", "a", "found"]
/-- the continued fraction, by the turns that are left -/
def fracGo (d w : Int) : Nat → Int → Int → Int → List Int → Option (List Int)
  | 0, _, _, a, acc => if a = 2 * w then some acc else none
  | n + 1, m, k, a, acc => if a = 2 * w then some acc else
    let m' := k * a - m
    let k' := (d - m' * m') / k
    if 0 < k ∧ 0 < k' ∧ k < 2 ^ 40 ∧ k' < 2 ^ 40 ∧ -(2 ^ 40) < m' ∧ m' < 2 ^ 40 ∧ acc.length < 10000000 then fracGo d w n m' k' ((w + m') / k') (acc ++ [(w + m') / k']) else none
/-- the continued fraction of the root d is (w, ts) -/
def CF (d w : Int) (ts : List Int) : Prop := Rt d w ∧ ∃ n, fracGo d w n 0 1 w [] = some ts
theorem log_lt {k : Int} (h : 0 < k) (h' : k < 2 ^ 40) : k.natAbs.log2 < 9000 := by
  have e : k.natAbs < 2 ^ 40 := by omega
  exact Nat.lt_of_lt_of_le ((Nat.log2_lt (by omega)).mpr e) (by decide)
def sp_fraction_of : DSp := fun ds M Q _ => match ds with
  | [.int d] => ∃ w ts, CF d w ts ∧ Q (.tup [.int w, .tup (ts.map .int)]) M
  | _ => False
theorem len_fraction_of : ∀ ds M Q E, sp_fraction_of ds M Q E → ds.length = 1 := fun ds M Q E h => by
  unfold sp_fraction_of at h; split at h <;> first | rfl | exact h.elim
def b1_fraction_of (W : DW') : TDS :=
  dSeq (dAsg (dOp (gI (fun _ _ => True) fun i j => .int (i - j)) (dOp gMul (dV 3) (dV 4)) (dV 2)) (dgName 2)) <|
  dSeq (dAsg (dOp (gI divOk fun i j => .int (i / j)) (dOp (gI (fun _ _ => True) fun i j => .int (i - j)) (dV 0) (dOp gMul (dV 2) (dV 2))) (dV 3)) (dgName 3)) <|
  dSeq (dAsg (dOp (gI divOk fun i j => .int (i / j)) (dOp gAdd (dV 1) (dV 2)) (dV 3)) (dgName 4)) <|
  dDrop (dAppend (dV 5) (dCons (dV 4) (dNil)))
def c2_fraction_of (W : DW') : TDb :=
  dB (dOp gNe (dV 4) (dOp gMul (dC (.int 2)) (dV 1)))
def t_fraction_of (W : DW') : TDS :=
  dSeq (dAsg (dCall sp_root_below W (dCons (dV 0) (dNil))) (dgName 1)) <|
  dSeq (dAsg (dTup (dCons (dC (.int 0)) (dCons (dC (.int 1)) (dCons (dV 1) (dCons (dLstM (dNil)) (dNil)))))) (dgTup (dgCons (dgName 2) (dgCons (dgName 3) (dgCons (dgName 4) (dgCons (dgName 5) (dgNil))))))) <|
  dSeq (dWhile (c2_fraction_of W) (b1_fraction_of W)) <|
  dRet (dTup (dCons (dV 1) (dCons (dCB gTuple (dCons (dV 5) (dNil))) (dNil))))
theorem pure_fraction_of (ds : List D) (M : Mp) (Q : DK) (E : XE') (h : sp_fraction_of ds M Q E) : t_fraction_of (fnW E) { nx := fun _ M' => Wk (Q .non) M', rt := fun d M' => Wk (Q d) M' } (startD N_fraction_of ds) M := by
  unfold sp_fraction_of at h
  split at h
  · rename_i d
    obtain ⟨w, ts, ⟨⟨r1, r2, r3, r4⟩, n, hn⟩, h⟩ := h
    have hw : w < 1001 ∧ 0 ≤ w := by
      refine ⟨?_, r1.1⟩
      rcases Int.lt_or_le w 1001 with q | q
      · exact q
      · have := Int.mul_le_mul (show (1001 : Int) ≤ w by omega) (show 1001 ≤ w by omega) (by omega) (by omega)
        have := r1.2.1
        omega
    simp (config := { decide := false }) only [dMeth, dMakeK, pl_lint, pl_tint, eqv_lint, eqv_tint, decide_true, decide_false, dForJ, djT, djItems, djEnum, djZip, seqJ, dLCG, dLCG2, gMul, gMin1, gMax1, dEnum, dLC, dLCM, dYes, wipeD, dFld, fldOf, dSetF, putD, dMake, dMakeM, mkQ, mkQM, dProp, isOf, gIsC, gIn, gIn2, dDct, gSorted, asI, gRepr, dCallKw, pick, List.filterMap_cons, List.filterMap_nil, List.getElem?_nil, dSeq, dNext, dRet, dRetN, dIfS, dAsg, dgName, dgTup, dgCons, dgNil, dgSub, dPar, dAug, dDrop, dBreak, dCont, dNever, dOp, gI, gT, gPlus, gAdd, gEq, gNe, gIs, gIsNot, gIs2, gIsNot2, gIx, dV, dC, dB, dAnd, dOr, dNot, dAndV, dOrV, dNotV, dIf, dNeg, dChain, dNil, dCons, dTup, dLst, dLstM, dNoPart, dPart, dSl, dCB, dCall, gLen, gAbs, g2, gInt, gStr, gDivmod, gIsTy, gTuple, gList, gSum, gAll, gAny, dAppend, dItems, itemsOf, dRange1, dRange2, dFor, D.onB, D.tyn, D.isNon, asL, rsv, kb_di, kb_db, kb_ds, kb_dt, kb_dl, kb_ii, kb_bi, kb_ni, kb_si, kb_ti, kb_li, kb_ib, kb_bb, kb_nb, kb_sb, kb_tb, kb_lb, kb_is, kb_bs, kb_ns, kb_ss, kb_ts, kb_ls, kb_it, kb_bt, kb_nt, kb_st, kb_tt, kb_lt, startD, List.map_cons, List.map_nil, List.length_cons, List.length_nil, List.cons_append, List.nil_append, List.replicate, List.getElem?_cons_zero, List.getElem?_cons_succ, List.set_cons_zero, List.set_cons_succ, List.zip_cons_cons, List.zip_nil_right, List.foldl_cons, List.foldl_nil, Option.bind_some, Option.bind_none, um_same, um_um, Bool.false_eq_true, reduceCtorEq, false_implies, true_implies, forall_const, true_and, and_true, and_self, Bool.not_true, Bool.not_false, implies_true, decide_eq_true_eq, decide_eq_false_iff_not, Bool.not_eq_true, not_true_eq_false, not_false_eq_true, Bool.not_eq_true', Bool.not_eq_false', D.onB, sizeLine_eq, Nat.reduceAdd, Nat.reduceLeDiff, Nat.zero_add, Nat.reduceLT, t_fraction_of, sp_root_below]
    refine ⟨⟨by omega, by omega⟩, fun r hr => ?_⟩
    obtain rfl := hr.uniq r1
    intro p hp
    refine while_byN (fun j ρ M' => ∃ m k a acc, ρ = [some (.int d), some (.int r), some (.int m), some (.int k), some (.int a), some (.ref p)] ∧ M' = um M p (.lst (acc.map .int)) ∧ fracGo d r j m k a acc = some ts) n ⟨0, 1, r, [], rfl, rfl, hn⟩ ?_
    rintro j ρ M' P ⟨m, k, a, acc, rfl, rfl, e⟩ hP
    simp (config := { decide := false }) only [dMeth, dMakeK, pl_lint, pl_tint, eqv_lint, eqv_tint, decide_true, decide_false, dForJ, djT, djItems, djEnum, djZip, seqJ, dLCG, dLCG2, gMul, gMin1, gMax1, dEnum, dLC, dLCM, dYes, wipeD, dFld, fldOf, dSetF, putD, dMake, dMakeM, mkQ, mkQM, dProp, isOf, gIsC, gIn, gIn2, dDct, gSorted, asI, gRepr, dCallKw, pick, List.filterMap_cons, List.filterMap_nil, List.getElem?_nil, dSeq, dNext, dRet, dRetN, dIfS, dAsg, dgName, dgTup, dgCons, dgNil, dgSub, dPar, dAug, dDrop, dBreak, dCont, dNever, dOp, gI, gT, gPlus, gAdd, gEq, gNe, gIs, gIsNot, gIs2, gIsNot2, gIx, dV, dC, dB, dAnd, dOr, dNot, dAndV, dOrV, dNotV, dIf, dNeg, dChain, dNil, dCons, dTup, dLst, dLstM, dNoPart, dPart, dSl, dCB, dCall, gLen, gAbs, g2, gInt, gStr, gDivmod, gIsTy, gTuple, gList, gSum, gAll, gAny, dAppend, dItems, itemsOf, dRange1, dRange2, dFor, D.onB, D.tyn, D.isNon, asL, rsv, kb_di, kb_db, kb_ds, kb_dt, kb_dl, kb_ii, kb_bi, kb_ni, kb_si, kb_ti, kb_li, kb_ib, kb_bb, kb_nb, kb_sb, kb_tb, kb_lb, kb_is, kb_bs, kb_ns, kb_ss, kb_ts, kb_ls, kb_it, kb_bt, kb_nt, kb_st, kb_tt, kb_lt, startD, List.map_cons, List.map_nil, List.length_cons, List.length_nil, List.cons_append, List.nil_append, List.replicate, List.getElem?_cons_zero, List.getElem?_cons_succ, List.set_cons_zero, List.set_cons_succ, List.zip_cons_cons, List.zip_nil_right, List.foldl_cons, List.foldl_nil, Option.bind_some, Option.bind_none, um_same, um_um, Bool.false_eq_true, reduceCtorEq, false_implies, true_implies, forall_const, true_and, and_true, and_self, Bool.not_true, Bool.not_false, implies_true, decide_eq_true_eq, decide_eq_false_iff_not, Bool.not_eq_true, not_true_eq_false, not_false_eq_true, Bool.not_eq_true', Bool.not_eq_false', D.onB, sizeLine_eq, Nat.reduceAdd, Nat.reduceLeDiff, Nat.zero_add, Nat.reduceLT, c2_fraction_of, b1_fraction_of]
    refine ⟨.inl (.inl ⟨by decide, by decide⟩), fun c => ?_, fun c => ?_⟩
    · cases j with
      | zero => simp only [fracGo] at e; rw [if_neg (by simpa using c)] at e; cases e
      | succ j =>
        simp only [fracGo] at e
        rw [if_neg (by simpa using c)] at e
        split at e
        · rename_i q
          obtain ⟨q1, q2, q3, q4, q5, q6, q7⟩ := q
          refine ⟨.inl (.inl ⟨by omega, by omega⟩), .inl (.inl ⟨by omega, by omega⟩), ⟨q1, .inr ?_⟩, ⟨q2, .inr ?_⟩, ⟨_, rfl⟩, (by rw [List.length_map]; omega), Wk.of (hP j _ _ ⟨_, _, _, _, rfl, by simp, e⟩ (Nat.lt_succ_self j))⟩
          · exact log_lt q1 q3
          · exact log_lt q2 q4
        · cases e
    · have c' : a = 2 * r := by simpa using c
      have e' : acc = ts := by
        cases j with
        | zero => simp only [fracGo] at e; rw [if_pos c'] at e; exact Option.some.inj e
        | succ j => simp only [fracGo] at e; rw [if_pos c'] at e; exact Option.some.inj e
      subst e'
      exact ⟨M, MLe.um hp, h⟩
  · exact h.elim
abbrev N_least_of : List Str := ["root", "whole", "period", "terms", "x", "before_x", "y", "before_y", "term"]
/-- x, y with the ones before them -/
def conv : List Int → Int × Int × Int × Int → Int × Int × Int × Int
  | [], s => s
  | t :: ts, (x, bx, y, py) => conv ts (t * x + bx, x, t * y + py, y)
def lterms (ts : List Int) : List Int := if ts.length % 2 = 0 then ts.dropLast else ts ++ ts.dropLast
/-- the least solution, from the continued fraction -/
def lsol (w : Int) (ts : List Int) : Int × Int := ((conv (lterms ts) (w, 1, 1, 0)).1, (conv (lterms ts) (w, 1, 1, 0)).2.2.1)
def sp_least_of : DSp := fun ds M Q _ => match ds with
  | [.int d] => ∃ w ts, CF d w ts ∧ ts ≠ [] ∧ (∀ t ∈ ts, 0 ≤ t ∧ t < 2 ^ 60) ∧ ts.length < 8000000 ∧ Q (.tup [.int (lsol w ts).1, .int (lsol w ts).2]) M
  | _ => False
theorem len_least_of : ∀ ds M Q E, sp_least_of ds M Q E → ds.length = 1 := fun ds M Q E h => by
  unfold sp_least_of at h; split at h <;> first | rfl | exact h.elim
def b1_least_of (W : DW') : TDS :=
  dSeq (dPar [4, 5] (dCons (dOp gAdd (dOp gMul (dV 8) (dV 4)) (dV 5)) (dCons (dV 4) (dNil)))) <|
  dPar [6, 7] (dCons (dOp gAdd (dOp gMul (dV 8) (dV 6)) (dV 7)) (dCons (dV 6) (dNil)))
def t_least_of (W : DW') : TDS :=
  dSeq (dAsg (dCall sp_fraction_of W (dCons (dV 0) (dNil))) (dgTup (dgCons (dgName 1) (dgCons (dgName 2) (dgNil))))) <|
  dSeq (dAsg (dIf (dB (dOp gEq (dOp (gI (fun _ j => 0 < j) fun i j => .int (i % j)) (dCB gLen (dCons (dV 2) (dNil))) (dC (.int 2))) (dC (.int 0)))) (dSl (dV 2) (dNoPart) (dPart (dNeg (dC (.int 1))))) (dOp gAdd (dV 2) (dSl (dV 2) (dNoPart) (dPart (dNeg (dC (.int 1))))))) (dgName 3)) <|
  dSeq (dAsg (dTup (dCons (dV 1) (dCons (dC (.int 1)) (dCons (dC (.int 1)) (dCons (dC (.int 0)) (dNil)))))) (dgTup (dgCons (dgName 4) (dgCons (dgName 5) (dgCons (dgName 6) (dgCons (dgName 7) (dgNil))))))) <|
  dSeq (dFor (dItems (dV 3)) (dgName 8) (b1_least_of W)) <|
  dRet (dTup (dCons (dV 4) (dCons (dV 6) (dNil))))
theorem pure_least_of (ds : List D) (M : Mp) (Q : DK) (E : XE') (h : sp_least_of ds M Q E) : t_least_of (fnW E) { nx := fun _ M' => Wk (Q .non) M', rt := fun d M' => Wk (Q d) M' } (startD N_least_of ds) M := by
  unfold sp_least_of at h
  split at h
  · rename_i d
    obtain ⟨w, ts, cf, hne, hb, hl, h⟩ := h
    simp (config := { decide := false }) only [dMeth, dMakeK, pl_lint, pl_tint, eqv_lint, eqv_tint, decide_true, decide_false, dForJ, djT, djItems, djEnum, djZip, seqJ, dLCG, dLCG2, gMul, gMin1, gMax1, dEnum, dLC, dLCM, dYes, wipeD, dFld, fldOf, dSetF, putD, dMake, dMakeM, mkQ, mkQM, dProp, isOf, gIsC, gIn, gIn2, dDct, gSorted, asI, gRepr, dCallKw, pick, List.filterMap_cons, List.filterMap_nil, List.getElem?_nil, dSeq, dNext, dRet, dRetN, dIfS, dAsg, dgName, dgTup, dgCons, dgNil, dgSub, dPar, dAug, dDrop, dBreak, dCont, dNever, dOp, gI, gT, gPlus, gAdd, gEq, gNe, gIs, gIsNot, gIs2, gIsNot2, gIx, dV, dC, dB, dAnd, dOr, dNot, dAndV, dOrV, dNotV, dIf, dNeg, dChain, dNil, dCons, dTup, dLst, dLstM, dNoPart, dPart, dSl, dCB, dCall, gLen, gAbs, g2, gInt, gStr, gDivmod, gIsTy, gTuple, gList, gSum, gAll, gAny, dAppend, dItems, itemsOf, dRange1, dRange2, dFor, D.onB, D.tyn, D.isNon, asL, rsv, kb_di, kb_db, kb_ds, kb_dt, kb_dl, kb_ii, kb_bi, kb_ni, kb_si, kb_ti, kb_li, kb_ib, kb_bb, kb_nb, kb_sb, kb_tb, kb_lb, kb_is, kb_bs, kb_ns, kb_ss, kb_ts, kb_ls, kb_it, kb_bt, kb_nt, kb_st, kb_tt, kb_lt, startD, List.map_cons, List.map_nil, List.length_cons, List.length_nil, List.cons_append, List.nil_append, List.replicate, List.getElem?_cons_zero, List.getElem?_cons_succ, List.set_cons_zero, List.set_cons_succ, List.zip_cons_cons, List.zip_nil_right, List.foldl_cons, List.foldl_nil, Option.bind_some, Option.bind_none, um_same, um_um, Bool.false_eq_true, reduceCtorEq, false_implies, true_implies, forall_const, true_and, and_true, and_self, Bool.not_true, Bool.not_false, implies_true, decide_eq_true_eq, decide_eq_false_iff_not, Bool.not_eq_true, not_true_eq_false, not_false_eq_true, Bool.not_eq_true', Bool.not_eq_false', D.onB, sizeLine_eq, Nat.reduceAdd, Nat.reduceLeDiff, Nat.zero_add, Nat.reduceLT, t_least_of, sp_fraction_of]
    refine ⟨w, ts, cf, by decide, ?_⟩
    have fl : ∀ (us : List Int) (t0 : D), (∀ t ∈ us, 0 ≤ t ∧ t < 2 ^ 60) → conv us (w, 1, 1, 0) = conv (lterms ts) (w, 1, 1, 0) →
        forL (dgName 8) (b1_least_of (fnW E)) { nx := dRet (dTup (dCons (dV 4) (dCons (dV 6) dNil))) { nx := fun x M' => Wk (Q D.non) M', rt := fun d M' => Wk (Q d) M' }, rt := fun d M' => Wk (Q d) M' }
          (us.map .int) [some (.int d), some (.int w), some (.tup (ts.map .int)), some t0, some (.int w), some (.int 1), some (.int 1), some (.int 0), none] M := by
      intro us t0 hu he
      refine for_by (fun i ρ M' => M' = M ∧ ∃ x bx y py z, ρ = [some (.int d), some (.int w), some (.tup (ts.map .int)), some t0, some (.int x), some (.int bx), some (.int y), some (.int py), z] ∧ conv (us.drop i) (x, bx, y, py) = conv us (w, 1, 1, 0)) ⟨rfl, w, 1, 1, 0, none, rfl, rfl⟩ ?_ ?_
      · rintro i dd ρ M' P hi ⟨rfl, x, bx, y, py, z, rfl, e⟩ hP
        rw [List.getElem?_map] at hi
        cases q : us[i]? with
        | none => rw [q] at hi; cases hi
        | some t =>
          rw [q] at hi
          cases hi
          have ht := hu t (List.mem_of_getElem? q)
          have hd : us.drop i = t :: us.drop (i + 1) := by
            obtain ⟨h1, h2⟩ := List.getElem?_eq_some_iff.mp q
            rw [List.drop_eq_getElem_cons h1, h2]
          rw [hd] at e
          simp (config := { decide := false }) only [dMeth, dMakeK, pl_lint, pl_tint, eqv_lint, eqv_tint, decide_true, decide_false, dForJ, djT, djItems, djEnum, djZip, seqJ, dLCG, dLCG2, gMul, gMin1, gMax1, dEnum, dLC, dLCM, dYes, wipeD, dFld, fldOf, dSetF, putD, dMake, dMakeM, mkQ, mkQM, dProp, isOf, gIsC, gIn, gIn2, dDct, gSorted, asI, gRepr, dCallKw, pick, List.filterMap_cons, List.filterMap_nil, List.getElem?_nil, dSeq, dNext, dRet, dRetN, dIfS, dAsg, dgName, dgTup, dgCons, dgNil, dgSub, dPar, dAug, dDrop, dBreak, dCont, dNever, dOp, gI, gT, gPlus, gAdd, gEq, gNe, gIs, gIsNot, gIs2, gIsNot2, gIx, dV, dC, dB, dAnd, dOr, dNot, dAndV, dOrV, dNotV, dIf, dNeg, dChain, dNil, dCons, dTup, dLst, dLstM, dNoPart, dPart, dSl, dCB, dCall, gLen, gAbs, g2, gInt, gStr, gDivmod, gIsTy, gTuple, gList, gSum, gAll, gAny, dAppend, dItems, itemsOf, dRange1, dRange2, dFor, D.onB, D.tyn, D.isNon, asL, rsv, kb_di, kb_db, kb_ds, kb_dt, kb_dl, kb_ii, kb_bi, kb_ni, kb_si, kb_ti, kb_li, kb_ib, kb_bb, kb_nb, kb_sb, kb_tb, kb_lb, kb_is, kb_bs, kb_ns, kb_ss, kb_ts, kb_ls, kb_it, kb_bt, kb_nt, kb_st, kb_tt, kb_lt, startD, List.map_cons, List.map_nil, List.length_cons, List.length_nil, List.cons_append, List.nil_append, List.replicate, List.getElem?_cons_zero, List.getElem?_cons_succ, List.set_cons_zero, List.set_cons_succ, List.zip_cons_cons, List.zip_nil_right, List.foldl_cons, List.foldl_nil, Option.bind_some, Option.bind_none, um_same, um_um, Bool.false_eq_true, reduceCtorEq, false_implies, true_implies, forall_const, true_and, and_true, and_self, Bool.not_true, Bool.not_false, implies_true, decide_eq_true_eq, decide_eq_false_iff_not, Bool.not_eq_true, not_true_eq_false, not_false_eq_true, Bool.not_eq_true', Bool.not_eq_false', D.onB, sizeLine_eq, Nat.reduceAdd, Nat.reduceLeDiff, Nat.zero_add, Nat.reduceLT, b1_least_of]
          refine ⟨.inl (.inl ⟨by omega, by omega⟩), .inl (.inl ⟨by omega, by omega⟩), Wk.of (hP _ _ ⟨rfl, _, _, _, _, _, rfl, e⟩)⟩
      · rintro ρ M' ⟨rfl, x, bx, y, py, z, rfl, e⟩
        rw [List.length_map, List.drop_length] at e
        simp (config := { decide := false }) only [dMeth, dMakeK, pl_lint, pl_tint, eqv_lint, eqv_tint, decide_true, decide_false, dForJ, djT, djItems, djEnum, djZip, seqJ, dLCG, dLCG2, gMul, gMin1, gMax1, dEnum, dLC, dLCM, dYes, wipeD, dFld, fldOf, dSetF, putD, dMake, dMakeM, mkQ, mkQM, dProp, isOf, gIsC, gIn, gIn2, dDct, gSorted, asI, gRepr, dCallKw, pick, List.filterMap_cons, List.filterMap_nil, List.getElem?_nil, dSeq, dNext, dRet, dRetN, dIfS, dAsg, dgName, dgTup, dgCons, dgNil, dgSub, dPar, dAug, dDrop, dBreak, dCont, dNever, dOp, gI, gT, gPlus, gAdd, gEq, gNe, gIs, gIsNot, gIs2, gIsNot2, gIx, dV, dC, dB, dAnd, dOr, dNot, dAndV, dOrV, dNotV, dIf, dNeg, dChain, dNil, dCons, dTup, dLst, dLstM, dNoPart, dPart, dSl, dCB, dCall, gLen, gAbs, g2, gInt, gStr, gDivmod, gIsTy, gTuple, gList, gSum, gAll, gAny, dAppend, dItems, itemsOf, dRange1, dRange2, dFor, D.onB, D.tyn, D.isNon, asL, rsv, kb_di, kb_db, kb_ds, kb_dt, kb_dl, kb_ii, kb_bi, kb_ni, kb_si, kb_ti, kb_li, kb_ib, kb_bb, kb_nb, kb_sb, kb_tb, kb_lb, kb_is, kb_bs, kb_ns, kb_ss, kb_ts, kb_ls, kb_it, kb_bt, kb_nt, kb_st, kb_tt, kb_lt, startD, List.map_cons, List.map_nil, List.length_cons, List.length_nil, List.cons_append, List.nil_append, List.replicate, List.getElem?_cons_zero, List.getElem?_cons_succ, List.set_cons_zero, List.set_cons_succ, List.zip_cons_cons, List.zip_nil_right, List.foldl_cons, List.foldl_nil, Option.bind_some, Option.bind_none, um_same, um_um, Bool.false_eq_true, reduceCtorEq, false_implies, true_implies, forall_const, true_and, and_true, and_self, Bool.not_true, Bool.not_false, implies_true, decide_eq_true_eq, decide_eq_false_iff_not, Bool.not_eq_true, not_true_eq_false, not_false_eq_true, Bool.not_eq_true', Bool.not_eq_false', D.onB, sizeLine_eq, Nat.reduceAdd, Nat.reduceLeDiff, Nat.zero_add, Nat.reduceLT]
        have e2 : (x, bx, y, py) = conv (lterms ts) (w, 1, 1, 0) := by rw [← he, ← e]; rfl
        unfold lsol at h
        rw [← e2] at h
        exact Wk.of h
    have em : (List.map D.int ts).dropLast = ts.dropLast.map D.int := by rw [List.dropLast_eq_take, List.dropLast_eq_take, List.map_take, List.length_map]
    have ln : ts.dropLast.length ≤ ts.length := by rw [List.length_dropLast]; omega
    refine ⟨fun c => ?_, fun c => ⟨?_, ?_⟩⟩
    · rw [cutL_last, em]
      refine fl ts.dropLast _ (fun t ht => hb t ((List.dropLast_sublist ts).subset ht)) ?_
      rw [List.length_map] at c
      rw [lterms, if_pos (by omega)]
    · rw [cutL_last, em, List.length_map, List.length_map]; omega
    · rw [cutL_last, em, ← List.map_append]
      refine fl (ts ++ ts.dropLast) _ (fun t ht => ?_) ?_
      · rcases List.mem_append.mp ht with q | q
        · exact hb t q
        · exact hb t ((List.dropLast_sublist ts).subset q)
      · rw [List.length_map] at c
        rw [lterms, if_neg (by omega)]
  · exact h.elim
abbrev N_law_is_int : List Str := ["_law_thing", "_law_low", "_law_high"]
def sp_law_is_int : DSp := fun ds M Q E => match ds with
  | [d, .int a, .int b] => d.tyn M ≠ none ∧ Q (.bl (D.within d a b)) M
  | _ => False
theorem len_law_is_int : ∀ ds M Q E, sp_law_is_int ds M Q E → ds.length = 3 := fun ds M Q E h => by
  unfold sp_law_is_int at h; split at h <;> first | rfl | exact h.elim
def t_law_is_int (W : DW') : TDS :=
  dRet (dAndV (dCB gIsTy (dCons (dV 0) (dCons (dC (.ty "int")) (dNil)))) (dAndV (dNotV (dCB gIsTy (dCons (dV 0) (dCons (dC (.ty "bool")) (dNil))))) (dChain (gT fun i j => decide (i ≤ j)) (gT fun i j => decide (i ≤ j)) (dV 1) (dV 0) (dV 2))))
theorem pure_law_is_int (ds : List D) (M : Mp) (Q : DK) (E : XE') (h : sp_law_is_int ds M Q E) : t_law_is_int (fnW E) { nx := fun _ M' => Wk (Q .non) M', rt := fun d M' => Wk (Q d) M' } (startD N_law_is_int ds) M := by
  unfold sp_law_is_int at h
  split at h
  rotate_left
  · exact h.elim
  rename_i d a b
  obtain ⟨h0, h⟩ := h
  cases d
  case int i =>
    simp (config := { decide := false }) only [dMeth, dMakeK, pl_lint, pl_tint, eqv_lint, eqv_tint, decide_true, decide_false, dForJ, djT, djItems, djEnum, djZip, seqJ, dLCG, dLCG2, gMul, gMin1, gMax1, dEnum, dLC, dLCM, dYes, wipeD, dFld, fldOf, dSetF, putD, dMake, dMakeM, mkQ, mkQM, dProp, isOf, gIsC, gIn, gIn2, dDct, gSorted, asI, gRepr, dCallKw, pick, List.filterMap_cons, List.filterMap_nil, List.getElem?_nil, dSeq, dNext, dRet, dRetN, dIfS, dAsg, dgName, dgTup, dgCons, dgNil, dgSub, dPar, dAug, dDrop, dBreak, dCont, dNever, dOp, gI, gT, gPlus, gAdd, gEq, gNe, gIs, gIsNot, gIs2, gIsNot2, gIx, dV, dC, dB, dAnd, dOr, dNot, dAndV, dOrV, dNotV, dIf, dNeg, dChain, dNil, dCons, dTup, dLst, dLstM, dNoPart, dPart, dSl, dCB, dCall, gLen, gAbs, g2, gInt, gStr, gDivmod, gIsTy, gTuple, gList, gSum, gAll, gAny, dAppend, dItems, itemsOf, dRange1, dRange2, dFor, D.onB, D.tyn, D.isNon, asL, rsv, kb_di, kb_db, kb_ds, kb_dt, kb_dl, kb_ii, kb_bi, kb_ni, kb_si, kb_ti, kb_li, kb_ib, kb_bb, kb_nb, kb_sb, kb_tb, kb_lb, kb_is, kb_bs, kb_ns, kb_ss, kb_ts, kb_ls, kb_it, kb_bt, kb_nt, kb_st, kb_tt, kb_lt, startD, List.map_cons, List.map_nil, List.length_cons, List.length_nil, List.cons_append, List.nil_append, List.replicate, List.getElem?_cons_zero, List.getElem?_cons_succ, List.set_cons_zero, List.set_cons_succ, List.zip_cons_cons, List.zip_nil_right, List.foldl_cons, List.foldl_nil, Option.bind_some, Option.bind_none, um_same, um_um, Bool.false_eq_true, reduceCtorEq, false_implies, true_implies, forall_const, true_and, and_true, and_self, Bool.not_true, Bool.not_false, implies_true, decide_eq_true_eq, decide_eq_false_iff_not, Bool.not_eq_true, not_true_eq_false, not_false_eq_true, Bool.not_eq_true', Bool.not_eq_false', D.onB, sizeLine_eq, Nat.reduceAdd, Nat.reduceLeDiff, Nat.zero_add, Nat.reduceLT, t_law_is_int]
    refine ⟨fun h1 => ?_, fun h1 => ?_⟩
    · rw [show D.within (.int i) a b = decide (i ≤ b) by simp [D.within, h1]] at h; exact Wk.of h
    · rw [show D.within (.int i) a b = false by simp [D.within, h1]] at h; exact Wk.of h
  case ref a =>
    simp only [D.tyn] at h0
    split at h0
    · rename_i xs e
      simp (config := { decide := false }) only [dMeth, dMakeK, pl_lint, pl_tint, eqv_lint, eqv_tint, decide_true, decide_false, dForJ, djT, djItems, djEnum, djZip, seqJ, dLCG, dLCG2, gMul, gMin1, gMax1, dEnum, dLC, dLCM, dYes, wipeD, dFld, fldOf, dSetF, putD, dMake, dMakeM, mkQ, mkQM, dProp, isOf, gIsC, gIn, gIn2, dDct, gSorted, asI, gRepr, dCallKw, pick, List.filterMap_cons, List.filterMap_nil, List.getElem?_nil, dSeq, dNext, dRet, dRetN, dIfS, dAsg, dgName, dgTup, dgCons, dgNil, dgSub, dPar, dAug, dDrop, dBreak, dCont, dNever, dOp, gI, gT, gPlus, gAdd, gEq, gNe, gIs, gIsNot, gIs2, gIsNot2, gIx, dV, dC, dB, dAnd, dOr, dNot, dAndV, dOrV, dNotV, dIf, dNeg, dChain, dNil, dCons, dTup, dLst, dLstM, dNoPart, dPart, dSl, dCB, dCall, gLen, gAbs, g2, gInt, gStr, gDivmod, gIsTy, gTuple, gList, gSum, gAll, gAny, dAppend, dItems, itemsOf, dRange1, dRange2, dFor, D.onB, D.tyn, D.isNon, asL, rsv, kb_di, kb_db, kb_ds, kb_dt, kb_dl, kb_ii, kb_bi, kb_ni, kb_si, kb_ti, kb_li, kb_ib, kb_bb, kb_nb, kb_sb, kb_tb, kb_lb, kb_is, kb_bs, kb_ns, kb_ss, kb_ts, kb_ls, kb_it, kb_bt, kb_nt, kb_st, kb_tt, kb_lt, startD, List.map_cons, List.map_nil, List.length_cons, List.length_nil, List.cons_append, List.nil_append, List.replicate, List.getElem?_cons_zero, List.getElem?_cons_succ, List.set_cons_zero, List.set_cons_succ, List.zip_cons_cons, List.zip_nil_right, List.foldl_cons, List.foldl_nil, Option.bind_some, Option.bind_none, um_same, um_um, Bool.false_eq_true, reduceCtorEq, false_implies, true_implies, forall_const, true_and, and_true, and_self, Bool.not_true, Bool.not_false, implies_true, decide_eq_true_eq, decide_eq_false_iff_not, Bool.not_eq_true, not_true_eq_false, not_false_eq_true, Bool.not_eq_true', Bool.not_eq_false', D.onB, sizeLine_eq, Nat.reduceAdd, Nat.reduceLeDiff, Nat.zero_add, Nat.reduceLT, t_law_is_int, e]
      exact Wk.of h
    · exact absurd rfl h0
  all_goals first
    | exact absurd rfl h0
    | (simp (config := { decide := false }) only [dMeth, dMakeK, pl_lint, pl_tint, eqv_lint, eqv_tint, decide_true, decide_false, dForJ, djT, djItems, djEnum, djZip, seqJ, dLCG, dLCG2, gMul, gMin1, gMax1, dEnum, dLC, dLCM, dYes, wipeD, dFld, fldOf, dSetF, putD, dMake, dMakeM, mkQ, mkQM, dProp, isOf, gIsC, gIn, gIn2, dDct, gSorted, asI, gRepr, dCallKw, pick, List.filterMap_cons, List.filterMap_nil, List.getElem?_nil, dSeq, dNext, dRet, dRetN, dIfS, dAsg, dgName, dgTup, dgCons, dgNil, dgSub, dPar, dAug, dDrop, dBreak, dCont, dNever, dOp, gI, gT, gPlus, gAdd, gEq, gNe, gIs, gIsNot, gIs2, gIsNot2, gIx, dV, dC, dB, dAnd, dOr, dNot, dAndV, dOrV, dNotV, dIf, dNeg, dChain, dNil, dCons, dTup, dLst, dLstM, dNoPart, dPart, dSl, dCB, dCall, gLen, gAbs, g2, gInt, gStr, gDivmod, gIsTy, gTuple, gList, gSum, gAll, gAny, dAppend, dItems, itemsOf, dRange1, dRange2, dFor, D.onB, D.tyn, D.isNon, asL, rsv, kb_di, kb_db, kb_ds, kb_dt, kb_dl, kb_ii, kb_bi, kb_ni, kb_si, kb_ti, kb_li, kb_ib, kb_bb, kb_nb, kb_sb, kb_tb, kb_lb, kb_is, kb_bs, kb_ns, kb_ss, kb_ts, kb_ls, kb_it, kb_bt, kb_nt, kb_st, kb_tt, kb_lt, startD, List.map_cons, List.map_nil, List.length_cons, List.length_nil, List.cons_append, List.nil_append, List.replicate, List.getElem?_cons_zero, List.getElem?_cons_succ, List.set_cons_zero, List.set_cons_succ, List.zip_cons_cons, List.zip_nil_right, List.foldl_cons, List.foldl_nil, Option.bind_some, Option.bind_none, um_same, um_um, Bool.false_eq_true, reduceCtorEq, false_implies, true_implies, forall_const, true_and, and_true, and_self, Bool.not_true, Bool.not_false, implies_true, decide_eq_true_eq, decide_eq_false_iff_not, Bool.not_eq_true, not_true_eq_false, not_false_eq_true, Bool.not_eq_true', Bool.not_eq_false', D.onB, sizeLine_eq, Nat.reduceAdd, Nat.reduceLeDiff, Nat.zero_add, Nat.reduceLT, t_law_is_int]; exact Wk.of h)
abbrev N_law_floor : List Str := ["_law_many", "_law_low", "_law_high", "_law_middle"]
def sp_law_floor : DSp := fun ds M Q E => match ds with
  | [.int n] => (0 ≤ n ∧ n < 2 ^ 60) ∧ ∀ r, Fl n r → Q (.int r) M
  | _ => False
theorem len_law_floor : ∀ ds M Q E, sp_law_floor ds M Q E → ds.length = 1 := fun ds M Q E h => by
  unfold sp_law_floor at h; split at h <;> first | rfl | exact h.elim
def b1_law_floor (W : DW') : TDS :=
  dAsg (dOp gMul (dV 2) (dC (.int 2))) (dgName 2)
def c2_law_floor (W : DW') : TDb :=
  dB (dOp (gT fun i j => decide (i ≤ j)) (dOp gMul (dV 2) (dV 2)) (dV 0))
def b3_law_floor (W : DW') : TDS :=
  dSeq (dAsg (dOp (gI divOk fun i j => .int (i / j)) (dOp gAdd (dV 1) (dV 2)) (dC (.int 2))) (dgName 3)) <|
  dAsg (dIf (dB (dOp (gT fun i j => decide (i ≤ j)) (dOp gMul (dV 3) (dV 3)) (dV 0))) (dTup (dCons (dV 3) (dCons (dV 2) (dNil)))) (dTup (dCons (dV 1) (dCons (dV 3) (dNil))))) (dgTup (dgCons (dgName 1) (dgCons (dgName 2) (dgNil))))
def c4_law_floor (W : DW') : TDb :=
  dB (dOp (gT fun i j => decide (j < i)) (dOp (gI (fun _ _ => True) fun i j => .int (i - j)) (dV 2) (dV 1)) (dC (.int 1)))
def t_law_floor (W : DW') : TDS :=
  dSeq (dAsg (dTup (dCons (dC (.int 0)) (dCons (dC (.int 1)) (dNil)))) (dgTup (dgCons (dgName 1) (dgCons (dgName 2) (dgNil))))) <|
  dSeq (dWhile (c2_law_floor W) (b1_law_floor W)) <|
  dSeq (dWhile (c4_law_floor W) (b3_law_floor W)) <|
  dRet (dV 1)
theorem pure_law_floor (ds : List D) (M : Mp) (Q : DK) (E : XE') (h : sp_law_floor ds M Q E) : t_law_floor (fnW E) { nx := fun _ M' => Wk (Q .non) M', rt := fun d M' => Wk (Q d) M' } (startD N_law_floor ds) M := by
  unfold sp_law_floor at h
  split at h
  rotate_left
  · exact h.elim
  rename_i n
  obtain ⟨⟨h0, h1⟩, h⟩ := h
  simp (config := { decide := false }) only [dMeth, dMakeK, pl_lint, pl_tint, eqv_lint, eqv_tint, decide_true, decide_false, dForJ, djT, djItems, djEnum, djZip, seqJ, dLCG, dLCG2, gMul, gMin1, gMax1, dEnum, dLC, dLCM, dYes, wipeD, dFld, fldOf, dSetF, putD, dMake, dMakeM, mkQ, mkQM, dProp, isOf, gIsC, gIn, gIn2, dDct, gSorted, asI, gRepr, dCallKw, pick, List.filterMap_cons, List.filterMap_nil, List.getElem?_nil, dSeq, dNext, dRet, dRetN, dIfS, dAsg, dgName, dgTup, dgCons, dgNil, dgSub, dPar, dAug, dDrop, dBreak, dCont, dNever, dOp, gI, gT, gPlus, gAdd, gEq, gNe, gIs, gIsNot, gIs2, gIsNot2, gIx, dV, dC, dB, dAnd, dOr, dNot, dAndV, dOrV, dNotV, dIf, dNeg, dChain, dNil, dCons, dTup, dLst, dLstM, dNoPart, dPart, dSl, dCB, dCall, gLen, gAbs, g2, gInt, gStr, gDivmod, gIsTy, gTuple, gList, gSum, gAll, gAny, dAppend, dItems, itemsOf, dRange1, dRange2, dFor, D.onB, D.tyn, D.isNon, asL, rsv, kb_di, kb_db, kb_ds, kb_dt, kb_dl, kb_ii, kb_bi, kb_ni, kb_si, kb_ti, kb_li, kb_ib, kb_bb, kb_nb, kb_sb, kb_tb, kb_lb, kb_is, kb_bs, kb_ns, kb_ss, kb_ts, kb_ls, kb_it, kb_bt, kb_nt, kb_st, kb_tt, kb_lt, startD, List.map_cons, List.map_nil, List.length_cons, List.length_nil, List.cons_append, List.nil_append, List.replicate, List.getElem?_cons_zero, List.getElem?_cons_succ, List.set_cons_zero, List.set_cons_succ, List.zip_cons_cons, List.zip_nil_right, List.foldl_cons, List.foldl_nil, Option.bind_some, Option.bind_none, um_same, um_um, Bool.false_eq_true, reduceCtorEq, false_implies, true_implies, forall_const, true_and, and_true, and_self, Bool.not_true, Bool.not_false, implies_true, decide_eq_true_eq, decide_eq_false_iff_not, Bool.not_eq_true, not_true_eq_false, not_false_eq_true, Bool.not_eq_true', Bool.not_eq_false', D.onB, sizeLine_eq, Nat.reduceAdd, Nat.reduceLeDiff, Nat.zero_add, Nat.reduceLT, t_law_floor]
  refine while_byN (fun k ρ M' => M' = M ∧ ∃ hi, ρ = [some (.int n), some (.int 0), some (.int hi), none] ∧ 1 ≤ hi ∧ hi ≤ 2 * n + 1 ∧ k = (2 * n + 1 - hi).toNat) _ ⟨rfl, 1, rfl, by omega, by omega, rfl⟩ ?_
  rintro k ρ M' P ⟨rfl, hi, rfl, l0, l1, rfl⟩ hP
  simp (config := { decide := false }) only [dMeth, dMakeK, pl_lint, pl_tint, eqv_lint, eqv_tint, decide_true, decide_false, dForJ, djT, djItems, djEnum, djZip, seqJ, dLCG, dLCG2, gMul, gMin1, gMax1, dEnum, dLC, dLCM, dYes, wipeD, dFld, fldOf, dSetF, putD, dMake, dMakeM, mkQ, mkQM, dProp, isOf, gIsC, gIn, gIn2, dDct, gSorted, asI, gRepr, dCallKw, pick, List.filterMap_cons, List.filterMap_nil, List.getElem?_nil, dSeq, dNext, dRet, dRetN, dIfS, dAsg, dgName, dgTup, dgCons, dgNil, dgSub, dPar, dAug, dDrop, dBreak, dCont, dNever, dOp, gI, gT, gPlus, gAdd, gEq, gNe, gIs, gIsNot, gIs2, gIsNot2, gIx, dV, dC, dB, dAnd, dOr, dNot, dAndV, dOrV, dNotV, dIf, dNeg, dChain, dNil, dCons, dTup, dLst, dLstM, dNoPart, dPart, dSl, dCB, dCall, gLen, gAbs, g2, gInt, gStr, gDivmod, gIsTy, gTuple, gList, gSum, gAll, gAny, dAppend, dItems, itemsOf, dRange1, dRange2, dFor, D.onB, D.tyn, D.isNon, asL, rsv, kb_di, kb_db, kb_ds, kb_dt, kb_dl, kb_ii, kb_bi, kb_ni, kb_si, kb_ti, kb_li, kb_ib, kb_bb, kb_nb, kb_sb, kb_tb, kb_lb, kb_is, kb_bs, kb_ns, kb_ss, kb_ts, kb_ls, kb_it, kb_bt, kb_nt, kb_st, kb_tt, kb_lt, startD, List.map_cons, List.map_nil, List.length_cons, List.length_nil, List.cons_append, List.nil_append, List.replicate, List.getElem?_cons_zero, List.getElem?_cons_succ, List.set_cons_zero, List.set_cons_succ, List.zip_cons_cons, List.zip_nil_right, List.foldl_cons, List.foldl_nil, Option.bind_some, Option.bind_none, um_same, um_um, Bool.false_eq_true, reduceCtorEq, false_implies, true_implies, forall_const, true_and, and_true, and_self, Bool.not_true, Bool.not_false, implies_true, decide_eq_true_eq, decide_eq_false_iff_not, Bool.not_eq_true, not_true_eq_false, not_false_eq_true, Bool.not_eq_true', Bool.not_eq_false', D.onB, sizeLine_eq, Nat.reduceAdd, Nat.reduceLeDiff, Nat.zero_add, Nat.reduceLT, c2_law_floor, b1_law_floor]
  refine ⟨mul_l ⟨by omega, by omega⟩, fun c => ⟨mul_r ⟨by decide, by decide⟩, Wk.of (hP _ _ _ ⟨rfl, _, rfl, by omega, ?_, rfl⟩ ?_)⟩, fun c => ?_⟩
  · have := Int.mul_le_mul (show (1 : Int) ≤ hi by omega) (Int.le_refl hi) (by omega) (by omega)
    omega
  · have := Int.mul_le_mul (show (1 : Int) ≤ hi by omega) (Int.le_refl hi) (by omega) (by omega)
    omega
  clear hP
  refine while_byN (fun k ρ M2 => M2 = M' ∧ ∃ lo hi x, ρ = [some (.int n), some (.int lo), some (.int hi), x] ∧ 0 ≤ lo ∧ lo * lo ≤ n ∧ n < hi * hi ∧ lo < hi ∧ hi ≤ 2 * n + 1 ∧ k = (hi - lo).toNat) _ ⟨rfl, 0, hi, none, rfl, by omega, by omega, by omega, by omega, by omega, rfl⟩ ?_
  rintro k ρ M' P ⟨rfl, lo, hi, x, rfl, l0, l1, l2, l3, l4, rfl⟩ hP
  simp (config := { decide := false }) only [dMeth, dMakeK, pl_lint, pl_tint, eqv_lint, eqv_tint, decide_true, decide_false, dForJ, djT, djItems, djEnum, djZip, seqJ, dLCG, dLCG2, gMul, gMin1, gMax1, dEnum, dLC, dLCM, dYes, wipeD, dFld, fldOf, dSetF, putD, dMake, dMakeM, mkQ, mkQM, dProp, isOf, gIsC, gIn, gIn2, dDct, gSorted, asI, gRepr, dCallKw, pick, List.filterMap_cons, List.filterMap_nil, List.getElem?_nil, dSeq, dNext, dRet, dRetN, dIfS, dAsg, dgName, dgTup, dgCons, dgNil, dgSub, dPar, dAug, dDrop, dBreak, dCont, dNever, dOp, gI, gT, gPlus, gAdd, gEq, gNe, gIs, gIsNot, gIs2, gIsNot2, gIx, dV, dC, dB, dAnd, dOr, dNot, dAndV, dOrV, dNotV, dIf, dNeg, dChain, dNil, dCons, dTup, dLst, dLstM, dNoPart, dPart, dSl, dCB, dCall, gLen, gAbs, g2, gInt, gStr, gDivmod, gIsTy, gTuple, gList, gSum, gAll, gAny, dAppend, dItems, itemsOf, dRange1, dRange2, dFor, D.onB, D.tyn, D.isNon, asL, rsv, kb_di, kb_db, kb_ds, kb_dt, kb_dl, kb_ii, kb_bi, kb_ni, kb_si, kb_ti, kb_li, kb_ib, kb_bb, kb_nb, kb_sb, kb_tb, kb_lb, kb_is, kb_bs, kb_ns, kb_ss, kb_ts, kb_ls, kb_it, kb_bt, kb_nt, kb_st, kb_tt, kb_lt, startD, List.map_cons, List.map_nil, List.length_cons, List.length_nil, List.cons_append, List.nil_append, List.replicate, List.getElem?_cons_zero, List.getElem?_cons_succ, List.set_cons_zero, List.set_cons_succ, List.zip_cons_cons, List.zip_nil_right, List.foldl_cons, List.foldl_nil, Option.bind_some, Option.bind_none, um_same, um_um, Bool.false_eq_true, reduceCtorEq, false_implies, true_implies, forall_const, true_and, and_true, and_self, Bool.not_true, Bool.not_false, implies_true, decide_eq_true_eq, decide_eq_false_iff_not, Bool.not_eq_true, not_true_eq_false, not_false_eq_true, Bool.not_eq_true', Bool.not_eq_false', D.onB, sizeLine_eq, Nat.reduceAdd, Nat.reduceLeDiff, Nat.zero_add, Nat.reduceLT, c4_law_floor, b3_law_floor]
  refine ⟨fun t => ?_, fun t => ?_⟩
  · have hm : divOk (lo + hi) 2 := ⟨by decide, .inl (by decide)⟩
    have e : (lo + hi) / 2 * 2 ≤ lo + hi ∧ lo + hi < (lo + hi) / 2 * 2 + 2 := by omega
    refine ⟨hm, ?_⟩
    generalize (lo + hi) / 2 = mid at *
    refine ⟨mul_l ⟨by omega, by omega⟩, fun c => Wk.of (hP _ _ _ ⟨rfl, _, _, _, rfl, by omega, c, l2, by omega, by omega, rfl⟩ (by omega)), fun c => Wk.of (hP _ _ _ ⟨rfl, _, _, _, rfl, by omega, l1, by omega, by omega, by omega, rfl⟩ (by omega))⟩
  · refine Wk.of (h lo ⟨l0, l1, ?_⟩)
    have : hi = lo + 1 := by omega
    rw [← this]; exact l2
abbrev N_law_is_root : List Str := ["_law_thing"]
def sp_law_is_root : DSp := fun ds M Q E => match ds with
  | [d] => d.tyn M ≠ none ∧ (D.within d 2 1000000 = false → Q (.bl false) M) ∧ (∀ i, d = .int i → 2 ≤ i → i ≤ 1000000 → ∀ r, Fl i r → Q (.bl (!decide (r * r = i))) M)
  | _ => False
theorem len_law_is_root : ∀ ds M Q E, sp_law_is_root ds M Q E → ds.length = 1 := fun ds M Q E h => by
  unfold sp_law_is_root at h; split at h <;> first | rfl | exact h.elim
def t_law_is_root (W : DW') : TDS :=
  dRet (dAndV (dCall sp_law_is_int W (dCons (dV 0) (dCons (dC (.int 2)) (dCons (dOp (gI CPow fun i j => .int (i ^ j.toNat)) (dC (.int 10)) (dC (.int 6))) (dNil))))) (dOp gNe (dOp gMul (dCall sp_law_floor W (dCons (dV 0) (dNil))) (dCall sp_law_floor W (dCons (dV 0) (dNil)))) (dV 0)))
theorem pure_law_is_root (ds : List D) (M : Mp) (Q : DK) (E : XE') (h : sp_law_is_root ds M Q E) : t_law_is_root (fnW E) { nx := fun _ M' => Wk (Q .non) M', rt := fun d M' => Wk (Q d) M' } (startD N_law_is_root ds) M := by
  unfold sp_law_is_root at h
  split at h
  rotate_left
  · exact h.elim
  rename_i d
  obtain ⟨h0, h1, h2⟩ := h
  have cp : CPow 10 6 := ⟨by decide, by decide, by decide⟩
  have e6 : (10 : Int) ^ (6 : Int).toNat = 1000000 := by decide
  simp (config := { decide := false }) only [dMeth, dMakeK, pl_lint, pl_tint, eqv_lint, eqv_tint, decide_true, decide_false, dForJ, djT, djItems, djEnum, djZip, seqJ, dLCG, dLCG2, gMul, gMin1, gMax1, dEnum, dLC, dLCM, dYes, wipeD, dFld, fldOf, dSetF, putD, dMake, dMakeM, mkQ, mkQM, dProp, isOf, gIsC, gIn, gIn2, dDct, gSorted, asI, gRepr, dCallKw, pick, List.filterMap_cons, List.filterMap_nil, List.getElem?_nil, dSeq, dNext, dRet, dRetN, dIfS, dAsg, dgName, dgTup, dgCons, dgNil, dgSub, dPar, dAug, dDrop, dBreak, dCont, dNever, dOp, gI, gT, gPlus, gAdd, gEq, gNe, gIs, gIsNot, gIs2, gIsNot2, gIx, dV, dC, dB, dAnd, dOr, dNot, dAndV, dOrV, dNotV, dIf, dNeg, dChain, dNil, dCons, dTup, dLst, dLstM, dNoPart, dPart, dSl, dCB, dCall, gLen, gAbs, g2, gInt, gStr, gDivmod, gIsTy, gTuple, gList, gSum, gAll, gAny, dAppend, dItems, itemsOf, dRange1, dRange2, dFor, D.onB, D.tyn, D.isNon, asL, rsv, kb_di, kb_db, kb_ds, kb_dt, kb_dl, kb_ii, kb_bi, kb_ni, kb_si, kb_ti, kb_li, kb_ib, kb_bb, kb_nb, kb_sb, kb_tb, kb_lb, kb_is, kb_bs, kb_ns, kb_ss, kb_ts, kb_ls, kb_it, kb_bt, kb_nt, kb_st, kb_tt, kb_lt, startD, List.map_cons, List.map_nil, List.length_cons, List.length_nil, List.cons_append, List.nil_append, List.replicate, List.getElem?_cons_zero, List.getElem?_cons_succ, List.set_cons_zero, List.set_cons_succ, List.zip_cons_cons, List.zip_nil_right, List.foldl_cons, List.foldl_nil, Option.bind_some, Option.bind_none, um_same, um_um, Bool.false_eq_true, reduceCtorEq, false_implies, true_implies, forall_const, true_and, and_true, and_self, Bool.not_true, Bool.not_false, implies_true, decide_eq_true_eq, decide_eq_false_iff_not, Bool.not_eq_true, not_true_eq_false, not_false_eq_true, Bool.not_eq_true', Bool.not_eq_false', D.onB, sizeLine_eq, Nat.reduceAdd, Nat.reduceLeDiff, Nat.zero_add, Nat.reduceLT, pl_bl, pl_i, pl_n, eqv_bl, eqv_ii, eqv_nn, ints_inj, exists_eq_left', exists_eq_left, beq_iff_eq, beq_eq_false_iff_ne, ne_eq, true_or, or_true, false_or, or_false, false_and, and_false, if_true, if_false, List.lookup_cons, beq_self_eq_true, t_law_is_root, sp_law_is_int, cp, e6]
  refine ⟨h0, ?_⟩
  cases hw : D.within d 2 1000000 with
  | false => simp (config := { decide := false }) only [dMeth, dMakeK, pl_lint, pl_tint, eqv_lint, eqv_tint, decide_true, decide_false, dForJ, djT, djItems, djEnum, djZip, seqJ, dLCG, dLCG2, gMul, gMin1, gMax1, dEnum, dLC, dLCM, dYes, wipeD, dFld, fldOf, dSetF, putD, dMake, dMakeM, mkQ, mkQM, dProp, isOf, gIsC, gIn, gIn2, dDct, gSorted, asI, gRepr, dCallKw, pick, List.filterMap_cons, List.filterMap_nil, List.getElem?_nil, dSeq, dNext, dRet, dRetN, dIfS, dAsg, dgName, dgTup, dgCons, dgNil, dgSub, dPar, dAug, dDrop, dBreak, dCont, dNever, dOp, gI, gT, gPlus, gAdd, gEq, gNe, gIs, gIsNot, gIs2, gIsNot2, gIx, dV, dC, dB, dAnd, dOr, dNot, dAndV, dOrV, dNotV, dIf, dNeg, dChain, dNil, dCons, dTup, dLst, dLstM, dNoPart, dPart, dSl, dCB, dCall, gLen, gAbs, g2, gInt, gStr, gDivmod, gIsTy, gTuple, gList, gSum, gAll, gAny, dAppend, dItems, itemsOf, dRange1, dRange2, dFor, D.onB, D.tyn, D.isNon, asL, rsv, kb_di, kb_db, kb_ds, kb_dt, kb_dl, kb_ii, kb_bi, kb_ni, kb_si, kb_ti, kb_li, kb_ib, kb_bb, kb_nb, kb_sb, kb_tb, kb_lb, kb_is, kb_bs, kb_ns, kb_ss, kb_ts, kb_ls, kb_it, kb_bt, kb_nt, kb_st, kb_tt, kb_lt, startD, List.map_cons, List.map_nil, List.length_cons, List.length_nil, List.cons_append, List.nil_append, List.replicate, List.getElem?_cons_zero, List.getElem?_cons_succ, List.set_cons_zero, List.set_cons_succ, List.zip_cons_cons, List.zip_nil_right, List.foldl_cons, List.foldl_nil, Option.bind_some, Option.bind_none, um_same, um_um, Bool.false_eq_true, reduceCtorEq, false_implies, true_implies, forall_const, true_and, and_true, and_self, Bool.not_true, Bool.not_false, implies_true, decide_eq_true_eq, decide_eq_false_iff_not, Bool.not_eq_true, not_true_eq_false, not_false_eq_true, Bool.not_eq_true', Bool.not_eq_false', D.onB, sizeLine_eq, Nat.reduceAdd, Nat.reduceLeDiff, Nat.zero_add, Nat.reduceLT, pl_bl, pl_i, pl_n, eqv_bl, eqv_ii, eqv_nn, ints_inj, exists_eq_left', exists_eq_left, beq_iff_eq, beq_eq_false_iff_ne, ne_eq, true_or, or_true, false_or, or_false, false_and, and_false, if_true, if_false, List.lookup_cons, beq_self_eq_true]; exact Wk.of (h1 hw)
  | true =>
    cases d with
    | int i =>
      simp only [D.within, Bool.and_eq_true, decide_eq_true_eq] at hw
      simp (config := { decide := false }) only [dMeth, dMakeK, pl_lint, pl_tint, eqv_lint, eqv_tint, decide_true, decide_false, dForJ, djT, djItems, djEnum, djZip, seqJ, dLCG, dLCG2, gMul, gMin1, gMax1, dEnum, dLC, dLCM, dYes, wipeD, dFld, fldOf, dSetF, putD, dMake, dMakeM, mkQ, mkQM, dProp, isOf, gIsC, gIn, gIn2, dDct, gSorted, asI, gRepr, dCallKw, pick, List.filterMap_cons, List.filterMap_nil, List.getElem?_nil, dSeq, dNext, dRet, dRetN, dIfS, dAsg, dgName, dgTup, dgCons, dgNil, dgSub, dPar, dAug, dDrop, dBreak, dCont, dNever, dOp, gI, gT, gPlus, gAdd, gEq, gNe, gIs, gIsNot, gIs2, gIsNot2, gIx, dV, dC, dB, dAnd, dOr, dNot, dAndV, dOrV, dNotV, dIf, dNeg, dChain, dNil, dCons, dTup, dLst, dLstM, dNoPart, dPart, dSl, dCB, dCall, gLen, gAbs, g2, gInt, gStr, gDivmod, gIsTy, gTuple, gList, gSum, gAll, gAny, dAppend, dItems, itemsOf, dRange1, dRange2, dFor, D.onB, D.tyn, D.isNon, asL, rsv, kb_di, kb_db, kb_ds, kb_dt, kb_dl, kb_ii, kb_bi, kb_ni, kb_si, kb_ti, kb_li, kb_ib, kb_bb, kb_nb, kb_sb, kb_tb, kb_lb, kb_is, kb_bs, kb_ns, kb_ss, kb_ts, kb_ls, kb_it, kb_bt, kb_nt, kb_st, kb_tt, kb_lt, startD, List.map_cons, List.map_nil, List.length_cons, List.length_nil, List.cons_append, List.nil_append, List.replicate, List.getElem?_cons_zero, List.getElem?_cons_succ, List.set_cons_zero, List.set_cons_succ, List.zip_cons_cons, List.zip_nil_right, List.foldl_cons, List.foldl_nil, Option.bind_some, Option.bind_none, um_same, um_um, Bool.false_eq_true, reduceCtorEq, false_implies, true_implies, forall_const, true_and, and_true, and_self, Bool.not_true, Bool.not_false, implies_true, decide_eq_true_eq, decide_eq_false_iff_not, Bool.not_eq_true, not_true_eq_false, not_false_eq_true, Bool.not_eq_true', Bool.not_eq_false', D.onB, sizeLine_eq, Nat.reduceAdd, Nat.reduceLeDiff, Nat.zero_add, Nat.reduceLT, pl_bl, pl_i, pl_n, eqv_bl, eqv_ii, eqv_nn, ints_inj, exists_eq_left', exists_eq_left, beq_iff_eq, beq_eq_false_iff_ne, ne_eq, true_or, or_true, false_or, or_false, false_and, and_false, if_true, if_false, List.lookup_cons, beq_self_eq_true, sp_law_floor]
      refine ⟨⟨by omega, by omega⟩, fun r hr => ⟨⟨by omega, by omega⟩, fun s hs => ?_⟩⟩
      obtain rfl := hr.uniq hs
      refine ⟨mul_l ⟨?_, ?_⟩, Wk.of (h2 i rfl hw.1 hw.2 r hr)⟩
      · have := hr.1; omega
      · have := hr.le; omega
    | _ => simp [D.within] at hw
abbrev N_law_terms : List Str := ["_law_d", "_law_whole", "_law_m", "_law_k", "_law_a", "_law_found"]
def sp_law_terms : DSp := fun ds M Q E => match ds with
  | [.int d] => ∃ w ts, CF d w ts ∧ Q (.tup [.int w, .tup (ts.map .int)]) M
  | _ => False
theorem len_law_terms : ∀ ds M Q E, sp_law_terms ds M Q E → ds.length = 1 := fun ds M Q E h => by
  unfold sp_law_terms at h; split at h <;> first | rfl | exact h.elim
def b1_law_terms (W : DW') : TDS :=
  dSeq (dAsg (dOp (gI (fun _ _ => True) fun i j => .int (i - j)) (dOp gMul (dV 3) (dV 4)) (dV 2)) (dgName 2)) <|
  dSeq (dAsg (dOp (gI divOk fun i j => .int (i / j)) (dOp (gI (fun _ _ => True) fun i j => .int (i - j)) (dV 0) (dOp gMul (dV 2) (dV 2))) (dV 3)) (dgName 3)) <|
  dSeq (dAsg (dOp (gI divOk fun i j => .int (i / j)) (dOp gAdd (dV 1) (dV 2)) (dV 3)) (dgName 4)) <|
  dDrop (dAppend (dV 5) (dCons (dV 4) (dNil)))
def c2_law_terms (W : DW') : TDb :=
  dB (dOp gNe (dV 4) (dOp gMul (dC (.int 2)) (dV 1)))
def t_law_terms (W : DW') : TDS :=
  dSeq (dAsg (dCall sp_law_floor W (dCons (dV 0) (dNil))) (dgName 1)) <|
  dSeq (dAsg (dTup (dCons (dC (.int 0)) (dCons (dC (.int 1)) (dCons (dV 1) (dCons (dLstM (dNil)) (dNil)))))) (dgTup (dgCons (dgName 2) (dgCons (dgName 3) (dgCons (dgName 4) (dgCons (dgName 5) (dgNil))))))) <|
  dSeq (dWhile (c2_law_terms W) (b1_law_terms W)) <|
  dRet (dTup (dCons (dV 1) (dCons (dCB gTuple (dCons (dV 5) (dNil))) (dNil))))
theorem pure_law_terms (ds : List D) (M : Mp) (Q : DK) (E : XE') (h : sp_law_terms ds M Q E) : t_law_terms (fnW E) { nx := fun _ M' => Wk (Q .non) M', rt := fun d M' => Wk (Q d) M' } (startD N_law_terms ds) M := by
  unfold sp_law_terms at h
  split at h
  rotate_left
  · exact h.elim
  rename_i d
  obtain ⟨w, ts, ⟨⟨r1, r2, r3, r4⟩, n, hn⟩, h⟩ := h
  have hw : w < 1001 ∧ 0 ≤ w := by
    refine ⟨?_, r1.1⟩
    rcases Int.lt_or_le w 1001 with q | q
    · exact q
    · have := Int.mul_le_mul (show (1001 : Int) ≤ w by omega) (show 1001 ≤ w by omega) (by omega) (by omega)
      have := r1.2.1
      omega
  simp (config := { decide := false }) only [dMeth, dMakeK, pl_lint, pl_tint, eqv_lint, eqv_tint, decide_true, decide_false, dForJ, djT, djItems, djEnum, djZip, seqJ, dLCG, dLCG2, gMul, gMin1, gMax1, dEnum, dLC, dLCM, dYes, wipeD, dFld, fldOf, dSetF, putD, dMake, dMakeM, mkQ, mkQM, dProp, isOf, gIsC, gIn, gIn2, dDct, gSorted, asI, gRepr, dCallKw, pick, List.filterMap_cons, List.filterMap_nil, List.getElem?_nil, dSeq, dNext, dRet, dRetN, dIfS, dAsg, dgName, dgTup, dgCons, dgNil, dgSub, dPar, dAug, dDrop, dBreak, dCont, dNever, dOp, gI, gT, gPlus, gAdd, gEq, gNe, gIs, gIsNot, gIs2, gIsNot2, gIx, dV, dC, dB, dAnd, dOr, dNot, dAndV, dOrV, dNotV, dIf, dNeg, dChain, dNil, dCons, dTup, dLst, dLstM, dNoPart, dPart, dSl, dCB, dCall, gLen, gAbs, g2, gInt, gStr, gDivmod, gIsTy, gTuple, gList, gSum, gAll, gAny, dAppend, dItems, itemsOf, dRange1, dRange2, dFor, D.onB, D.tyn, D.isNon, asL, rsv, kb_di, kb_db, kb_ds, kb_dt, kb_dl, kb_ii, kb_bi, kb_ni, kb_si, kb_ti, kb_li, kb_ib, kb_bb, kb_nb, kb_sb, kb_tb, kb_lb, kb_is, kb_bs, kb_ns, kb_ss, kb_ts, kb_ls, kb_it, kb_bt, kb_nt, kb_st, kb_tt, kb_lt, startD, List.map_cons, List.map_nil, List.length_cons, List.length_nil, List.cons_append, List.nil_append, List.replicate, List.getElem?_cons_zero, List.getElem?_cons_succ, List.set_cons_zero, List.set_cons_succ, List.zip_cons_cons, List.zip_nil_right, List.foldl_cons, List.foldl_nil, Option.bind_some, Option.bind_none, um_same, um_um, Bool.false_eq_true, reduceCtorEq, false_implies, true_implies, forall_const, true_and, and_true, and_self, Bool.not_true, Bool.not_false, implies_true, decide_eq_true_eq, decide_eq_false_iff_not, Bool.not_eq_true, not_true_eq_false, not_false_eq_true, Bool.not_eq_true', Bool.not_eq_false', D.onB, sizeLine_eq, Nat.reduceAdd, Nat.reduceLeDiff, Nat.zero_add, Nat.reduceLT, t_law_terms, sp_law_floor]
  refine ⟨⟨by omega, by omega⟩, fun r hr => ?_⟩
  obtain rfl := hr.uniq r1
  intro p hp
  refine while_byN (fun j ρ M' => ∃ m k a acc, ρ = [some (.int d), some (.int r), some (.int m), some (.int k), some (.int a), some (.ref p)] ∧ M' = um M p (.lst (acc.map .int)) ∧ fracGo d r j m k a acc = some ts) n ⟨0, 1, r, [], rfl, rfl, hn⟩ ?_
  rintro j ρ M' P ⟨m, k, a, acc, rfl, rfl, e⟩ hP
  simp (config := { decide := false }) only [dMeth, dMakeK, pl_lint, pl_tint, eqv_lint, eqv_tint, decide_true, decide_false, dForJ, djT, djItems, djEnum, djZip, seqJ, dLCG, dLCG2, gMul, gMin1, gMax1, dEnum, dLC, dLCM, dYes, wipeD, dFld, fldOf, dSetF, putD, dMake, dMakeM, mkQ, mkQM, dProp, isOf, gIsC, gIn, gIn2, dDct, gSorted, asI, gRepr, dCallKw, pick, List.filterMap_cons, List.filterMap_nil, List.getElem?_nil, dSeq, dNext, dRet, dRetN, dIfS, dAsg, dgName, dgTup, dgCons, dgNil, dgSub, dPar, dAug, dDrop, dBreak, dCont, dNever, dOp, gI, gT, gPlus, gAdd, gEq, gNe, gIs, gIsNot, gIs2, gIsNot2, gIx, dV, dC, dB, dAnd, dOr, dNot, dAndV, dOrV, dNotV, dIf, dNeg, dChain, dNil, dCons, dTup, dLst, dLstM, dNoPart, dPart, dSl, dCB, dCall, gLen, gAbs, g2, gInt, gStr, gDivmod, gIsTy, gTuple, gList, gSum, gAll, gAny, dAppend, dItems, itemsOf, dRange1, dRange2, dFor, D.onB, D.tyn, D.isNon, asL, rsv, kb_di, kb_db, kb_ds, kb_dt, kb_dl, kb_ii, kb_bi, kb_ni, kb_si, kb_ti, kb_li, kb_ib, kb_bb, kb_nb, kb_sb, kb_tb, kb_lb, kb_is, kb_bs, kb_ns, kb_ss, kb_ts, kb_ls, kb_it, kb_bt, kb_nt, kb_st, kb_tt, kb_lt, startD, List.map_cons, List.map_nil, List.length_cons, List.length_nil, List.cons_append, List.nil_append, List.replicate, List.getElem?_cons_zero, List.getElem?_cons_succ, List.set_cons_zero, List.set_cons_succ, List.zip_cons_cons, List.zip_nil_right, List.foldl_cons, List.foldl_nil, Option.bind_some, Option.bind_none, um_same, um_um, Bool.false_eq_true, reduceCtorEq, false_implies, true_implies, forall_const, true_and, and_true, and_self, Bool.not_true, Bool.not_false, implies_true, decide_eq_true_eq, decide_eq_false_iff_not, Bool.not_eq_true, not_true_eq_false, not_false_eq_true, Bool.not_eq_true', Bool.not_eq_false', D.onB, sizeLine_eq, Nat.reduceAdd, Nat.reduceLeDiff, Nat.zero_add, Nat.reduceLT, c2_law_terms, b1_law_terms]
  refine ⟨mul_l ⟨by decide, by decide⟩, fun c => ?_, fun c => ?_⟩
  · cases j with
    | zero => simp only [fracGo] at e; rw [if_neg (by simpa using c)] at e; cases e
    | succ j =>
      simp only [fracGo] at e
      rw [if_neg (by simpa using c)] at e
      split at e
      · rename_i q
        obtain ⟨q1, q2, q3, q4, q5, q6, q7⟩ := q
        refine ⟨mul_l ⟨by omega, by omega⟩, mul_l ⟨by omega, by omega⟩, ⟨q1, .inr ?_⟩, ⟨q2, .inr ?_⟩, ⟨_, rfl⟩, (by rw [List.length_map]; omega), Wk.of (hP j _ _ ⟨_, _, _, _, rfl, by simp, e⟩ (Nat.lt_succ_self j))⟩
        · exact log_lt q1 q3
        · exact log_lt q2 q4
      · cases e
  · have c' : a = 2 * r := by simpa using c
    have e' : acc = ts := by
      cases j with
      | zero => simp only [fracGo] at e; rw [if_pos c'] at e; exact Option.some.inj e
      | succ j => simp only [fracGo] at e; rw [if_pos c'] at e; exact Option.some.inj e
    subst e'
    exact ⟨M, MLe.um hp, h⟩
abbrev N_law_least : List Str := ["_law_d", "_law_whole", "_law_period", "_law_x", "_law_x_before", "_law_y", "_law_y_before", "_law_at", "_law_a"]
/-- the first fraction that solves, by the turns that are left -/
def leastGo (d : Int) (ts : List Int) : Nat → Int → Int → Int → Int → Nat → Option (Int × Int)
  | 0, _, _, _, _, _ => none
  | n + 1, x, bx, y, py, t =>
    if x.natAbs < 2 ^ 600 ∧ y.natAbs < 2 ^ 600 then
      if x * x - d * y * y = 1 then some (x, y) else
      match ts[t % ts.length]? with
      | some a => leastGo d ts n (a * x + bx) x (a * y + py) y (t + 1)
      | none => none
    else none
theorem log_le {x : Int} {n : Nat} (h : x.natAbs < 2 ^ n) : x.natAbs.log2 ≤ n := by
  rcases Nat.eq_zero_or_pos x.natAbs with e | e
  · rw [e]; exact Nat.zero_le _
  · exact Nat.le_of_lt ((Nat.log2_lt (by omega)).mpr h)
theorem mul_w {x y : Int} (n m : Nat) (hx : x.natAbs < 2 ^ n) (hy : y.natAbs < 2 ^ m) (h : n + m < 1000000) : mulOk x y := .inr (by
  have := log_le hx
  have := log_le hy
  unfold CMulW
  omega)
theorem pow60 {t : Int} (h : 0 ≤ t ∧ t < 2 ^ 60) : t.natAbs < 2 ^ 60 := by omega
theorem abs_mul_lt {x y : Int} {n m : Nat} (hx : x.natAbs < 2 ^ n) (hy : y.natAbs < 2 ^ m) : (x * y).natAbs < 2 ^ (n + m) := by
  rw [Int.natAbs_mul, Nat.pow_add]
  exact Nat.mul_lt_mul'' hx hy
def sp_law_least : DSp := fun ds M Q E => match ds with
  | [.int d] => ∃ w ts n x y, CF d w ts ∧ ts ≠ [] ∧ (∀ t ∈ ts, 0 ≤ t ∧ t < 2 ^ 60) ∧ ts.length < 8000000 ∧ leastGo d ts n w 1 1 0 0 = some (x, y) ∧ Q (.tup [.int x, .int y]) M
  | _ => False
theorem len_law_least : ∀ ds M Q E, sp_law_least ds M Q E → ds.length = 1 := fun ds M Q E h => by
  unfold sp_law_least at h; split at h <;> first | rfl | exact h.elim
def b1_law_least (W : DW') : TDS :=
  dSeq (dAsg (dOp gIx (dV 2) (dOp (gI (fun _ j => 0 < j) fun i j => .int (i % j)) (dCB gInt (dCons (dV 7) (dNil))) (dCB gLen (dCons (dV 2) (dNil))))) (dgName 8)) <|
  dSeq (dPar [3, 4] (dCons (dOp gAdd (dOp gMul (dV 8) (dV 3)) (dV 4)) (dCons (dV 3) (dNil)))) <|
  dSeq (dPar [5, 6] (dCons (dOp gAdd (dOp gMul (dV 8) (dV 5)) (dV 6)) (dCons (dV 5) (dNil)))) <|
  dAsg (dOp gAdd (dV 7) (dC (.int 1))) (dgName 7)
def c2_law_least (W : DW') : TDb :=
  dB (dOp gNe (dOp (gI (fun _ _ => True) fun i j => .int (i - j)) (dOp gMul (dV 3) (dV 3)) (dOp gMul (dOp gMul (dV 0) (dV 5)) (dV 5))) (dC (.int 1)))
def t_law_least (W : DW') : TDS :=
  dSeq (dAsg (dCall sp_law_terms W (dCons (dV 0) (dNil))) (dgTup (dgCons (dgName 1) (dgCons (dgName 2) (dgNil))))) <|
  dSeq (dAsg (dTup (dCons (dV 1) (dCons (dC (.int 1)) (dCons (dC (.int 1)) (dCons (dC (.int 0)) (dCons (dC (.int 0)) (dNil))))))) (dgTup (dgCons (dgName 3) (dgCons (dgName 4) (dgCons (dgName 5) (dgCons (dgName 6) (dgCons (dgName 7) (dgNil)))))))) <|
  dSeq (dWhile (c2_law_least W) (b1_law_least W)) <|
  dRet (dTup (dCons (dV 3) (dCons (dV 5) (dNil))))
theorem pure_law_least (ds : List D) (M : Mp) (Q : DK) (E : XE') (h : sp_law_least ds M Q E) : t_law_least (fnW E) { nx := fun _ M' => Wk (Q .non) M', rt := fun d M' => Wk (Q d) M' } (startD N_law_least ds) M := by
  unfold sp_law_least at h
  split at h
  rotate_left
  · exact h.elim
  rename_i d
  obtain ⟨w, ts, n, x, y, cf, hne, hb, hl, hn, h⟩ := h
  have hd := cf.1.2.1
  have hd2 := cf.1.2.2.1
  have hl0 : 0 < ts.length := List.length_pos_iff.mpr hne
  simp (config := { decide := false }) only [dMeth, dMakeK, pl_lint, pl_tint, eqv_lint, eqv_tint, decide_true, decide_false, dForJ, djT, djItems, djEnum, djZip, seqJ, dLCG, dLCG2, gMul, gMin1, gMax1, dEnum, dLC, dLCM, dYes, wipeD, dFld, fldOf, dSetF, putD, dMake, dMakeM, mkQ, mkQM, dProp, isOf, gIsC, gIn, gIn2, dDct, gSorted, asI, gRepr, dCallKw, pick, List.filterMap_cons, List.filterMap_nil, List.getElem?_nil, dSeq, dNext, dRet, dRetN, dIfS, dAsg, dgName, dgTup, dgCons, dgNil, dgSub, dPar, dAug, dDrop, dBreak, dCont, dNever, dOp, gI, gT, gPlus, gAdd, gEq, gNe, gIs, gIsNot, gIs2, gIsNot2, gIx, dV, dC, dB, dAnd, dOr, dNot, dAndV, dOrV, dNotV, dIf, dNeg, dChain, dNil, dCons, dTup, dLst, dLstM, dNoPart, dPart, dSl, dCB, dCall, gLen, gAbs, g2, gInt, gStr, gDivmod, gIsTy, gTuple, gList, gSum, gAll, gAny, dAppend, dItems, itemsOf, dRange1, dRange2, dFor, D.onB, D.tyn, D.isNon, asL, rsv, kb_di, kb_db, kb_ds, kb_dt, kb_dl, kb_ii, kb_bi, kb_ni, kb_si, kb_ti, kb_li, kb_ib, kb_bb, kb_nb, kb_sb, kb_tb, kb_lb, kb_is, kb_bs, kb_ns, kb_ss, kb_ts, kb_ls, kb_it, kb_bt, kb_nt, kb_st, kb_tt, kb_lt, startD, List.map_cons, List.map_nil, List.length_cons, List.length_nil, List.cons_append, List.nil_append, List.replicate, List.getElem?_cons_zero, List.getElem?_cons_succ, List.set_cons_zero, List.set_cons_succ, List.zip_cons_cons, List.zip_nil_right, List.foldl_cons, List.foldl_nil, Option.bind_some, Option.bind_none, um_same, um_um, Bool.false_eq_true, reduceCtorEq, false_implies, true_implies, forall_const, true_and, and_true, and_self, Bool.not_true, Bool.not_false, implies_true, decide_eq_true_eq, decide_eq_false_iff_not, Bool.not_eq_true, not_true_eq_false, not_false_eq_true, Bool.not_eq_true', Bool.not_eq_false', D.onB, sizeLine_eq, Nat.reduceAdd, Nat.reduceLeDiff, Nat.zero_add, Nat.reduceLT, pl_bl, pl_i, pl_n, eqv_bl, eqv_ii, eqv_nn, ints_inj, exists_eq_left', exists_eq_left, beq_iff_eq, beq_eq_false_iff_ne, ne_eq, true_or, or_true, false_or, or_false, false_and, and_false, if_true, if_false, List.lookup_cons, beq_self_eq_true, t_law_least, sp_law_terms]
  refine ⟨w, ts, cf, ?_⟩
  refine while_byN (fun j ρ M' => M' = M ∧ ∃ x1 bx y1 py t z, ρ = [some (.int d), some (.int w), some (.tup (ts.map .int)), some (.int x1), some (.int bx), some (.int y1), some (.int py), some (.int (t : Nat)), z] ∧ leastGo d ts j x1 bx y1 py t = some (x, y)) n ⟨rfl, w, 1, 1, 0, 0, none, rfl, hn⟩ ?_
  rintro j ρ M' P ⟨rfl, x1, bx, y1, py, t, z, rfl, e⟩ hP
  cases j with
  | zero => simp only [leastGo] at e; cases e
  | succ j =>
    simp only [leastGo] at e
    split at e
    · rename_i q
      have m1 : mulOk x1 x1 := mul_w _ _ q.1 q.1 (by decide)
      have ad : d.natAbs < 2 ^ 20 := by omega
      have m2 : mulOk d y1 := mul_w _ _ ad q.2 (by decide)
      have m3 : mulOk (d * y1) y1 := mul_w _ _ (abs_mul_lt ad q.2) q.2 (by decide)
      simp (config := { decide := false }) only [dMeth, dMakeK, pl_lint, pl_tint, eqv_lint, eqv_tint, decide_true, decide_false, dForJ, djT, djItems, djEnum, djZip, seqJ, dLCG, dLCG2, gMul, gMin1, gMax1, dEnum, dLC, dLCM, dYes, wipeD, dFld, fldOf, dSetF, putD, dMake, dMakeM, mkQ, mkQM, dProp, isOf, gIsC, gIn, gIn2, dDct, gSorted, asI, gRepr, dCallKw, pick, List.filterMap_cons, List.filterMap_nil, List.getElem?_nil, dSeq, dNext, dRet, dRetN, dIfS, dAsg, dgName, dgTup, dgCons, dgNil, dgSub, dPar, dAug, dDrop, dBreak, dCont, dNever, dOp, gI, gT, gPlus, gAdd, gEq, gNe, gIs, gIsNot, gIs2, gIsNot2, gIx, dV, dC, dB, dAnd, dOr, dNot, dAndV, dOrV, dNotV, dIf, dNeg, dChain, dNil, dCons, dTup, dLst, dLstM, dNoPart, dPart, dSl, dCB, dCall, gLen, gAbs, g2, gInt, gStr, gDivmod, gIsTy, gTuple, gList, gSum, gAll, gAny, dAppend, dItems, itemsOf, dRange1, dRange2, dFor, D.onB, D.tyn, D.isNon, asL, rsv, kb_di, kb_db, kb_ds, kb_dt, kb_dl, kb_ii, kb_bi, kb_ni, kb_si, kb_ti, kb_li, kb_ib, kb_bb, kb_nb, kb_sb, kb_tb, kb_lb, kb_is, kb_bs, kb_ns, kb_ss, kb_ts, kb_ls, kb_it, kb_bt, kb_nt, kb_st, kb_tt, kb_lt, startD, List.map_cons, List.map_nil, List.length_cons, List.length_nil, List.cons_append, List.nil_append, List.replicate, List.getElem?_cons_zero, List.getElem?_cons_succ, List.set_cons_zero, List.set_cons_succ, List.zip_cons_cons, List.zip_nil_right, List.foldl_cons, List.foldl_nil, Option.bind_some, Option.bind_none, um_same, um_um, Bool.false_eq_true, reduceCtorEq, false_implies, true_implies, forall_const, true_and, and_true, and_self, Bool.not_true, Bool.not_false, implies_true, decide_eq_true_eq, decide_eq_false_iff_not, Bool.not_eq_true, not_true_eq_false, not_false_eq_true, Bool.not_eq_true', Bool.not_eq_false', D.onB, sizeLine_eq, Nat.reduceAdd, Nat.reduceLeDiff, Nat.zero_add, Nat.reduceLT, pl_bl, pl_i, pl_n, eqv_bl, eqv_ii, eqv_nn, ints_inj, exists_eq_left', exists_eq_left, beq_iff_eq, beq_eq_false_iff_ne, ne_eq, true_or, or_true, false_or, or_false, false_and, and_false, if_true, if_false, List.lookup_cons, beq_self_eq_true, c2_law_least, b1_law_least, m1, m2, m3]
      refine ⟨fun c => ?_, fun c => ?_⟩
      · rw [if_neg c] at e
        have tl : t % ts.length < ts.length := Nat.mod_lt _ hl0
        rw [List.getElem?_eq_getElem tl] at e
        simp only [] at e
        have a1 : atI (ts.map D.int) ((t : Int) % (ts.length : Int)) = some (.int ts[t % ts.length]) := by
          rw [show (t : Int) % (ts.length : Int) = ((t % ts.length : Nat) : Int) by simp]
          exact atI_nat (by simp [tl])
        have hb1 := hb _ (List.getElem_mem tl)
        simp (config := { decide := false }) only [dMeth, dMakeK, pl_lint, pl_tint, eqv_lint, eqv_tint, decide_true, decide_false, dForJ, djT, djItems, djEnum, djZip, seqJ, dLCG, dLCG2, gMul, gMin1, gMax1, dEnum, dLC, dLCM, dYes, wipeD, dFld, fldOf, dSetF, putD, dMake, dMakeM, mkQ, mkQM, dProp, isOf, gIsC, gIn, gIn2, dDct, gSorted, asI, gRepr, dCallKw, pick, List.filterMap_cons, List.filterMap_nil, List.getElem?_nil, dSeq, dNext, dRet, dRetN, dIfS, dAsg, dgName, dgTup, dgCons, dgNil, dgSub, dPar, dAug, dDrop, dBreak, dCont, dNever, dOp, gI, gT, gPlus, gAdd, gEq, gNe, gIs, gIsNot, gIs2, gIsNot2, gIx, dV, dC, dB, dAnd, dOr, dNot, dAndV, dOrV, dNotV, dIf, dNeg, dChain, dNil, dCons, dTup, dLst, dLstM, dNoPart, dPart, dSl, dCB, dCall, gLen, gAbs, g2, gInt, gStr, gDivmod, gIsTy, gTuple, gList, gSum, gAll, gAny, dAppend, dItems, itemsOf, dRange1, dRange2, dFor, D.onB, D.tyn, D.isNon, asL, rsv, kb_di, kb_db, kb_ds, kb_dt, kb_dl, kb_ii, kb_bi, kb_ni, kb_si, kb_ti, kb_li, kb_ib, kb_bb, kb_nb, kb_sb, kb_tb, kb_lb, kb_is, kb_bs, kb_ns, kb_ss, kb_ts, kb_ls, kb_it, kb_bt, kb_nt, kb_st, kb_tt, kb_lt, startD, List.map_cons, List.map_nil, List.length_cons, List.length_nil, List.cons_append, List.nil_append, List.replicate, List.getElem?_cons_zero, List.getElem?_cons_succ, List.set_cons_zero, List.set_cons_succ, List.zip_cons_cons, List.zip_nil_right, List.foldl_cons, List.foldl_nil, Option.bind_some, Option.bind_none, um_same, um_um, Bool.false_eq_true, reduceCtorEq, false_implies, true_implies, forall_const, true_and, and_true, and_self, Bool.not_true, Bool.not_false, implies_true, decide_eq_true_eq, decide_eq_false_iff_not, Bool.not_eq_true, not_true_eq_false, not_false_eq_true, Bool.not_eq_true', Bool.not_eq_false', D.onB, sizeLine_eq, Nat.reduceAdd, Nat.reduceLeDiff, Nat.zero_add, Nat.reduceLT, pl_bl, pl_i, pl_n, eqv_bl, eqv_ii, eqv_nn, ints_inj, exists_eq_left', exists_eq_left, beq_iff_eq, beq_eq_false_iff_ne, ne_eq, true_or, or_true, false_or, or_false, false_and, and_false, if_true, if_false, List.lookup_cons, beq_self_eq_true, List.length_map, a1]
        refine ⟨by omega, mul_l ⟨by omega, by omega⟩, mul_l ⟨by omega, by omega⟩, Wk.of (hP j _ _ ⟨rfl, _, _, _, _, t + 1, _, rfl, e⟩ (Nat.lt_succ_self j))⟩
      · rw [if_pos c] at e
        cases e
        exact Wk.of h
    · cases e
abbrev N_is_same : List Str := ["value", "due", "one", "other"]
mutual
def D.solid : D → Bool
  | .ref _ => false
  | .inst _ _ _ => false
  | .cls _ => false
  | .ty _ => false
  | .tup xs => solids xs
  | _ => true
def solids : List D → Bool
  | [] => true
  | x :: xs => D.solid x && solids xs
end
mutual
/-- the same numbers, in the same tuples -/
def sameB : D → D → Bool
  | .tup xs, .tup ys => sameBs xs ys
  | .int i, .int j => decide (i = j)
  | _, _ => false
def sameBs : List D → List D → Bool
  | [], [] => true
  | x :: xs, y :: ys => sameB x y && sameBs xs ys
  | _, _ => false
end
/-- numbers, and tuples of them -/
def itree : Nat → D → Bool
  | _, .int _ => true
  | n + 1, .tup ys => decide (ys.length ≤ 16000000) && ys.all (itree n)
  | _, _ => false
theorem solids_mem : ∀ {xs : List D} {x : D}, solids xs = true → x ∈ xs → D.solid x = true
  | y :: ys, x, h, m => by
    simp only [solids, Bool.and_eq_true] at h
    rcases List.mem_cons.mp m with rfl | m
    · exact h.1
    · exact solids_mem h.2 m
theorem sameBs_len : ∀ (xs ys : List D), xs.length ≠ ys.length → sameBs xs ys = false
  | [], [], h => absurd rfl h
  | [], _ :: _, _ => by simp [sameBs]
  | _ :: _, [], _ => by simp [sameBs]
  | x :: xs, y :: ys, h => by
    simp only [sameBs]
    rw [sameBs_len xs ys (by simpa using h), Bool.and_false]
theorem sameBs_zip : ∀ (xs ys : List D), xs.length = ys.length → sameBs xs ys = ((xs.zip ys).map fun p => sameB p.1 p.2).all id
  | [], [], _ => by simp [sameBs]
  | [], _ :: _, h => by simp at h
  | _ :: _, [], h => by simp at h
  | x :: xs, y :: ys, h => by
    simp only [sameBs, List.zip_cons_cons, List.map_cons, List.all_cons, id]
    rw [sameBs_zip xs ys (by simpa using h)]
theorem bls_map {α : Type} (f : α → Bool) : ∀ L : List α, bls? (L.map fun x => D.bl (f x)) = some (L.map f)
  | [] => rfl
  | x :: L => by simp [bls?, bls_map f L]
def sp_is_same (n : Nat) : DSp := fun ds M Q _ => match ds with
  | [v, e] => D.solid v = true ∧ itree n e = true ∧ Q (.bl (sameB v e)) M
  | _ => False
def R_is_same : Nat → DSp
  | 0 => fun _ _ _ _ => False
  | n + 1 => sp_is_same n
theorem len_is_same (n : Nat) : ∀ ds M Q E, sp_is_same n ds M Q E → ds.length = 2 := fun ds M Q E h => by
  unfold sp_is_same at h; split at h <;> first | rfl | exact h.elim
def t_is_same (R : DSp) (W : DW') : TDS :=
  dSeq (dIfS (dB (dCB gIsTy (dCons (dV 1) (dCons (dC (.ty "tuple")) (dNil))))) (dSeq (dIfS (dOr (dNot (dB (dCB gIsTy (dCons (dV 0) (dCons (dC (.ty "tuple")) (dNil)))))) (dB (dOp gNe (dCB gLen (dCons (dV 0) (dNil))) (dCB gLen (dCons (dV 1) (dNil)))))) (dRet (dC (.bl false))) (dNext)) <|
  dRet (dCB gAll (dCons (dLCG [2, 3] (dgTup (dgCons (dgName 2) (dgCons (dgName 3) (dgNil)))) (djZip (dCons (dV 0) (dCons (dV 1) (dNil)))) (dYes) (dCall R noW (dCons (dV 2) (dCons (dV 3) (dNil))))) (dNil)))) (dNext)) <|
  dRet (dAndV (dCall sp_is_integer W (dCons (dV 0) (dNil))) (dOp gEq (dV 0) (dV 1)))
theorem pure_is_same (n : Nat) (ds : List D) (M : Mp) (Q : DK) (E : XE') (h : sp_is_same n ds M Q E) : t_is_same (R_is_same n) (fnW E) { nx := fun _ M' => Wk (Q .non) M', rt := fun d M' => Wk (Q d) M' } (startD N_is_same ds) M := by
  unfold sp_is_same at h
  split at h
  · rename_i v e
    obtain ⟨hv, he, h⟩ := h
    cases e with
    | int j =>
      have tv : v.tyn M ≠ none := by cases v <;> first | exact absurd hv Bool.false_ne_true | exact (fun z => by simp [D.tyn] at z)
      simp (config := { decide := false }) only [dMeth, dMakeK, pl_lint, pl_tint, eqv_lint, eqv_tint, decide_true, decide_false, dForJ, djT, djItems, djEnum, djZip, seqJ, dLCG, dLCG2, gMul, gMin1, gMax1, dEnum, dLC, dLCM, dYes, wipeD, dFld, fldOf, dSetF, putD, dMake, dMakeM, mkQ, mkQM, dProp, isOf, gIsC, gIn, gIn2, dDct, gSorted, asI, gRepr, dCallKw, pick, List.filterMap_cons, List.filterMap_nil, List.getElem?_nil, dSeq, dNext, dRet, dRetN, dIfS, dAsg, dgName, dgTup, dgCons, dgNil, dgSub, dPar, dAug, dDrop, dBreak, dCont, dNever, dOp, gI, gT, gPlus, gAdd, gEq, gNe, gIs, gIsNot, gIs2, gIsNot2, gIx, dV, dC, dB, dAnd, dOr, dNot, dAndV, dOrV, dNotV, dIf, dNeg, dChain, dNil, dCons, dTup, dLst, dLstM, dNoPart, dPart, dSl, dCB, dCall, gLen, gAbs, g2, gInt, gStr, gDivmod, gIsTy, gTuple, gList, gSum, gAll, gAny, dAppend, dItems, itemsOf, dRange1, dRange2, dFor, D.onB, D.tyn, D.isNon, asL, rsv, kb_di, kb_db, kb_ds, kb_dt, kb_dl, kb_ii, kb_bi, kb_ni, kb_si, kb_ti, kb_li, kb_ib, kb_bb, kb_nb, kb_sb, kb_tb, kb_lb, kb_is, kb_bs, kb_ns, kb_ss, kb_ts, kb_ls, kb_it, kb_bt, kb_nt, kb_st, kb_tt, kb_lt, startD, List.map_cons, List.map_nil, List.length_cons, List.length_nil, List.cons_append, List.nil_append, List.replicate, List.getElem?_cons_zero, List.getElem?_cons_succ, List.set_cons_zero, List.set_cons_succ, List.zip_cons_cons, List.zip_nil_right, List.foldl_cons, List.foldl_nil, Option.bind_some, Option.bind_none, um_same, um_um, Bool.false_eq_true, reduceCtorEq, false_implies, true_implies, forall_const, true_and, and_true, and_self, Bool.not_true, Bool.not_false, implies_true, decide_eq_true_eq, decide_eq_false_iff_not, Bool.not_eq_true, not_true_eq_false, not_false_eq_true, Bool.not_eq_true', Bool.not_eq_false', D.onB, sizeLine_eq, Nat.reduceAdd, Nat.reduceLeDiff, Nat.zero_add, Nat.reduceLT, t_is_same, sp_is_integer]
      refine ⟨tv, ?_⟩
      cases v with
      | int i => simp (config := { decide := false }) only [dMeth, dMakeK, pl_lint, pl_tint, eqv_lint, eqv_tint, decide_true, decide_false, dForJ, djT, djItems, djEnum, djZip, seqJ, dLCG, dLCG2, gMul, gMin1, gMax1, dEnum, dLC, dLCM, dYes, wipeD, dFld, fldOf, dSetF, putD, dMake, dMakeM, mkQ, mkQM, dProp, isOf, gIsC, gIn, gIn2, dDct, gSorted, asI, gRepr, dCallKw, pick, List.filterMap_cons, List.filterMap_nil, List.getElem?_nil, dSeq, dNext, dRet, dRetN, dIfS, dAsg, dgName, dgTup, dgCons, dgNil, dgSub, dPar, dAug, dDrop, dBreak, dCont, dNever, dOp, gI, gT, gPlus, gAdd, gEq, gNe, gIs, gIsNot, gIs2, gIsNot2, gIx, dV, dC, dB, dAnd, dOr, dNot, dAndV, dOrV, dNotV, dIf, dNeg, dChain, dNil, dCons, dTup, dLst, dLstM, dNoPart, dPart, dSl, dCB, dCall, gLen, gAbs, g2, gInt, gStr, gDivmod, gIsTy, gTuple, gList, gSum, gAll, gAny, dAppend, dItems, itemsOf, dRange1, dRange2, dFor, D.onB, D.tyn, D.isNon, asL, rsv, kb_di, kb_db, kb_ds, kb_dt, kb_dl, kb_ii, kb_bi, kb_ni, kb_si, kb_ti, kb_li, kb_ib, kb_bb, kb_nb, kb_sb, kb_tb, kb_lb, kb_is, kb_bs, kb_ns, kb_ss, kb_ts, kb_ls, kb_it, kb_bt, kb_nt, kb_st, kb_tt, kb_lt, startD, List.map_cons, List.map_nil, List.length_cons, List.length_nil, List.cons_append, List.nil_append, List.replicate, List.getElem?_cons_zero, List.getElem?_cons_succ, List.set_cons_zero, List.set_cons_succ, List.zip_cons_cons, List.zip_nil_right, List.foldl_cons, List.foldl_nil, Option.bind_some, Option.bind_none, um_same, um_um, Bool.false_eq_true, reduceCtorEq, false_implies, true_implies, forall_const, true_and, and_true, and_self, Bool.not_true, Bool.not_false, implies_true, decide_eq_true_eq, decide_eq_false_iff_not, Bool.not_eq_true, not_true_eq_false, not_false_eq_true, Bool.not_eq_true', Bool.not_eq_false', D.onB, sizeLine_eq, Nat.reduceAdd, Nat.reduceLeDiff, Nat.zero_add, Nat.reduceLT, pl_bl, pl_i, pl_n, eqv_bl, eqv_ii, eqv_nn, ints_inj, exists_eq_left', exists_eq_left, beq_iff_eq, beq_eq_false_iff_ne, ne_eq, true_or, or_true, false_or, or_false, false_and, and_false, if_true, if_false, List.lookup_cons, beq_self_eq_true, D.isInt]; exact Wk.of h
      | _ => simp (config := { decide := false }) only [dMeth, dMakeK, pl_lint, pl_tint, eqv_lint, eqv_tint, decide_true, decide_false, dForJ, djT, djItems, djEnum, djZip, seqJ, dLCG, dLCG2, gMul, gMin1, gMax1, dEnum, dLC, dLCM, dYes, wipeD, dFld, fldOf, dSetF, putD, dMake, dMakeM, mkQ, mkQM, dProp, isOf, gIsC, gIn, gIn2, dDct, gSorted, asI, gRepr, dCallKw, pick, List.filterMap_cons, List.filterMap_nil, List.getElem?_nil, dSeq, dNext, dRet, dRetN, dIfS, dAsg, dgName, dgTup, dgCons, dgNil, dgSub, dPar, dAug, dDrop, dBreak, dCont, dNever, dOp, gI, gT, gPlus, gAdd, gEq, gNe, gIs, gIsNot, gIs2, gIsNot2, gIx, dV, dC, dB, dAnd, dOr, dNot, dAndV, dOrV, dNotV, dIf, dNeg, dChain, dNil, dCons, dTup, dLst, dLstM, dNoPart, dPart, dSl, dCB, dCall, gLen, gAbs, g2, gInt, gStr, gDivmod, gIsTy, gTuple, gList, gSum, gAll, gAny, dAppend, dItems, itemsOf, dRange1, dRange2, dFor, D.onB, D.tyn, D.isNon, asL, rsv, kb_di, kb_db, kb_ds, kb_dt, kb_dl, kb_ii, kb_bi, kb_ni, kb_si, kb_ti, kb_li, kb_ib, kb_bb, kb_nb, kb_sb, kb_tb, kb_lb, kb_is, kb_bs, kb_ns, kb_ss, kb_ts, kb_ls, kb_it, kb_bt, kb_nt, kb_st, kb_tt, kb_lt, startD, List.map_cons, List.map_nil, List.length_cons, List.length_nil, List.cons_append, List.nil_append, List.replicate, List.getElem?_cons_zero, List.getElem?_cons_succ, List.set_cons_zero, List.set_cons_succ, List.zip_cons_cons, List.zip_nil_right, List.foldl_cons, List.foldl_nil, Option.bind_some, Option.bind_none, um_same, um_um, Bool.false_eq_true, reduceCtorEq, false_implies, true_implies, forall_const, true_and, and_true, and_self, Bool.not_true, Bool.not_false, implies_true, decide_eq_true_eq, decide_eq_false_iff_not, Bool.not_eq_true, not_true_eq_false, not_false_eq_true, Bool.not_eq_true', Bool.not_eq_false', D.onB, sizeLine_eq, Nat.reduceAdd, Nat.reduceLeDiff, Nat.zero_add, Nat.reduceLT, pl_bl, pl_i, pl_n, eqv_bl, eqv_ii, eqv_nn, ints_inj, exists_eq_left', exists_eq_left, beq_iff_eq, beq_eq_false_iff_ne, ne_eq, true_or, or_true, false_or, or_false, false_and, and_false, if_true, if_false, List.lookup_cons, beq_self_eq_true, D.isInt]; exact Wk.of h
    | tup ys =>
      cases n with
      | zero => simp [itree] at he
      | succ n =>
      simp only [itree, Bool.and_eq_true, decide_eq_true_eq] at he
      cases v with
      | tup xs =>
        simp (config := { decide := false }) only [dMeth, dMakeK, pl_lint, pl_tint, eqv_lint, eqv_tint, decide_true, decide_false, dForJ, djT, djItems, djEnum, djZip, seqJ, dLCG, dLCG2, gMul, gMin1, gMax1, dEnum, dLC, dLCM, dYes, wipeD, dFld, fldOf, dSetF, putD, dMake, dMakeM, mkQ, mkQM, dProp, isOf, gIsC, gIn, gIn2, dDct, gSorted, asI, gRepr, dCallKw, pick, List.filterMap_cons, List.filterMap_nil, List.getElem?_nil, dSeq, dNext, dRet, dRetN, dIfS, dAsg, dgName, dgTup, dgCons, dgNil, dgSub, dPar, dAug, dDrop, dBreak, dCont, dNever, dOp, gI, gT, gPlus, gAdd, gEq, gNe, gIs, gIsNot, gIs2, gIsNot2, gIx, dV, dC, dB, dAnd, dOr, dNot, dAndV, dOrV, dNotV, dIf, dNeg, dChain, dNil, dCons, dTup, dLst, dLstM, dNoPart, dPart, dSl, dCB, dCall, gLen, gAbs, g2, gInt, gStr, gDivmod, gIsTy, gTuple, gList, gSum, gAll, gAny, dAppend, dItems, itemsOf, dRange1, dRange2, dFor, D.onB, D.tyn, D.isNon, asL, rsv, kb_di, kb_db, kb_ds, kb_dt, kb_dl, kb_ii, kb_bi, kb_ni, kb_si, kb_ti, kb_li, kb_ib, kb_bb, kb_nb, kb_sb, kb_tb, kb_lb, kb_is, kb_bs, kb_ns, kb_ss, kb_ts, kb_ls, kb_it, kb_bt, kb_nt, kb_st, kb_tt, kb_lt, startD, List.map_cons, List.map_nil, List.length_cons, List.length_nil, List.cons_append, List.nil_append, List.replicate, List.getElem?_cons_zero, List.getElem?_cons_succ, List.set_cons_zero, List.set_cons_succ, List.zip_cons_cons, List.zip_nil_right, List.foldl_cons, List.foldl_nil, Option.bind_some, Option.bind_none, um_same, um_um, Bool.false_eq_true, reduceCtorEq, false_implies, true_implies, forall_const, true_and, and_true, and_self, Bool.not_true, Bool.not_false, implies_true, decide_eq_true_eq, decide_eq_false_iff_not, Bool.not_eq_true, not_true_eq_false, not_false_eq_true, Bool.not_eq_true', Bool.not_eq_false', D.onB, sizeLine_eq, Nat.reduceAdd, Nat.reduceLeDiff, Nat.zero_add, Nat.reduceLT, pl_bl, pl_i, pl_n, eqv_bl, eqv_ii, eqv_nn, ints_inj, exists_eq_left', exists_eq_left, beq_iff_eq, beq_eq_false_iff_ne, ne_eq, true_or, or_true, false_or, or_false, false_and, and_false, if_true, if_false, List.lookup_cons, beq_self_eq_true, t_is_same]
        refine ⟨fun c => ?_, fun c => ?_⟩
        · rw [show sameB (.tup xs) (.tup ys) = false from sameBs_len xs ys (by omega)] at h
          exact Wk.of h
        · have c' : xs.length = ys.length := by omega
          unfold zipD
          refine ⟨by decide, lcG_mapA (h := D.bl) (L := xs.zip ys) (fun p => sameB p.1 p.2) (by rw [List.length_zip, sizeLine_eq]; omega) (fun _ _ _ => True.intro) (fun p hp x hx zs Kk K => ?_) (fun d ρ M P P' hP h => ?_) fun p hp => ?_⟩
          · have hx1 := List.of_mem_zip (a := x.1) (b := x.2) hx
            simp (config := { decide := false }) only [dMeth, dMakeK, pl_lint, pl_tint, eqv_lint, eqv_tint, decide_true, decide_false, dForJ, djT, djItems, djEnum, djZip, seqJ, dLCG, dLCG2, gMul, gMin1, gMax1, dEnum, dLC, dLCM, dYes, wipeD, dFld, fldOf, dSetF, putD, dMake, dMakeM, mkQ, mkQM, dProp, isOf, gIsC, gIn, gIn2, dDct, gSorted, asI, gRepr, dCallKw, pick, List.filterMap_cons, List.filterMap_nil, List.getElem?_nil, dSeq, dNext, dRet, dRetN, dIfS, dAsg, dgName, dgTup, dgCons, dgNil, dgSub, dPar, dAug, dDrop, dBreak, dCont, dNever, dOp, gI, gT, gPlus, gAdd, gEq, gNe, gIs, gIsNot, gIs2, gIsNot2, gIx, dV, dC, dB, dAnd, dOr, dNot, dAndV, dOrV, dNotV, dIf, dNeg, dChain, dNil, dCons, dTup, dLst, dLstM, dNoPart, dPart, dSl, dCB, dCall, gLen, gAbs, g2, gInt, gStr, gDivmod, gIsTy, gTuple, gList, gSum, gAll, gAny, dAppend, dItems, itemsOf, dRange1, dRange2, dFor, D.onB, D.tyn, D.isNon, asL, rsv, kb_di, kb_db, kb_ds, kb_dt, kb_dl, kb_ii, kb_bi, kb_ni, kb_si, kb_ti, kb_li, kb_ib, kb_bb, kb_nb, kb_sb, kb_tb, kb_lb, kb_is, kb_bs, kb_ns, kb_ss, kb_ts, kb_ls, kb_it, kb_bt, kb_nt, kb_st, kb_tt, kb_lt, startD, List.map_cons, List.map_nil, List.length_cons, List.length_nil, List.cons_append, List.nil_append, List.replicate, List.getElem?_cons_zero, List.getElem?_cons_succ, List.set_cons_zero, List.set_cons_succ, List.zip_cons_cons, List.zip_nil_right, List.foldl_cons, List.foldl_nil, Option.bind_some, Option.bind_none, um_same, um_um, Bool.false_eq_true, reduceCtorEq, false_implies, true_implies, forall_const, true_and, and_true, and_self, Bool.not_true, Bool.not_false, implies_true, decide_eq_true_eq, decide_eq_false_iff_not, Bool.not_eq_true, not_true_eq_false, not_false_eq_true, Bool.not_eq_true', Bool.not_eq_false', D.onB, sizeLine_eq, Nat.reduceAdd, Nat.reduceLeDiff, Nat.zero_add, Nat.reduceLT, pl_bl, pl_i, pl_n, eqv_bl, eqv_ii, eqv_nn, ints_inj, exists_eq_left', exists_eq_left, beq_iff_eq, beq_eq_false_iff_ne, ne_eq, true_or, or_true, false_or, or_false, false_and, and_false, if_true, if_false, List.lookup_cons, beq_self_eq_true, R_is_same, sp_is_same]
            exact ⟨solids_mem hv hx1.1, List.all_eq_true.mp he.2 _ hx1.2, K⟩
          · cases d with
            | tup xs =>
              match xs, h with
              | [x, y], h => exact hP _ _ h
            | _ => exact h
          · simp (config := { decide := false }) only [dMeth, dMakeK, pl_lint, pl_tint, eqv_lint, eqv_tint, decide_true, decide_false, dForJ, djT, djItems, djEnum, djZip, seqJ, dLCG, dLCG2, gMul, gMin1, gMax1, dEnum, dLC, dLCM, dYes, wipeD, dFld, fldOf, dSetF, putD, dMake, dMakeM, mkQ, mkQM, dProp, isOf, gIsC, gIn, gIn2, dDct, gSorted, asI, gRepr, dCallKw, pick, List.filterMap_cons, List.filterMap_nil, List.getElem?_nil, dSeq, dNext, dRet, dRetN, dIfS, dAsg, dgName, dgTup, dgCons, dgNil, dgSub, dPar, dAug, dDrop, dBreak, dCont, dNever, dOp, gI, gT, gPlus, gAdd, gEq, gNe, gIs, gIsNot, gIs2, gIsNot2, gIx, dV, dC, dB, dAnd, dOr, dNot, dAndV, dOrV, dNotV, dIf, dNeg, dChain, dNil, dCons, dTup, dLst, dLstM, dNoPart, dPart, dSl, dCB, dCall, gLen, gAbs, g2, gInt, gStr, gDivmod, gIsTy, gTuple, gList, gSum, gAll, gAny, dAppend, dItems, itemsOf, dRange1, dRange2, dFor, D.onB, D.tyn, D.isNon, asL, rsv, kb_di, kb_db, kb_ds, kb_dt, kb_dl, kb_ii, kb_bi, kb_ni, kb_si, kb_ti, kb_li, kb_ib, kb_bb, kb_nb, kb_sb, kb_tb, kb_lb, kb_is, kb_bs, kb_ns, kb_ss, kb_ts, kb_ls, kb_it, kb_bt, kb_nt, kb_st, kb_tt, kb_lt, startD, List.map_cons, List.map_nil, List.length_cons, List.length_nil, List.cons_append, List.nil_append, List.replicate, List.getElem?_cons_zero, List.getElem?_cons_succ, List.set_cons_zero, List.set_cons_succ, List.zip_cons_cons, List.zip_nil_right, List.foldl_cons, List.foldl_nil, Option.bind_some, Option.bind_none, um_same, um_um, Bool.false_eq_true, reduceCtorEq, false_implies, true_implies, forall_const, true_and, and_true, and_self, Bool.not_true, Bool.not_false, implies_true, decide_eq_true_eq, decide_eq_false_iff_not, Bool.not_eq_true, not_true_eq_false, not_false_eq_true, Bool.not_eq_true', Bool.not_eq_false', D.onB, sizeLine_eq, Nat.reduceAdd, Nat.reduceLeDiff, Nat.zero_add, Nat.reduceLT, pl_bl, pl_i, pl_n, eqv_bl, eqv_ii, eqv_nn, ints_inj, exists_eq_left', exists_eq_left, beq_iff_eq, beq_eq_false_iff_ne, ne_eq, true_or, or_true, false_or, or_false, false_and, and_false, if_true, if_false, List.lookup_cons, beq_self_eq_true, List.map_map]
            rw [show (D.bl ∘ fun p : D × D => sameB p.1 p.2) = fun p => D.bl (sameB p.1 p.2) from rfl, bls_map]
            simp (config := { decide := false }) only [dMeth, dMakeK, pl_lint, pl_tint, eqv_lint, eqv_tint, decide_true, decide_false, dForJ, djT, djItems, djEnum, djZip, seqJ, dLCG, dLCG2, gMul, gMin1, gMax1, dEnum, dLC, dLCM, dYes, wipeD, dFld, fldOf, dSetF, putD, dMake, dMakeM, mkQ, mkQM, dProp, isOf, gIsC, gIn, gIn2, dDct, gSorted, asI, gRepr, dCallKw, pick, List.filterMap_cons, List.filterMap_nil, List.getElem?_nil, dSeq, dNext, dRet, dRetN, dIfS, dAsg, dgName, dgTup, dgCons, dgNil, dgSub, dPar, dAug, dDrop, dBreak, dCont, dNever, dOp, gI, gT, gPlus, gAdd, gEq, gNe, gIs, gIsNot, gIs2, gIsNot2, gIx, dV, dC, dB, dAnd, dOr, dNot, dAndV, dOrV, dNotV, dIf, dNeg, dChain, dNil, dCons, dTup, dLst, dLstM, dNoPart, dPart, dSl, dCB, dCall, gLen, gAbs, g2, gInt, gStr, gDivmod, gIsTy, gTuple, gList, gSum, gAll, gAny, dAppend, dItems, itemsOf, dRange1, dRange2, dFor, D.onB, D.tyn, D.isNon, asL, rsv, kb_di, kb_db, kb_ds, kb_dt, kb_dl, kb_ii, kb_bi, kb_ni, kb_si, kb_ti, kb_li, kb_ib, kb_bb, kb_nb, kb_sb, kb_tb, kb_lb, kb_is, kb_bs, kb_ns, kb_ss, kb_ts, kb_ls, kb_it, kb_bt, kb_nt, kb_st, kb_tt, kb_lt, startD, List.map_cons, List.map_nil, List.length_cons, List.length_nil, List.cons_append, List.nil_append, List.replicate, List.getElem?_cons_zero, List.getElem?_cons_succ, List.set_cons_zero, List.set_cons_succ, List.zip_cons_cons, List.zip_nil_right, List.foldl_cons, List.foldl_nil, Option.bind_some, Option.bind_none, um_same, um_um, Bool.false_eq_true, reduceCtorEq, false_implies, true_implies, forall_const, true_and, and_true, and_self, Bool.not_true, Bool.not_false, implies_true, decide_eq_true_eq, decide_eq_false_iff_not, Bool.not_eq_true, not_true_eq_false, not_false_eq_true, Bool.not_eq_true', Bool.not_eq_false', D.onB, sizeLine_eq, Nat.reduceAdd, Nat.reduceLeDiff, Nat.zero_add, Nat.reduceLT, pl_bl, pl_i, pl_n, eqv_bl, eqv_ii, eqv_nn, ints_inj, exists_eq_left', exists_eq_left, beq_iff_eq, beq_eq_false_iff_ne, ne_eq, true_or, or_true, false_or, or_false, false_and, and_false, if_true, if_false, List.lookup_cons, beq_self_eq_true, dm_um hp]
            rw [← sameBs_zip xs ys c']
            exact Wk.of h
      | _ => first
        | exact absurd hv Bool.false_ne_true
        | (simp (config := { decide := false }) only [dMeth, dMakeK, pl_lint, pl_tint, eqv_lint, eqv_tint, decide_true, decide_false, dForJ, djT, djItems, djEnum, djZip, seqJ, dLCG, dLCG2, gMul, gMin1, gMax1, dEnum, dLC, dLCM, dYes, wipeD, dFld, fldOf, dSetF, putD, dMake, dMakeM, mkQ, mkQM, dProp, isOf, gIsC, gIn, gIn2, dDct, gSorted, asI, gRepr, dCallKw, pick, List.filterMap_cons, List.filterMap_nil, List.getElem?_nil, dSeq, dNext, dRet, dRetN, dIfS, dAsg, dgName, dgTup, dgCons, dgNil, dgSub, dPar, dAug, dDrop, dBreak, dCont, dNever, dOp, gI, gT, gPlus, gAdd, gEq, gNe, gIs, gIsNot, gIs2, gIsNot2, gIx, dV, dC, dB, dAnd, dOr, dNot, dAndV, dOrV, dNotV, dIf, dNeg, dChain, dNil, dCons, dTup, dLst, dLstM, dNoPart, dPart, dSl, dCB, dCall, gLen, gAbs, g2, gInt, gStr, gDivmod, gIsTy, gTuple, gList, gSum, gAll, gAny, dAppend, dItems, itemsOf, dRange1, dRange2, dFor, D.onB, D.tyn, D.isNon, asL, rsv, kb_di, kb_db, kb_ds, kb_dt, kb_dl, kb_ii, kb_bi, kb_ni, kb_si, kb_ti, kb_li, kb_ib, kb_bb, kb_nb, kb_sb, kb_tb, kb_lb, kb_is, kb_bs, kb_ns, kb_ss, kb_ts, kb_ls, kb_it, kb_bt, kb_nt, kb_st, kb_tt, kb_lt, startD, List.map_cons, List.map_nil, List.length_cons, List.length_nil, List.cons_append, List.nil_append, List.replicate, List.getElem?_cons_zero, List.getElem?_cons_succ, List.set_cons_zero, List.set_cons_succ, List.zip_cons_cons, List.zip_nil_right, List.foldl_cons, List.foldl_nil, Option.bind_some, Option.bind_none, um_same, um_um, Bool.false_eq_true, reduceCtorEq, false_implies, true_implies, forall_const, true_and, and_true, and_self, Bool.not_true, Bool.not_false, implies_true, decide_eq_true_eq, decide_eq_false_iff_not, Bool.not_eq_true, not_true_eq_false, not_false_eq_true, Bool.not_eq_true', Bool.not_eq_false', D.onB, sizeLine_eq, Nat.reduceAdd, Nat.reduceLeDiff, Nat.zero_add, Nat.reduceLT, pl_bl, pl_i, pl_n, eqv_bl, eqv_ii, eqv_nn, ints_inj, exists_eq_left', exists_eq_left, beq_iff_eq, beq_eq_false_iff_ne, ne_eq, true_or, or_true, false_or, or_false, false_and, and_false, if_true, if_false, List.lookup_cons, beq_self_eq_true, t_is_same]; exact Wk.of h)
    | _ => simp [itree] at he
  · exact h.elim
def fl (d : Nat) : Nat := [512, 256, 128, 64, 32, 16, 8, 4, 2, 1].foldl (fun w b => if (w + b) * (w + b) ≤ d then w + b else w) 0
/-- root, fraction, least solution: all tried -/
def solD (d : Int) : Option (Int × List Int × Int × Int) :=
  let w : Int := (fl d.toNat : Nat)
  if 2 ≤ d ∧ d ≤ 1000000 ∧ w * w < d ∧ d < (w + 1) * (w + 1) then
    match fracGo d w 400 0 1 w [] with
    | some ts =>
      if ts ≠ [] ∧ (ts.all fun t => decide (0 ≤ t) && decide (t < 2 ^ 60)) = true ∧ ts.length ≤ 400 ∧ (lsol w ts).1 * (lsol w ts).1 - d * (lsol w ts).2 * (lsol w ts).2 = 1 ∧ 1 ≤ (lsol w ts).1 ∧ 1 ≤ (lsol w ts).2 ∧ (lsol w ts).1.natAbs < 2 ^ 600 ∧ (lsol w ts).2.natAbs < 2 ^ 600 ∧
        leastGo d ts 900 w 1 1 0 0 = some (lsol w ts) then some (w, ts, (lsol w ts).1, (lsol w ts).2) else none
    | none => none
  else none
structure Sol (d w : Int) (ts : List Int) (x y : Int) : Prop where
  cf : CF d w ts
  ne : ts ≠ []
  bd : ∀ t ∈ ts, 0 ≤ t ∧ t < 2 ^ 60
  ln : ts.length ≤ 400
  ls : lsol w ts = (x, y)
  lg : leastGo d ts 900 w 1 1 0 0 = some (x, y)
  nm : x * x - d * y * y = 1
  x1 : 1 ≤ x
  y1 : 1 ≤ y
  xb : x.natAbs < 2 ^ 600
  yb : y.natAbs < 2 ^ 600
theorem solD_ok {d w : Int} {ts : List Int} {x y : Int} (h : solD d = some (w, ts, x, y)) : Sol d w ts x y := by
  unfold solD at h
  simp only [] at h
  have w0 : (0 : Int) ≤ ((fl d.toNat : Nat) : Int) := Int.natCast_nonneg _
  generalize ((fl d.toNat : Nat) : Int) = w' at h w0
  split at h
  · rename_i c
    split at h
    · rename_i ts' e
      split at h
      · rename_i k
        simp only [Option.some.injEq, Prod.mk.injEq] at h
        obtain ⟨rfl, rfl, rfl, rfl⟩ := h
        obtain ⟨k1, k2, k3, k4, k5, k6, k7, k8, k9⟩ := k
        simp only [List.all_eq_true, Bool.and_eq_true, decide_eq_true_eq] at k2
        refine ⟨⟨⟨⟨?_, by omega, c.2.2.2⟩, c.1, c.2.1, by omega⟩, 400, e⟩, k1, k2, k3, rfl, k9, k4, k5, k6, k7, k8⟩
        omega
      · cases h
    · cases h
  · cases h
def Good (d : Int) : Prop := ∃ w ts x y, Sol d w ts x y
theorem small_all : ((List.range 901).all fun i => (solD (2 + (i : Int))).isSome || (fl (2 + i) * fl (2 + i) == 2 + i && (solD (3 + (i : Int))).isSome)) = true := by decide +kernel
def solIs (d x y : Int) : Bool := match solD d with
  | some (_, _, u, v) => u == x && v == y
  | none => false
theorem fam_all : ((List.range 997).all fun i => let k : Int := 2 + (i : Int)
    solIs (k * k - 1) k 1 && (solIs (k * k + 1) (2 * k * k + 1) (2 * k) && (solIs (k * k + 2) (k * k + 1) k && solIs (k * k - 2) (k * k - 1) k))) = true := by decide +kernel
abbrev N_law_root : List Str := ["_law_jar", "_law_k", "_law_d"]
def sp_law_root : DSp := fun ds M Q E => match ds with
  | [.ref g] => Gd M g ∧ ∀ d M', Good d → Gs g M M' → Q (.int d) M'
  | _ => False
theorem len_law_root : ∀ ds M Q E, sp_law_root ds M Q E → ds.length = 1 := fun ds M Q E h => by
  unfold sp_law_root at h; split at h <;> first | rfl | exact h.elim
def t_law_root (W : DW') : TDS :=
  dSeq (dAsg (dOp gAdd (dC (.int 3)) (dCall sp_law_dip W (dCons (dV 0) (dCons (dC (.int 996)) (dNil))))) (dgName 1)) <|
  dSeq (dAsg (dOp gIx (dLst (dCons (dOp gAdd (dC (.int 2)) (dCall sp_law_dip W (dCons (dV 0) (dCons (dC (.int 60)) (dNil))))) (dCons (dOp gAdd (dC (.int 2)) (dCall sp_law_dip W (dCons (dV 0) (dCons (dC (.int 900)) (dNil))))) (dCons (dOp (gI (fun _ _ => True) fun i j => .int (i - j)) (dOp gMul (dV 1) (dV 1)) (dC (.int 1))) (dCons (dOp gAdd (dOp gMul (dV 1) (dV 1)) (dC (.int 1))) (dCons (dOp gAdd (dOp gMul (dV 1) (dV 1)) (dC (.int 2))) (dCons (dOp (gI (fun _ _ => True) fun i j => .int (i - j)) (dOp gMul (dV 1) (dV 1)) (dC (.int 2))) (dNil)))))))) (dCall sp_law_dip W (dCons (dV 0) (dCons (dC (.int 6)) (dNil))))) (dgName 2)) <|
  dRet (dIf (dB (dCall sp_law_is_root W (dCons (dV 2) (dNil)))) (dV 2) (dOp gAdd (dV 2) (dC (.int 1))))
theorem good_some {d : Int} (h : (solD d).isSome = true) : Good d := by
  obtain ⟨⟨w, ts, x, y⟩, e⟩ := Option.isSome_iff_exists.mp h
  exact ⟨w, ts, x, y, solD_ok e⟩
theorem sol_is {d x y : Int} (h : solIs d x y = true) : ∃ w ts, Sol d w ts x y := by
  unfold solIs at h
  split at h
  · rename_i w ts u v e
    simp only [Bool.and_eq_true, beq_iff_eq] at h
    obtain ⟨rfl, rfl⟩ := h
    exact ⟨w, ts, solD_ok e⟩
  · cases h
theorem small_of {d : Int} (h : 2 ≤ d ∧ d ≤ 902) : Good d ∨ (∃ w, w * w = d ∧ Good (d + 1)) := by
  have := List.all_eq_true.mp small_all (d - 2).toNat (List.mem_range.mpr (by omega))
  simp only [Bool.or_eq_true, Bool.and_eq_true, beq_iff_eq] at this
  rw [show 2 + (((d - 2).toNat : Nat) : Int) = d by omega, show 3 + (((d - 2).toNat : Nat) : Int) = d + 1 by omega] at this
  rcases this with h | ⟨h1, h2⟩
  · exact .inl (good_some h)
  · refine .inr ⟨((fl (2 + (d - 2).toNat) : Nat) : Int), ?_, good_some h2⟩
    generalize fl (2 + (d - 2).toNat) = z at h1
    have : ((z * z : Nat) : Int) = ((2 + (d - 2).toNat : Nat) : Int) := by rw [h1]
    rw [Int.natCast_mul] at this
    omega
theorem fam_of {k : Int} (h : 2 ≤ k ∧ k ≤ 998) : (∃ w ts, Sol (k * k - 1) w ts k 1) ∧ (∃ w ts, Sol (k * k + 1) w ts (2 * k * k + 1) (2 * k)) ∧ (∃ w ts, Sol (k * k + 2) w ts (k * k + 1) k) ∧ (∃ w ts, Sol (k * k - 2) w ts (k * k - 1) k) := by
  have := List.all_eq_true.mp fam_all (k - 2).toNat (List.mem_range.mpr (by omega))
  simp only [Bool.and_eq_true] at this
  rw [show 2 + (((k - 2).toNat : Nat) : Int) = k by omega] at this
  exact ⟨sol_is this.1, sol_is this.2.1, sol_is this.2.2.1, sol_is this.2.2.2⟩
theorem at6 {α : Type} {a b c d e f : α} {r : Int} (h0 : 0 ≤ r) (h1 : r < 6) (P : Option α → Prop) (pa : P (some a)) (pb : P (some b)) (pc : P (some c)) (pd : P (some d)) (pe : P (some e)) (pf : P (some f)) : P (atI [a, b, c, d, e, f] r) := by
  have r6 : r = 0 ∨ r = 1 ∨ r = 2 ∨ r = 3 ∨ r = 4 ∨ r = 5 := by omega
  rcases r6 with rfl | rfl | rfl | rfl | rfl | rfl
  · exact pa
  · exact pb
  · exact pc
  · exact pd
  · exact pe
  · exact pf
theorem at6_in {α : Type} {a b c d e f : α} {r : Int} (h0 : 0 ≤ r) (h1 : r < 6) : ∃ x, (x = a ∨ x = b ∨ x = c ∨ x = d ∨ x = e ∨ x = f) ∧ atI [a, b, c, d, e, f] r = some x :=
  at6 h0 h1 (fun o => ∃ x, (x = a ∨ x = b ∨ x = c ∨ x = d ∨ x = e ∨ x = f) ∧ o = some x) ⟨a, by simp, rfl⟩ ⟨b, by simp, rfl⟩ ⟨c, by simp, rfl⟩ ⟨d, by simp, rfl⟩ ⟨e, by simp, rfl⟩ ⟨f, by simp, rfl⟩
theorem pure_law_root (ds : List D) (M : Mp) (Q : DK) (E : XE') (h : sp_law_root ds M Q E) : t_law_root (fnW E) { nx := fun _ M' => Wk (Q .non) M', rt := fun d M' => Wk (Q d) M' } (startD N_law_root ds) M := by
  unfold sp_law_root at h
  split at h
  rotate_left
  · exact h.elim
  rename_i g
  obtain ⟨hg, h⟩ := h
  simp (config := { decide := false }) only [dMeth, dMakeK, pl_lint, pl_tint, eqv_lint, eqv_tint, decide_true, decide_false, dForJ, djT, djItems, djEnum, djZip, seqJ, dLCG, dLCG2, gMul, gMin1, gMax1, dEnum, dLC, dLCM, dYes, wipeD, dFld, fldOf, dSetF, putD, dMake, dMakeM, mkQ, mkQM, dProp, isOf, gIsC, gIn, gIn2, dDct, gSorted, asI, gRepr, dCallKw, pick, List.filterMap_cons, List.filterMap_nil, List.getElem?_nil, dSeq, dNext, dRet, dRetN, dIfS, dAsg, dgName, dgTup, dgCons, dgNil, dgSub, dPar, dAug, dDrop, dBreak, dCont, dNever, dOp, gI, gT, gPlus, gAdd, gEq, gNe, gIs, gIsNot, gIs2, gIsNot2, gIx, dV, dC, dB, dAnd, dOr, dNot, dAndV, dOrV, dNotV, dIf, dNeg, dChain, dNil, dCons, dTup, dLst, dLstM, dNoPart, dPart, dSl, dCB, dCall, gLen, gAbs, g2, gInt, gStr, gDivmod, gIsTy, gTuple, gList, gSum, gAll, gAny, dAppend, dItems, itemsOf, dRange1, dRange2, dFor, D.onB, D.tyn, D.isNon, asL, rsv, kb_di, kb_db, kb_ds, kb_dt, kb_dl, kb_ii, kb_bi, kb_ni, kb_si, kb_ti, kb_li, kb_ib, kb_bb, kb_nb, kb_sb, kb_tb, kb_lb, kb_is, kb_bs, kb_ns, kb_ss, kb_ts, kb_ls, kb_it, kb_bt, kb_nt, kb_st, kb_tt, kb_lt, startD, List.map_cons, List.map_nil, List.length_cons, List.length_nil, List.cons_append, List.nil_append, List.replicate, List.getElem?_cons_zero, List.getElem?_cons_succ, List.set_cons_zero, List.set_cons_succ, List.zip_cons_cons, List.zip_nil_right, List.foldl_cons, List.foldl_nil, Option.bind_some, Option.bind_none, um_same, um_um, Bool.false_eq_true, reduceCtorEq, false_implies, true_implies, forall_const, true_and, and_true, and_self, Bool.not_true, Bool.not_false, implies_true, decide_eq_true_eq, decide_eq_false_iff_not, Bool.not_eq_true, not_true_eq_false, not_false_eq_true, Bool.not_eq_true', Bool.not_eq_false', D.onB, sizeLine_eq, Nat.reduceAdd, Nat.reduceLeDiff, Nat.zero_add, Nat.reduceLT, pl_bl, pl_i, pl_n, eqv_bl, eqv_ii, eqv_nn, ints_inj, exists_eq_left', exists_eq_left, beq_iff_eq, beq_eq_false_iff_ne, ne_eq, true_or, or_true, false_or, or_false, false_and, and_false, if_true, if_false, List.lookup_cons, beq_self_eq_true, t_law_root, sp_law_dip]
  refine ⟨hg, by decide, fun k M1 k0 k1 s1 => ⟨s1.gd, by decide, fun a M2 a0 a1 s2 => ⟨s2.gd, by decide, fun b M3 b0 b1 s3 => ?_⟩⟩⟩
  have mk : mulOk (3 + k) (3 + k) := mul_l ⟨by omega, by omega⟩
  refine ⟨mk, mk, mk, mk, s3.gd, by decide, fun c M4 c0 c1 s4 => ?_⟩
  obtain ⟨x, hx, e⟩ := at6_in (a := D.int (2 + a)) (b := D.int (2 + b)) (c := D.int ((3 + k) * (3 + k) - 1)) (d := D.int ((3 + k) * (3 + k) + 1)) (e := D.int ((3 + k) * (3 + k) + 2)) (f := D.int ((3 + k) * (3 + k) - 2)) c0 c1
  rw [e]
  have key : ∃ d, x = .int d ∧ (2 ≤ d ∧ d ≤ 1000000) ∧ (Good d ∨ (∃ w, w * w = d ∧ Good (d + 1))) := by
    obtain ⟨f1, f2, f3, f4⟩ := fam_of (k := 3 + k) ⟨by omega, by omega⟩
    have sq : (3 + k) * (3 + k) ≤ 998 * 998 := Int.mul_le_mul (by omega) (by omega) (by omega) (by omega)
    have sq2 : 3 * 3 ≤ (3 + k) * (3 + k) := Int.mul_le_mul (by omega) (by omega) (by omega) (by omega)
    rcases hx with rfl | rfl | rfl | rfl | rfl | rfl
    · exact ⟨_, rfl, by omega, small_of (by omega)⟩
    · exact ⟨_, rfl, by omega, small_of (by omega)⟩
    · obtain ⟨w, ts, z⟩ := f1
      exact ⟨_, rfl, by omega, .inl ⟨_, _, _, _, z⟩⟩
    · obtain ⟨w, ts, z⟩ := f2
      exact ⟨_, rfl, by omega, .inl ⟨_, _, _, _, z⟩⟩
    · obtain ⟨w, ts, z⟩ := f3
      exact ⟨_, rfl, by omega, .inl ⟨_, _, _, _, z⟩⟩
    · obtain ⟨w, ts, z⟩ := f4
      exact ⟨_, rfl, by omega, .inl ⟨_, _, _, _, z⟩⟩
  obtain ⟨d, rfl, hd, hk⟩ := key
  have st : Gs g M M4 := ((s1.tr s2).tr s3).tr s4
  have wt : D.within (.int d) 2 1000000 = true := by simp [D.within, hd.1, hd.2]
  simp (config := { decide := false }) only [dMeth, dMakeK, pl_lint, pl_tint, eqv_lint, eqv_tint, decide_true, decide_false, dForJ, djT, djItems, djEnum, djZip, seqJ, dLCG, dLCG2, gMul, gMin1, gMax1, dEnum, dLC, dLCM, dYes, wipeD, dFld, fldOf, dSetF, putD, dMake, dMakeM, mkQ, mkQM, dProp, isOf, gIsC, gIn, gIn2, dDct, gSorted, asI, gRepr, dCallKw, pick, List.filterMap_cons, List.filterMap_nil, List.getElem?_nil, dSeq, dNext, dRet, dRetN, dIfS, dAsg, dgName, dgTup, dgCons, dgNil, dgSub, dPar, dAug, dDrop, dBreak, dCont, dNever, dOp, gI, gT, gPlus, gAdd, gEq, gNe, gIs, gIsNot, gIs2, gIsNot2, gIx, dV, dC, dB, dAnd, dOr, dNot, dAndV, dOrV, dNotV, dIf, dNeg, dChain, dNil, dCons, dTup, dLst, dLstM, dNoPart, dPart, dSl, dCB, dCall, gLen, gAbs, g2, gInt, gStr, gDivmod, gIsTy, gTuple, gList, gSum, gAll, gAny, dAppend, dItems, itemsOf, dRange1, dRange2, dFor, D.onB, D.tyn, D.isNon, asL, rsv, kb_di, kb_db, kb_ds, kb_dt, kb_dl, kb_ii, kb_bi, kb_ni, kb_si, kb_ti, kb_li, kb_ib, kb_bb, kb_nb, kb_sb, kb_tb, kb_lb, kb_is, kb_bs, kb_ns, kb_ss, kb_ts, kb_ls, kb_it, kb_bt, kb_nt, kb_st, kb_tt, kb_lt, startD, List.map_cons, List.map_nil, List.length_cons, List.length_nil, List.cons_append, List.nil_append, List.replicate, List.getElem?_cons_zero, List.getElem?_cons_succ, List.set_cons_zero, List.set_cons_succ, List.zip_cons_cons, List.zip_nil_right, List.foldl_cons, List.foldl_nil, Option.bind_some, Option.bind_none, um_same, um_um, Bool.false_eq_true, reduceCtorEq, false_implies, true_implies, forall_const, true_and, and_true, and_self, Bool.not_true, Bool.not_false, implies_true, decide_eq_true_eq, decide_eq_false_iff_not, Bool.not_eq_true, not_true_eq_false, not_false_eq_true, Bool.not_eq_true', Bool.not_eq_false', D.onB, sizeLine_eq, Nat.reduceAdd, Nat.reduceLeDiff, Nat.zero_add, Nat.reduceLT, pl_bl, pl_i, pl_n, eqv_bl, eqv_ii, eqv_nn, ints_inj, exists_eq_left', exists_eq_left, beq_iff_eq, beq_eq_false_iff_ne, ne_eq, true_or, or_true, false_or, or_false, false_and, and_false, if_true, if_false, List.lookup_cons, beq_self_eq_true, sp_law_is_root, wt]
  refine fun i e _ _ s hs => ?_
  injection e with e
  subst e
  rcases hk with hk | ⟨w, hw, hk⟩
  · have hk' := hk
    obtain ⟨w, ts, x, y, z⟩ := hk'
    obtain rfl := hs.uniq z.cf.1.1
    exact ⟨fun _ => Wk.of (h _ _ hk st), fun c => absurd c z.cf.1.2.2.2⟩
  · refine ⟨fun c => absurd ?_ c, fun _ => Wk.of (h _ _ hk st)⟩
    have fl1 : Fl d ((w.natAbs : Nat) : Int) := by
      have e2 : ((w.natAbs : Nat) : Int) * ((w.natAbs : Nat) : Int) = d := by rw [Int.natAbs_mul_self', hw]
      refine ⟨Int.natCast_nonneg _, by omega, ?_⟩
      have : (((w.natAbs : Nat) : Int) + 1) * (((w.natAbs : Nat) : Int) + 1) = ((w.natAbs : Nat) : Int) * ((w.natAbs : Nat) : Int) + 2 * ((w.natAbs : Nat) : Int) + 1 := by
        generalize ((w.natAbs : Nat) : Int) = z
        rw [Int.add_mul, Int.mul_add]; omega
      omega
    obtain rfl := hs.uniq fl1
    rw [Int.natAbs_mul_self', hw]
abbrev N_is_number : List Str := ["value"]
def sp_is_number : DSp := fun ds M Q E => match ds with
  | [d] => d.tyn M ≠ none ∧ (match d with
    | .int i => Q (.bl (decide (1 ≤ i))) M
    | _ => Q (.bl false) M)
  | _ => False
theorem len_is_number : ∀ ds M Q E, sp_is_number ds M Q E → ds.length = 1 := fun ds M Q E h => by
  unfold sp_is_number at h; split at h <;> first | rfl | exact h.elim
def t_is_number (W : DW') : TDS :=
  dRet (dAndV (dCall sp_is_integer W (dCons (dV 0) (dNil))) (dOp (gT fun i j => decide (j ≤ i)) (dV 0) (dC (.int 1))))
theorem pure_is_number (ds : List D) (M : Mp) (Q : DK) (E : XE') (h : sp_is_number ds M Q E) : t_is_number (fnW E) { nx := fun _ M' => Wk (Q .non) M', rt := fun d M' => Wk (Q d) M' } (startD N_is_number ds) M := by
  unfold sp_is_number at h
  split at h
  rotate_left
  · exact h.elim
  rename_i d
  obtain ⟨h0, h⟩ := h
  cases d
  case int i =>
    simp (config := { decide := false }) only [dMeth, dMakeK, pl_lint, pl_tint, eqv_lint, eqv_tint, decide_true, decide_false, dForJ, djT, djItems, djEnum, djZip, seqJ, dLCG, dLCG2, gMul, gMin1, gMax1, dEnum, dLC, dLCM, dYes, wipeD, dFld, fldOf, dSetF, putD, dMake, dMakeM, mkQ, mkQM, dProp, isOf, gIsC, gIn, gIn2, dDct, gSorted, asI, gRepr, dCallKw, pick, List.filterMap_cons, List.filterMap_nil, List.getElem?_nil, dSeq, dNext, dRet, dRetN, dIfS, dAsg, dgName, dgTup, dgCons, dgNil, dgSub, dPar, dAug, dDrop, dBreak, dCont, dNever, dOp, gI, gT, gPlus, gAdd, gEq, gNe, gIs, gIsNot, gIs2, gIsNot2, gIx, dV, dC, dB, dAnd, dOr, dNot, dAndV, dOrV, dNotV, dIf, dNeg, dChain, dNil, dCons, dTup, dLst, dLstM, dNoPart, dPart, dSl, dCB, dCall, gLen, gAbs, g2, gInt, gStr, gDivmod, gIsTy, gTuple, gList, gSum, gAll, gAny, dAppend, dItems, itemsOf, dRange1, dRange2, dFor, D.onB, D.tyn, D.isNon, asL, rsv, kb_di, kb_db, kb_ds, kb_dt, kb_dl, kb_ii, kb_bi, kb_ni, kb_si, kb_ti, kb_li, kb_ib, kb_bb, kb_nb, kb_sb, kb_tb, kb_lb, kb_is, kb_bs, kb_ns, kb_ss, kb_ts, kb_ls, kb_it, kb_bt, kb_nt, kb_st, kb_tt, kb_lt, startD, List.map_cons, List.map_nil, List.length_cons, List.length_nil, List.cons_append, List.nil_append, List.replicate, List.getElem?_cons_zero, List.getElem?_cons_succ, List.set_cons_zero, List.set_cons_succ, List.zip_cons_cons, List.zip_nil_right, List.foldl_cons, List.foldl_nil, Option.bind_some, Option.bind_none, um_same, um_um, Bool.false_eq_true, reduceCtorEq, false_implies, true_implies, forall_const, true_and, and_true, and_self, Bool.not_true, Bool.not_false, implies_true, decide_eq_true_eq, decide_eq_false_iff_not, Bool.not_eq_true, not_true_eq_false, not_false_eq_true, Bool.not_eq_true', Bool.not_eq_false', D.onB, sizeLine_eq, Nat.reduceAdd, Nat.reduceLeDiff, Nat.zero_add, Nat.reduceLT, t_is_number, sp_is_integer, D.isInt]
    exact ⟨h0, Wk.of h⟩
  all_goals
    simp (config := { decide := false }) only [dMeth, dMakeK, pl_lint, pl_tint, eqv_lint, eqv_tint, decide_true, decide_false, dForJ, djT, djItems, djEnum, djZip, seqJ, dLCG, dLCG2, gMul, gMin1, gMax1, dEnum, dLC, dLCM, dYes, wipeD, dFld, fldOf, dSetF, putD, dMake, dMakeM, mkQ, mkQM, dProp, isOf, gIsC, gIn, gIn2, dDct, gSorted, asI, gRepr, dCallKw, pick, List.filterMap_cons, List.filterMap_nil, List.getElem?_nil, dSeq, dNext, dRet, dRetN, dIfS, dAsg, dgName, dgTup, dgCons, dgNil, dgSub, dPar, dAug, dDrop, dBreak, dCont, dNever, dOp, gI, gT, gPlus, gAdd, gEq, gNe, gIs, gIsNot, gIs2, gIsNot2, gIx, dV, dC, dB, dAnd, dOr, dNot, dAndV, dOrV, dNotV, dIf, dNeg, dChain, dNil, dCons, dTup, dLst, dLstM, dNoPart, dPart, dSl, dCB, dCall, gLen, gAbs, g2, gInt, gStr, gDivmod, gIsTy, gTuple, gList, gSum, gAll, gAny, dAppend, dItems, itemsOf, dRange1, dRange2, dFor, D.onB, D.tyn, D.isNon, asL, rsv, kb_di, kb_db, kb_ds, kb_dt, kb_dl, kb_ii, kb_bi, kb_ni, kb_si, kb_ti, kb_li, kb_ib, kb_bb, kb_nb, kb_sb, kb_tb, kb_lb, kb_is, kb_bs, kb_ns, kb_ss, kb_ts, kb_ls, kb_it, kb_bt, kb_nt, kb_st, kb_tt, kb_lt, startD, List.map_cons, List.map_nil, List.length_cons, List.length_nil, List.cons_append, List.nil_append, List.replicate, List.getElem?_cons_zero, List.getElem?_cons_succ, List.set_cons_zero, List.set_cons_succ, List.zip_cons_cons, List.zip_nil_right, List.foldl_cons, List.foldl_nil, Option.bind_some, Option.bind_none, um_same, um_um, Bool.false_eq_true, reduceCtorEq, false_implies, true_implies, forall_const, true_and, and_true, and_self, Bool.not_true, Bool.not_false, implies_true, decide_eq_true_eq, decide_eq_false_iff_not, Bool.not_eq_true, not_true_eq_false, not_false_eq_true, Bool.not_eq_true', Bool.not_eq_false', D.onB, sizeLine_eq, Nat.reduceAdd, Nat.reduceLeDiff, Nat.zero_add, Nat.reduceLT, t_is_number, sp_is_integer, D.isInt]
    exact ⟨h0, Wk.of h⟩
abbrev N_is_empty : List Str := ["value"]
def D.empty : D → Bool
  | .tup [] => true
  | _ => false
def sp_is_empty : DSp := fun ds M Q E => match ds with
  | [d] => d.tyn M ≠ none ∧ Q (.bl (D.empty d)) M
  | _ => False
theorem len_is_empty : ∀ ds M Q E, sp_is_empty ds M Q E → ds.length = 1 := fun ds M Q E h => by
  unfold sp_is_empty at h; split at h <;> first | rfl | exact h.elim
def t_is_empty (W : DW') : TDS :=
  dRet (dAndV (dCB gIsTy (dCons (dV 0) (dCons (dC (.ty "tuple")) (dNil)))) (dOp gEq (dCB gLen (dCons (dV 0) (dNil))) (dC (.int 0))))
theorem pure_is_empty (ds : List D) (M : Mp) (Q : DK) (E : XE') (h : sp_is_empty ds M Q E) : t_is_empty (fnW E) { nx := fun _ M' => Wk (Q .non) M', rt := fun d M' => Wk (Q d) M' } (startD N_is_empty ds) M := by
  unfold sp_is_empty at h
  split at h
  rotate_left
  · exact h.elim
  rename_i d
  obtain ⟨h0, h⟩ := h
  cases d
  case ref a =>
    simp only [D.tyn] at h0
    split at h0
    · rename_i xs e
      simp (config := { decide := false }) only [dMeth, dMakeK, pl_lint, pl_tint, eqv_lint, eqv_tint, decide_true, decide_false, dForJ, djT, djItems, djEnum, djZip, seqJ, dLCG, dLCG2, gMul, gMin1, gMax1, dEnum, dLC, dLCM, dYes, wipeD, dFld, fldOf, dSetF, putD, dMake, dMakeM, mkQ, mkQM, dProp, isOf, gIsC, gIn, gIn2, dDct, gSorted, asI, gRepr, dCallKw, pick, List.filterMap_cons, List.filterMap_nil, List.getElem?_nil, dSeq, dNext, dRet, dRetN, dIfS, dAsg, dgName, dgTup, dgCons, dgNil, dgSub, dPar, dAug, dDrop, dBreak, dCont, dNever, dOp, gI, gT, gPlus, gAdd, gEq, gNe, gIs, gIsNot, gIs2, gIsNot2, gIx, dV, dC, dB, dAnd, dOr, dNot, dAndV, dOrV, dNotV, dIf, dNeg, dChain, dNil, dCons, dTup, dLst, dLstM, dNoPart, dPart, dSl, dCB, dCall, gLen, gAbs, g2, gInt, gStr, gDivmod, gIsTy, gTuple, gList, gSum, gAll, gAny, dAppend, dItems, itemsOf, dRange1, dRange2, dFor, D.onB, D.tyn, D.isNon, asL, rsv, kb_di, kb_db, kb_ds, kb_dt, kb_dl, kb_ii, kb_bi, kb_ni, kb_si, kb_ti, kb_li, kb_ib, kb_bb, kb_nb, kb_sb, kb_tb, kb_lb, kb_is, kb_bs, kb_ns, kb_ss, kb_ts, kb_ls, kb_it, kb_bt, kb_nt, kb_st, kb_tt, kb_lt, startD, List.map_cons, List.map_nil, List.length_cons, List.length_nil, List.cons_append, List.nil_append, List.replicate, List.getElem?_cons_zero, List.getElem?_cons_succ, List.set_cons_zero, List.set_cons_succ, List.zip_cons_cons, List.zip_nil_right, List.foldl_cons, List.foldl_nil, Option.bind_some, Option.bind_none, um_same, um_um, Bool.false_eq_true, reduceCtorEq, false_implies, true_implies, forall_const, true_and, and_true, and_self, Bool.not_true, Bool.not_false, implies_true, decide_eq_true_eq, decide_eq_false_iff_not, Bool.not_eq_true, not_true_eq_false, not_false_eq_true, Bool.not_eq_true', Bool.not_eq_false', D.onB, sizeLine_eq, Nat.reduceAdd, Nat.reduceLeDiff, Nat.zero_add, Nat.reduceLT, t_is_empty, e]
      exact Wk.of h
    · exact absurd rfl h0
  case tup xs =>
    simp (config := { decide := false }) only [dMeth, dMakeK, pl_lint, pl_tint, eqv_lint, eqv_tint, decide_true, decide_false, dForJ, djT, djItems, djEnum, djZip, seqJ, dLCG, dLCG2, gMul, gMin1, gMax1, dEnum, dLC, dLCM, dYes, wipeD, dFld, fldOf, dSetF, putD, dMake, dMakeM, mkQ, mkQM, dProp, isOf, gIsC, gIn, gIn2, dDct, gSorted, asI, gRepr, dCallKw, pick, List.filterMap_cons, List.filterMap_nil, List.getElem?_nil, dSeq, dNext, dRet, dRetN, dIfS, dAsg, dgName, dgTup, dgCons, dgNil, dgSub, dPar, dAug, dDrop, dBreak, dCont, dNever, dOp, gI, gT, gPlus, gAdd, gEq, gNe, gIs, gIsNot, gIs2, gIsNot2, gIx, dV, dC, dB, dAnd, dOr, dNot, dAndV, dOrV, dNotV, dIf, dNeg, dChain, dNil, dCons, dTup, dLst, dLstM, dNoPart, dPart, dSl, dCB, dCall, gLen, gAbs, g2, gInt, gStr, gDivmod, gIsTy, gTuple, gList, gSum, gAll, gAny, dAppend, dItems, itemsOf, dRange1, dRange2, dFor, D.onB, D.tyn, D.isNon, asL, rsv, kb_di, kb_db, kb_ds, kb_dt, kb_dl, kb_ii, kb_bi, kb_ni, kb_si, kb_ti, kb_li, kb_ib, kb_bb, kb_nb, kb_sb, kb_tb, kb_lb, kb_is, kb_bs, kb_ns, kb_ss, kb_ts, kb_ls, kb_it, kb_bt, kb_nt, kb_st, kb_tt, kb_lt, startD, List.map_cons, List.map_nil, List.length_cons, List.length_nil, List.cons_append, List.nil_append, List.replicate, List.getElem?_cons_zero, List.getElem?_cons_succ, List.set_cons_zero, List.set_cons_succ, List.zip_cons_cons, List.zip_nil_right, List.foldl_cons, List.foldl_nil, Option.bind_some, Option.bind_none, um_same, um_um, Bool.false_eq_true, reduceCtorEq, false_implies, true_implies, forall_const, true_and, and_true, and_self, Bool.not_true, Bool.not_false, implies_true, decide_eq_true_eq, decide_eq_false_iff_not, Bool.not_eq_true, not_true_eq_false, not_false_eq_true, Bool.not_eq_true', Bool.not_eq_false', D.onB, sizeLine_eq, Nat.reduceAdd, Nat.reduceLeDiff, Nat.zero_add, Nat.reduceLT, pl_bl, pl_i, pl_n, eqv_bl, eqv_ii, eqv_nn, ints_inj, exists_eq_left', exists_eq_left, beq_iff_eq, beq_eq_false_iff_ne, ne_eq, true_or, or_true, false_or, or_false, false_and, and_false, if_true, if_false, List.lookup_cons, beq_self_eq_true, t_is_empty]
    cases xs with
    | nil => exact Wk.of h
    | cons x xs =>
      rw [show (decide (((x :: xs).length : Int) = 0)) = false by simp; omega]
      exact Wk.of h
  all_goals first
    | exact absurd rfl h0
    | (simp (config := { decide := false }) only [dMeth, dMakeK, pl_lint, pl_tint, eqv_lint, eqv_tint, decide_true, decide_false, dForJ, djT, djItems, djEnum, djZip, seqJ, dLCG, dLCG2, gMul, gMin1, gMax1, dEnum, dLC, dLCM, dYes, wipeD, dFld, fldOf, dSetF, putD, dMake, dMakeM, mkQ, mkQM, dProp, isOf, gIsC, gIn, gIn2, dDct, gSorted, asI, gRepr, dCallKw, pick, List.filterMap_cons, List.filterMap_nil, List.getElem?_nil, dSeq, dNext, dRet, dRetN, dIfS, dAsg, dgName, dgTup, dgCons, dgNil, dgSub, dPar, dAug, dDrop, dBreak, dCont, dNever, dOp, gI, gT, gPlus, gAdd, gEq, gNe, gIs, gIsNot, gIs2, gIsNot2, gIx, dV, dC, dB, dAnd, dOr, dNot, dAndV, dOrV, dNotV, dIf, dNeg, dChain, dNil, dCons, dTup, dLst, dLstM, dNoPart, dPart, dSl, dCB, dCall, gLen, gAbs, g2, gInt, gStr, gDivmod, gIsTy, gTuple, gList, gSum, gAll, gAny, dAppend, dItems, itemsOf, dRange1, dRange2, dFor, D.onB, D.tyn, D.isNon, asL, rsv, kb_di, kb_db, kb_ds, kb_dt, kb_dl, kb_ii, kb_bi, kb_ni, kb_si, kb_ti, kb_li, kb_ib, kb_bb, kb_nb, kb_sb, kb_tb, kb_lb, kb_is, kb_bs, kb_ns, kb_ss, kb_ts, kb_ls, kb_it, kb_bt, kb_nt, kb_st, kb_tt, kb_lt, startD, List.map_cons, List.map_nil, List.length_cons, List.length_nil, List.cons_append, List.nil_append, List.replicate, List.getElem?_cons_zero, List.getElem?_cons_succ, List.set_cons_zero, List.set_cons_succ, List.zip_cons_cons, List.zip_nil_right, List.foldl_cons, List.foldl_nil, Option.bind_some, Option.bind_none, um_same, um_um, Bool.false_eq_true, reduceCtorEq, false_implies, true_implies, forall_const, true_and, and_true, and_self, Bool.not_true, Bool.not_false, implies_true, decide_eq_true_eq, decide_eq_false_iff_not, Bool.not_eq_true, not_true_eq_false, not_false_eq_true, Bool.not_eq_true', Bool.not_eq_false', D.onB, sizeLine_eq, Nat.reduceAdd, Nat.reduceLeDiff, Nat.zero_add, Nat.reduceLT, t_is_empty]; exact Wk.of h)
abbrev N_root_shown : List Str := ["claim", "certificate", "root", "x", "y"]
theorem solid_tyn {d : D} {M : Mp} (h : D.solid d = true) : d.tyn M ≠ none := by
  cases d <;> first | exact absurd h Bool.false_ne_true | exact (fun z => by simp [D.tyn] at z)
def posB : D → Bool
  | .int i => decide (1 ≤ i)
  | _ => false
def paperD (w : Int) (ts : List Int) : D := .tup [.int w, .tup (ts.map .int)]
/-- what a claim about an equation comes to -/
inductive Shown (wd : Str) (r x y c : D) : Bool → Prop
  | noRoot (h : D.within r 2 1000000 = false) : Shown wd r x y c false
  | square (d w : Int) (h : r = .int d) (b : 2 ≤ d ∧ d ≤ 1000000) (e : w * w = d) : Shown wd r x y c false
  | noNum (d w : Int) (h : r = .int d) (rt : Rt d w) (hx : posB x = false ∨ posB y = false) : Shown wd r x y c false
  | sol (d w i j : Int) (h : r = .int d) (rt : Rt d w) (hx : x = .int i) (hy : y = .int j) (p : 1 ≤ i ∧ 1 ≤ j) (q : i.natAbs < 2 ^ 2000 ∧ j.natAbs < 2 ^ 2000) (hw : wd = "solution") : Shown wd r x y c (D.empty c && decide (i * i - d * j * j = 1))
  | least (d w : Int) (ts : List Int) (x0 y0 i j : Int) (h : r = .int d) (s : Sol d w ts x0 y0) (hx : x = .int i) (hy : y = .int j) (p : 1 ≤ i ∧ 1 ≤ j) (hw : wd = "least") : Shown wd r x y c (sameB c (paperD w ts) && (decide (i = x0) && decide (j = y0)))
  | other (d w i j : Int) (h : r = .int d) (rt : Rt d w) (hx : x = .int i) (hy : y = .int j) (p : 1 ≤ i ∧ 1 ≤ j) (hw : wd ≠ "solution" ∧ wd ≠ "least") : Shown wd r x y c false
def sp_root_shown : DSp := fun ds M Q E => match ds with
  | [.tup xs, c] => ∃ wd r x y, xs = [.str wd, r, x, y] ∧ (D.solid r = true ∧ D.solid x = true ∧ D.solid y = true ∧ D.solid c = true) ∧ ∃ b, Shown wd r x y c b ∧ Q (.bl b) M
  | _ => False
theorem len_root_shown : ∀ ds M Q E, sp_root_shown ds M Q E → ds.length = 2 := fun ds M Q E h => by
  unfold sp_root_shown at h; split at h <;> first | rfl | exact h.elim
def r3_root_shown (W : DW') : TDS :=
  dRet (dAndV (dOp gEq (dOp gIx (dV 0) (dC (.int 0))) (dC (.str "least"))) (dAndV (dCall (sp_is_same 4) W (dCons (dV 1) (dCons (dCall sp_fraction_of W (dCons (dV 2) (dNil))) (dNil)))) (dOp gEq (dTup (dCons (dV 3) (dCons (dV 4) (dNil)))) (dCall sp_least_of W (dCons (dV 2) (dNil))))))
def r2_root_shown (W : DW') : TDS :=
  dSeq (dIfS (dB (dOp gEq (dOp gIx (dV 0) (dC (.int 0))) (dC (.str "solution")))) (dRet (dAndV (dCall sp_is_empty W (dCons (dV 1) (dNil))) (dOp gEq (dOp (gI (fun _ _ => True) fun i j => .int (i - j)) (dOp gMul (dV 3) (dV 3)) (dOp gMul (dOp gMul (dV 2) (dV 4)) (dV 4))) (dC (.int 1))))) (dNext)) <|
  r3_root_shown W
def r1_root_shown (W : DW') : TDS :=
  dSeq (dIfS (dOr (dNot (dB (dCall sp_is_root W (dCons (dV 2) (dNil))))) (dOr (dNot (dB (dCall sp_is_number W (dCons (dV 3) (dNil))))) (dNot (dB (dCall sp_is_number W (dCons (dV 4) (dNil))))))) (dRet (dC (.bl false))) (dNext)) <|
  r2_root_shown W
def t_root_shown (W : DW') : TDS :=
  dSeq (dAsg (dSl (dV 0) (dPart (dC (.int 1))) (dNoPart)) (dgTup (dgCons (dgName 2) (dgCons (dgName 3) (dgCons (dgName 4) (dgNil)))))) <|
  r1_root_shown W
theorem pos_num {x : D} {M : Mp} {Q : DK} (h0 : D.solid x = true) (h : Q (.bl (posB x)) M) : x.tyn M ≠ none ∧ (match x with
    | .int i => Q (.bl (decide (1 ≤ i))) M
    | _ => Q (.bl false) M) := by
  refine ⟨solid_tyn h0, ?_⟩
  cases x <;> exact h
theorem sh_sol {c : D} {M : Mp} {Q : DK} {XE : XE'} {d i j : Int} (hc : D.solid c = true) (hd : d.natAbs < 2 ^ 20) (hi : i.natAbs < 2 ^ 2000) (hj : j.natAbs < 2 ^ 2000) (h : Q (.bl (D.empty c && decide (i * i - d * j * j = 1))) M) :
    r2_root_shown (fnW XE) { nx := fun _ M' => Wk (Q .non) M', rt := fun d M' => Wk (Q d) M' } [some (.tup [.str "solution", .int d, .int i, .int j]), some c, some (.int d), some (.int i), some (.int j)] M := by
  have m1 : mulOk i i := mul_w _ _ hi hi (by decide)
  have m2 : mulOk d j := mul_w _ _ hd hj (by decide)
  have m3 : mulOk (d * j) j := mul_w _ _ (abs_mul_lt hd hj) hj (by decide)
  have ty := solid_tyn (M := M) hc
  unfold r2_root_shown
  generalize he : D.empty c = b at h
  simp (config := { decide := false }) only [dMeth, dMakeK, pl_lint, pl_tint, eqv_lint, eqv_tint, decide_true, decide_false, dForJ, djT, djItems, djEnum, djZip, seqJ, dLCG, dLCG2, gMul, gMin1, gMax1, dEnum, dLC, dLCM, dYes, wipeD, dFld, fldOf, dSetF, putD, dMake, dMakeM, mkQ, mkQM, dProp, isOf, gIsC, gIn, gIn2, dDct, gSorted, asI, gRepr, dCallKw, pick, List.filterMap_cons, List.filterMap_nil, List.getElem?_nil, dSeq, dNext, dRet, dRetN, dIfS, dAsg, dgName, dgTup, dgCons, dgNil, dgSub, dPar, dAug, dDrop, dBreak, dCont, dNever, dOp, gI, gT, gPlus, gAdd, gEq, gNe, gIs, gIsNot, gIs2, gIsNot2, gIx, dV, dC, dB, dAnd, dOr, dNot, dAndV, dOrV, dNotV, dIf, dNeg, dChain, dNil, dCons, dTup, dLst, dLstM, dNoPart, dPart, dSl, dCB, dCall, gLen, gAbs, g2, gInt, gStr, gDivmod, gIsTy, gTuple, gList, gSum, gAll, gAny, dAppend, dItems, itemsOf, dRange1, dRange2, dFor, D.onB, D.tyn, D.isNon, asL, rsv, kb_di, kb_db, kb_ds, kb_dt, kb_dl, kb_ii, kb_bi, kb_ni, kb_si, kb_ti, kb_li, kb_ib, kb_bb, kb_nb, kb_sb, kb_tb, kb_lb, kb_is, kb_bs, kb_ns, kb_ss, kb_ts, kb_ls, kb_it, kb_bt, kb_nt, kb_st, kb_tt, kb_lt, startD, List.map_cons, List.map_nil, List.length_cons, List.length_nil, List.cons_append, List.nil_append, List.replicate, List.getElem?_cons_zero, List.getElem?_cons_succ, List.set_cons_zero, List.set_cons_succ, List.zip_cons_cons, List.zip_nil_right, List.foldl_cons, List.foldl_nil, Option.bind_some, Option.bind_none, um_same, um_um, Bool.false_eq_true, reduceCtorEq, false_implies, true_implies, forall_const, true_and, and_true, and_self, Bool.not_true, Bool.not_false, implies_true, decide_eq_true_eq, decide_eq_false_iff_not, Bool.not_eq_true, not_true_eq_false, not_false_eq_true, Bool.not_eq_true', Bool.not_eq_false', D.onB, sizeLine_eq, Nat.reduceAdd, Nat.reduceLeDiff, Nat.zero_add, Nat.reduceLT, pl_bl, pl_i, pl_n, eqv_bl, eqv_ii, eqv_nn, ints_inj, exists_eq_left', exists_eq_left, beq_iff_eq, beq_eq_false_iff_ne, ne_eq, true_or, or_true, false_or, or_false, false_and, and_false, if_true, if_false, List.lookup_cons, beq_self_eq_true, sp_is_empty, at0, at1, at2, at3, ix0, ix1, ix2, eq_self, m1, m2, m3, he]
  refine ⟨ty, ?_⟩
  cases b with
  | false => simp (config := { decide := false }) only [dMeth, dMakeK, pl_lint, pl_tint, eqv_lint, eqv_tint, decide_true, decide_false, dForJ, djT, djItems, djEnum, djZip, seqJ, dLCG, dLCG2, gMul, gMin1, gMax1, dEnum, dLC, dLCM, dYes, wipeD, dFld, fldOf, dSetF, putD, dMake, dMakeM, mkQ, mkQM, dProp, isOf, gIsC, gIn, gIn2, dDct, gSorted, asI, gRepr, dCallKw, pick, List.filterMap_cons, List.filterMap_nil, List.getElem?_nil, dSeq, dNext, dRet, dRetN, dIfS, dAsg, dgName, dgTup, dgCons, dgNil, dgSub, dPar, dAug, dDrop, dBreak, dCont, dNever, dOp, gI, gT, gPlus, gAdd, gEq, gNe, gIs, gIsNot, gIs2, gIsNot2, gIx, dV, dC, dB, dAnd, dOr, dNot, dAndV, dOrV, dNotV, dIf, dNeg, dChain, dNil, dCons, dTup, dLst, dLstM, dNoPart, dPart, dSl, dCB, dCall, gLen, gAbs, g2, gInt, gStr, gDivmod, gIsTy, gTuple, gList, gSum, gAll, gAny, dAppend, dItems, itemsOf, dRange1, dRange2, dFor, D.onB, D.tyn, D.isNon, asL, rsv, kb_di, kb_db, kb_ds, kb_dt, kb_dl, kb_ii, kb_bi, kb_ni, kb_si, kb_ti, kb_li, kb_ib, kb_bb, kb_nb, kb_sb, kb_tb, kb_lb, kb_is, kb_bs, kb_ns, kb_ss, kb_ts, kb_ls, kb_it, kb_bt, kb_nt, kb_st, kb_tt, kb_lt, startD, List.map_cons, List.map_nil, List.length_cons, List.length_nil, List.cons_append, List.nil_append, List.replicate, List.getElem?_cons_zero, List.getElem?_cons_succ, List.set_cons_zero, List.set_cons_succ, List.zip_cons_cons, List.zip_nil_right, List.foldl_cons, List.foldl_nil, Option.bind_some, Option.bind_none, um_same, um_um, Bool.false_eq_true, reduceCtorEq, false_implies, true_implies, forall_const, true_and, and_true, and_self, Bool.not_true, Bool.not_false, implies_true, decide_eq_true_eq, decide_eq_false_iff_not, Bool.not_eq_true, not_true_eq_false, not_false_eq_true, Bool.not_eq_true', Bool.not_eq_false', D.onB, sizeLine_eq, Nat.reduceAdd, Nat.reduceLeDiff, Nat.zero_add, Nat.reduceLT, pl_bl, pl_i, pl_n, eqv_bl, eqv_ii, eqv_nn, ints_inj, exists_eq_left', exists_eq_left, beq_iff_eq, beq_eq_false_iff_ne, ne_eq, true_or, or_true, false_or, or_false, false_and, and_false, if_true, if_false, List.lookup_cons, beq_self_eq_true]; exact Wk.of h
  | true => simp (config := { decide := false }) only [dMeth, dMakeK, pl_lint, pl_tint, eqv_lint, eqv_tint, decide_true, decide_false, dForJ, djT, djItems, djEnum, djZip, seqJ, dLCG, dLCG2, gMul, gMin1, gMax1, dEnum, dLC, dLCM, dYes, wipeD, dFld, fldOf, dSetF, putD, dMake, dMakeM, mkQ, mkQM, dProp, isOf, gIsC, gIn, gIn2, dDct, gSorted, asI, gRepr, dCallKw, pick, List.filterMap_cons, List.filterMap_nil, List.getElem?_nil, dSeq, dNext, dRet, dRetN, dIfS, dAsg, dgName, dgTup, dgCons, dgNil, dgSub, dPar, dAug, dDrop, dBreak, dCont, dNever, dOp, gI, gT, gPlus, gAdd, gEq, gNe, gIs, gIsNot, gIs2, gIsNot2, gIx, dV, dC, dB, dAnd, dOr, dNot, dAndV, dOrV, dNotV, dIf, dNeg, dChain, dNil, dCons, dTup, dLst, dLstM, dNoPart, dPart, dSl, dCB, dCall, gLen, gAbs, g2, gInt, gStr, gDivmod, gIsTy, gTuple, gList, gSum, gAll, gAny, dAppend, dItems, itemsOf, dRange1, dRange2, dFor, D.onB, D.tyn, D.isNon, asL, rsv, kb_di, kb_db, kb_ds, kb_dt, kb_dl, kb_ii, kb_bi, kb_ni, kb_si, kb_ti, kb_li, kb_ib, kb_bb, kb_nb, kb_sb, kb_tb, kb_lb, kb_is, kb_bs, kb_ns, kb_ss, kb_ts, kb_ls, kb_it, kb_bt, kb_nt, kb_st, kb_tt, kb_lt, startD, List.map_cons, List.map_nil, List.length_cons, List.length_nil, List.cons_append, List.nil_append, List.replicate, List.getElem?_cons_zero, List.getElem?_cons_succ, List.set_cons_zero, List.set_cons_succ, List.zip_cons_cons, List.zip_nil_right, List.foldl_cons, List.foldl_nil, Option.bind_some, Option.bind_none, um_same, um_um, Bool.false_eq_true, reduceCtorEq, false_implies, true_implies, forall_const, true_and, and_true, and_self, Bool.not_true, Bool.not_false, implies_true, decide_eq_true_eq, decide_eq_false_iff_not, Bool.not_eq_true, not_true_eq_false, not_false_eq_true, Bool.not_eq_true', Bool.not_eq_false', D.onB, sizeLine_eq, Nat.reduceAdd, Nat.reduceLeDiff, Nat.zero_add, Nat.reduceLT, pl_bl, pl_i, pl_n, eqv_bl, eqv_ii, eqv_nn, ints_inj, exists_eq_left', exists_eq_left, beq_iff_eq, beq_eq_false_iff_ne, ne_eq, true_or, or_true, false_or, or_false, false_and, and_false, if_true, if_false, List.lookup_cons, beq_self_eq_true]; exact Wk.of h
theorem sh_other {c : D} {M : Mp} {Q : DK} {XE : XE'} {wd : Str} {d i j : Int} (h1 : (wd = "solution") = False) (h2 : (wd = "least") = False) (h : Q (.bl false) M) :
    r2_root_shown (fnW XE) { nx := fun _ M' => Wk (Q .non) M', rt := fun d M' => Wk (Q d) M' } [some (.tup [.str wd, .int d, .int i, .int j]), some c, some (.int d), some (.int i), some (.int j)] M := by
  simp (config := { decide := false }) only [dMeth, dMakeK, pl_lint, pl_tint, eqv_lint, eqv_tint, decide_true, decide_false, dForJ, djT, djItems, djEnum, djZip, seqJ, dLCG, dLCG2, gMul, gMin1, gMax1, dEnum, dLC, dLCM, dYes, wipeD, dFld, fldOf, dSetF, putD, dMake, dMakeM, mkQ, mkQM, dProp, isOf, gIsC, gIn, gIn2, dDct, gSorted, asI, gRepr, dCallKw, pick, List.filterMap_cons, List.filterMap_nil, List.getElem?_nil, dSeq, dNext, dRet, dRetN, dIfS, dAsg, dgName, dgTup, dgCons, dgNil, dgSub, dPar, dAug, dDrop, dBreak, dCont, dNever, dOp, gI, gT, gPlus, gAdd, gEq, gNe, gIs, gIsNot, gIs2, gIsNot2, gIx, dV, dC, dB, dAnd, dOr, dNot, dAndV, dOrV, dNotV, dIf, dNeg, dChain, dNil, dCons, dTup, dLst, dLstM, dNoPart, dPart, dSl, dCB, dCall, gLen, gAbs, g2, gInt, gStr, gDivmod, gIsTy, gTuple, gList, gSum, gAll, gAny, dAppend, dItems, itemsOf, dRange1, dRange2, dFor, D.onB, D.tyn, D.isNon, asL, rsv, kb_di, kb_db, kb_ds, kb_dt, kb_dl, kb_ii, kb_bi, kb_ni, kb_si, kb_ti, kb_li, kb_ib, kb_bb, kb_nb, kb_sb, kb_tb, kb_lb, kb_is, kb_bs, kb_ns, kb_ss, kb_ts, kb_ls, kb_it, kb_bt, kb_nt, kb_st, kb_tt, kb_lt, startD, List.map_cons, List.map_nil, List.length_cons, List.length_nil, List.cons_append, List.nil_append, List.replicate, List.getElem?_cons_zero, List.getElem?_cons_succ, List.set_cons_zero, List.set_cons_succ, List.zip_cons_cons, List.zip_nil_right, List.foldl_cons, List.foldl_nil, Option.bind_some, Option.bind_none, um_same, um_um, Bool.false_eq_true, reduceCtorEq, false_implies, true_implies, forall_const, true_and, and_true, and_self, Bool.not_true, Bool.not_false, implies_true, decide_eq_true_eq, decide_eq_false_iff_not, Bool.not_eq_true, not_true_eq_false, not_false_eq_true, Bool.not_eq_true', Bool.not_eq_false', D.onB, sizeLine_eq, Nat.reduceAdd, Nat.reduceLeDiff, Nat.zero_add, Nat.reduceLT, pl_bl, pl_i, pl_n, eqv_bl, eqv_ii, eqv_nn, ints_inj, exists_eq_left', exists_eq_left, beq_iff_eq, beq_eq_false_iff_ne, ne_eq, true_or, or_true, false_or, or_false, false_and, and_false, if_true, if_false, List.lookup_cons, beq_self_eq_true, r2_root_shown, r3_root_shown, at0, at1, at2, at3, ix0, ix1, ix2, h1, h2]
  exact Wk.of h
theorem eqv_t2 (a b c d : Int) : D.eqv (.tup [.int a, .int b]) (.tup [.int c, .int d]) = (decide (a = c) && decide (b = d)) := by
  rw [show D.eqv (.tup [.int a, .int b]) (.tup [.int c, .int d]) = decide ([a, b] = [c, d]) from eqv_tint [a, b] [c, d], ← Bool.decide_and, decide_eq_decide]
  simp
theorem sh_least {c : D} {M : Mp} {Q : DK} {XE : XE'} {d w i j x0 y0 : Int} {ts : List Int} (hc : D.solid c = true) (s : Sol d w ts x0 y0) (h : Q (.bl (sameB c (paperD w ts) && (decide (i = x0) && decide (j = y0)))) M) :
    r2_root_shown (fnW XE) { nx := fun _ M' => Wk (Q .non) M', rt := fun d M' => Wk (Q d) M' } [some (.tup [.str "least", .int d, .int i, .int j]), some c, some (.int d), some (.int i), some (.int j)] M := by
  have h1 : (("least" : Str) = "solution") = False := by decide
  have it : itree 4 (paperD w ts) = true := by
    simp only [paperD, itree, List.all_cons, List.all_nil, Bool.and_true, Bool.true_and, List.length_map, Bool.and_eq_true, decide_eq_true_eq, List.all_map, List.length_cons, List.length_nil]
    refine ⟨by decide, by have := s.ln; omega, ?_⟩
    rw [List.all_eq_true]
    intro t _
    rfl
  unfold r2_root_shown r3_root_shown
  simp (config := { decide := false }) only [dMeth, dMakeK, pl_lint, pl_tint, eqv_lint, eqv_tint, decide_true, decide_false, dForJ, djT, djItems, djEnum, djZip, seqJ, dLCG, dLCG2, gMul, gMin1, gMax1, dEnum, dLC, dLCM, dYes, wipeD, dFld, fldOf, dSetF, putD, dMake, dMakeM, mkQ, mkQM, dProp, isOf, gIsC, gIn, gIn2, dDct, gSorted, asI, gRepr, dCallKw, pick, List.filterMap_cons, List.filterMap_nil, List.getElem?_nil, dSeq, dNext, dRet, dRetN, dIfS, dAsg, dgName, dgTup, dgCons, dgNil, dgSub, dPar, dAug, dDrop, dBreak, dCont, dNever, dOp, gI, gT, gPlus, gAdd, gEq, gNe, gIs, gIsNot, gIs2, gIsNot2, gIx, dV, dC, dB, dAnd, dOr, dNot, dAndV, dOrV, dNotV, dIf, dNeg, dChain, dNil, dCons, dTup, dLst, dLstM, dNoPart, dPart, dSl, dCB, dCall, gLen, gAbs, g2, gInt, gStr, gDivmod, gIsTy, gTuple, gList, gSum, gAll, gAny, dAppend, dItems, itemsOf, dRange1, dRange2, dFor, D.onB, D.tyn, D.isNon, asL, rsv, kb_di, kb_db, kb_ds, kb_dt, kb_dl, kb_ii, kb_bi, kb_ni, kb_si, kb_ti, kb_li, kb_ib, kb_bb, kb_nb, kb_sb, kb_tb, kb_lb, kb_is, kb_bs, kb_ns, kb_ss, kb_ts, kb_ls, kb_it, kb_bt, kb_nt, kb_st, kb_tt, kb_lt, startD, List.map_cons, List.map_nil, List.length_cons, List.length_nil, List.cons_append, List.nil_append, List.replicate, List.getElem?_cons_zero, List.getElem?_cons_succ, List.set_cons_zero, List.set_cons_succ, List.zip_cons_cons, List.zip_nil_right, List.foldl_cons, List.foldl_nil, Option.bind_some, Option.bind_none, um_same, um_um, Bool.false_eq_true, reduceCtorEq, false_implies, true_implies, forall_const, true_and, and_true, and_self, Bool.not_true, Bool.not_false, implies_true, decide_eq_true_eq, decide_eq_false_iff_not, Bool.not_eq_true, not_true_eq_false, not_false_eq_true, Bool.not_eq_true', Bool.not_eq_false', D.onB, sizeLine_eq, Nat.reduceAdd, Nat.reduceLeDiff, Nat.zero_add, Nat.reduceLT, pl_bl, pl_i, pl_n, eqv_bl, eqv_ii, eqv_nn, ints_inj, exists_eq_left', exists_eq_left, beq_iff_eq, beq_eq_false_iff_ne, ne_eq, true_or, or_true, false_or, or_false, false_and, and_false, if_true, if_false, List.lookup_cons, beq_self_eq_true, at0, at1, at2, at3, ix0, ix1, ix2, eq_self, h1, sp_fraction_of, sp_is_same]
  refine ⟨w, ts, s.cf, hc, it, ?_⟩
  unfold paperD at h
  generalize sameB c (.tup [.int w, .tup (ts.map .int)]) = b at h ⊢
  cases b with
  | false => simp (config := { decide := false }) only [dMeth, dMakeK, pl_lint, pl_tint, eqv_lint, eqv_tint, decide_true, decide_false, dForJ, djT, djItems, djEnum, djZip, seqJ, dLCG, dLCG2, gMul, gMin1, gMax1, dEnum, dLC, dLCM, dYes, wipeD, dFld, fldOf, dSetF, putD, dMake, dMakeM, mkQ, mkQM, dProp, isOf, gIsC, gIn, gIn2, dDct, gSorted, asI, gRepr, dCallKw, pick, List.filterMap_cons, List.filterMap_nil, List.getElem?_nil, dSeq, dNext, dRet, dRetN, dIfS, dAsg, dgName, dgTup, dgCons, dgNil, dgSub, dPar, dAug, dDrop, dBreak, dCont, dNever, dOp, gI, gT, gPlus, gAdd, gEq, gNe, gIs, gIsNot, gIs2, gIsNot2, gIx, dV, dC, dB, dAnd, dOr, dNot, dAndV, dOrV, dNotV, dIf, dNeg, dChain, dNil, dCons, dTup, dLst, dLstM, dNoPart, dPart, dSl, dCB, dCall, gLen, gAbs, g2, gInt, gStr, gDivmod, gIsTy, gTuple, gList, gSum, gAll, gAny, dAppend, dItems, itemsOf, dRange1, dRange2, dFor, D.onB, D.tyn, D.isNon, asL, rsv, kb_di, kb_db, kb_ds, kb_dt, kb_dl, kb_ii, kb_bi, kb_ni, kb_si, kb_ti, kb_li, kb_ib, kb_bb, kb_nb, kb_sb, kb_tb, kb_lb, kb_is, kb_bs, kb_ns, kb_ss, kb_ts, kb_ls, kb_it, kb_bt, kb_nt, kb_st, kb_tt, kb_lt, startD, List.map_cons, List.map_nil, List.length_cons, List.length_nil, List.cons_append, List.nil_append, List.replicate, List.getElem?_cons_zero, List.getElem?_cons_succ, List.set_cons_zero, List.set_cons_succ, List.zip_cons_cons, List.zip_nil_right, List.foldl_cons, List.foldl_nil, Option.bind_some, Option.bind_none, um_same, um_um, Bool.false_eq_true, reduceCtorEq, false_implies, true_implies, forall_const, true_and, and_true, and_self, Bool.not_true, Bool.not_false, implies_true, decide_eq_true_eq, decide_eq_false_iff_not, Bool.not_eq_true, not_true_eq_false, not_false_eq_true, Bool.not_eq_true', Bool.not_eq_false', D.onB, sizeLine_eq, Nat.reduceAdd, Nat.reduceLeDiff, Nat.zero_add, Nat.reduceLT, pl_bl, pl_i, pl_n, eqv_bl, eqv_ii, eqv_nn, ints_inj, exists_eq_left', exists_eq_left, beq_iff_eq, beq_eq_false_iff_ne, ne_eq, true_or, or_true, false_or, or_false, false_and, and_false, if_true, if_false, List.lookup_cons, beq_self_eq_true]; exact Wk.of h
  | true =>
    simp (config := { decide := false }) only [dMeth, dMakeK, pl_lint, pl_tint, eqv_lint, eqv_tint, decide_true, decide_false, dForJ, djT, djItems, djEnum, djZip, seqJ, dLCG, dLCG2, gMul, gMin1, gMax1, dEnum, dLC, dLCM, dYes, wipeD, dFld, fldOf, dSetF, putD, dMake, dMakeM, mkQ, mkQM, dProp, isOf, gIsC, gIn, gIn2, dDct, gSorted, asI, gRepr, dCallKw, pick, List.filterMap_cons, List.filterMap_nil, List.getElem?_nil, dSeq, dNext, dRet, dRetN, dIfS, dAsg, dgName, dgTup, dgCons, dgNil, dgSub, dPar, dAug, dDrop, dBreak, dCont, dNever, dOp, gI, gT, gPlus, gAdd, gEq, gNe, gIs, gIsNot, gIs2, gIsNot2, gIx, dV, dC, dB, dAnd, dOr, dNot, dAndV, dOrV, dNotV, dIf, dNeg, dChain, dNil, dCons, dTup, dLst, dLstM, dNoPart, dPart, dSl, dCB, dCall, gLen, gAbs, g2, gInt, gStr, gDivmod, gIsTy, gTuple, gList, gSum, gAll, gAny, dAppend, dItems, itemsOf, dRange1, dRange2, dFor, D.onB, D.tyn, D.isNon, asL, rsv, kb_di, kb_db, kb_ds, kb_dt, kb_dl, kb_ii, kb_bi, kb_ni, kb_si, kb_ti, kb_li, kb_ib, kb_bb, kb_nb, kb_sb, kb_tb, kb_lb, kb_is, kb_bs, kb_ns, kb_ss, kb_ts, kb_ls, kb_it, kb_bt, kb_nt, kb_st, kb_tt, kb_lt, startD, List.map_cons, List.map_nil, List.length_cons, List.length_nil, List.cons_append, List.nil_append, List.replicate, List.getElem?_cons_zero, List.getElem?_cons_succ, List.set_cons_zero, List.set_cons_succ, List.zip_cons_cons, List.zip_nil_right, List.foldl_cons, List.foldl_nil, Option.bind_some, Option.bind_none, um_same, um_um, Bool.false_eq_true, reduceCtorEq, false_implies, true_implies, forall_const, true_and, and_true, and_self, Bool.not_true, Bool.not_false, implies_true, decide_eq_true_eq, decide_eq_false_iff_not, Bool.not_eq_true, not_true_eq_false, not_false_eq_true, Bool.not_eq_true', Bool.not_eq_false', D.onB, sizeLine_eq, Nat.reduceAdd, Nat.reduceLeDiff, Nat.zero_add, Nat.reduceLT, pl_bl, pl_i, pl_n, eqv_bl, eqv_ii, eqv_nn, ints_inj, exists_eq_left', exists_eq_left, beq_iff_eq, beq_eq_false_iff_ne, ne_eq, true_or, or_true, false_or, or_false, false_and, and_false, if_true, if_false, List.lookup_cons, beq_self_eq_true, sp_least_of]
    refine ⟨w, ts, s.cf, s.ne, s.bd, by have := s.ln; omega, ?_⟩
    rw [s.ls]
    simp (config := { decide := false }) only [dMeth, dMakeK, pl_lint, pl_tint, eqv_lint, eqv_tint, decide_true, decide_false, dForJ, djT, djItems, djEnum, djZip, seqJ, dLCG, dLCG2, gMul, gMin1, gMax1, dEnum, dLC, dLCM, dYes, wipeD, dFld, fldOf, dSetF, putD, dMake, dMakeM, mkQ, mkQM, dProp, isOf, gIsC, gIn, gIn2, dDct, gSorted, asI, gRepr, dCallKw, pick, List.filterMap_cons, List.filterMap_nil, List.getElem?_nil, dSeq, dNext, dRet, dRetN, dIfS, dAsg, dgName, dgTup, dgCons, dgNil, dgSub, dPar, dAug, dDrop, dBreak, dCont, dNever, dOp, gI, gT, gPlus, gAdd, gEq, gNe, gIs, gIsNot, gIs2, gIsNot2, gIx, dV, dC, dB, dAnd, dOr, dNot, dAndV, dOrV, dNotV, dIf, dNeg, dChain, dNil, dCons, dTup, dLst, dLstM, dNoPart, dPart, dSl, dCB, dCall, gLen, gAbs, g2, gInt, gStr, gDivmod, gIsTy, gTuple, gList, gSum, gAll, gAny, dAppend, dItems, itemsOf, dRange1, dRange2, dFor, D.onB, D.tyn, D.isNon, asL, rsv, kb_di, kb_db, kb_ds, kb_dt, kb_dl, kb_ii, kb_bi, kb_ni, kb_si, kb_ti, kb_li, kb_ib, kb_bb, kb_nb, kb_sb, kb_tb, kb_lb, kb_is, kb_bs, kb_ns, kb_ss, kb_ts, kb_ls, kb_it, kb_bt, kb_nt, kb_st, kb_tt, kb_lt, startD, List.map_cons, List.map_nil, List.length_cons, List.length_nil, List.cons_append, List.nil_append, List.replicate, List.getElem?_cons_zero, List.getElem?_cons_succ, List.set_cons_zero, List.set_cons_succ, List.zip_cons_cons, List.zip_nil_right, List.foldl_cons, List.foldl_nil, Option.bind_some, Option.bind_none, um_same, um_um, Bool.false_eq_true, reduceCtorEq, false_implies, true_implies, forall_const, true_and, and_true, and_self, Bool.not_true, Bool.not_false, implies_true, decide_eq_true_eq, decide_eq_false_iff_not, Bool.not_eq_true, not_true_eq_false, not_false_eq_true, Bool.not_eq_true', Bool.not_eq_false', D.onB, sizeLine_eq, Nat.reduceAdd, Nat.reduceLeDiff, Nat.zero_add, Nat.reduceLT, pl_bl, pl_i, pl_n, eqv_bl, eqv_ii, eqv_nn, ints_inj, exists_eq_left', exists_eq_left, beq_iff_eq, beq_eq_false_iff_ne, ne_eq, true_or, or_true, false_or, or_false, false_and, and_false, if_true, if_false, List.lookup_cons, beq_self_eq_true]
    rw [eqv_t2]
    exact ⟨⟨by simp [D.pl, pls], by simp [D.pl, pls]⟩, Wk.of h⟩
theorem cut4 (a b c d : D) : cutL [a, b, c, d] (some 1) none = [b, c, d] := by
  simp [cutL, HT.sIx]
theorem rt_of {d w : Int} (rt : Rt d w) {P : Prop} (h : P) {Z : Prop} : ∀ i, D.int d = D.int i → 2 ≤ i → i ≤ 1000000 → ∀ s, Fl i s → (s * s = i → Z) ∧ (¬s * s = i → P) := fun i e _ _ s hs => by
  injection e with e
  subst e
  obtain rfl := hs.uniq rt.1
  exact ⟨fun c => absurd c rt.2.2.2, fun _ => h⟩
theorem pure_root_shown (ds : List D) (M : Mp) (Q : DK) (E : XE') (h : sp_root_shown ds M Q E) : t_root_shown (fnW E) { nx := fun _ M' => Wk (Q .non) M', rt := fun d M' => Wk (Q d) M' } (startD N_root_shown ds) M := by
  unfold sp_root_shown at h
  split at h
  rotate_left
  · exact h.elim
  rename_i xs c
  obtain ⟨wd, r, x, y, hxs, ⟨hr, hx, hy, hc⟩, b, sh, h⟩ := h
  have ec := cut4 (D.str wd) r x y
  rw [← hxs] at ec
  unfold t_root_shown
  simp (config := { decide := false }) only [dMeth, dMakeK, pl_lint, pl_tint, eqv_lint, eqv_tint, decide_true, decide_false, dForJ, djT, djItems, djEnum, djZip, seqJ, dLCG, dLCG2, gMul, gMin1, gMax1, dEnum, dLC, dLCM, dYes, wipeD, dFld, fldOf, dSetF, putD, dMake, dMakeM, mkQ, mkQM, dProp, isOf, gIsC, gIn, gIn2, dDct, gSorted, asI, gRepr, dCallKw, pick, List.filterMap_cons, List.filterMap_nil, List.getElem?_nil, dSeq, dNext, dRet, dRetN, dIfS, dAsg, dgName, dgTup, dgCons, dgNil, dgSub, dPar, dAug, dDrop, dBreak, dCont, dNever, dOp, gI, gT, gPlus, gAdd, gEq, gNe, gIs, gIsNot, gIs2, gIsNot2, gIx, dV, dC, dB, dAnd, dOr, dNot, dAndV, dOrV, dNotV, dIf, dNeg, dChain, dNil, dCons, dTup, dLst, dLstM, dNoPart, dPart, dSl, dCB, dCall, gLen, gAbs, g2, gInt, gStr, gDivmod, gIsTy, gTuple, gList, gSum, gAll, gAny, dAppend, dItems, itemsOf, dRange1, dRange2, dFor, D.onB, D.tyn, D.isNon, asL, rsv, kb_di, kb_db, kb_ds, kb_dt, kb_dl, kb_ii, kb_bi, kb_ni, kb_si, kb_ti, kb_li, kb_ib, kb_bb, kb_nb, kb_sb, kb_tb, kb_lb, kb_is, kb_bs, kb_ns, kb_ss, kb_ts, kb_ls, kb_it, kb_bt, kb_nt, kb_st, kb_tt, kb_lt, startD, List.map_cons, List.map_nil, List.length_cons, List.length_nil, List.cons_append, List.nil_append, List.replicate, List.getElem?_cons_zero, List.getElem?_cons_succ, List.set_cons_zero, List.set_cons_succ, List.zip_cons_cons, List.zip_nil_right, List.foldl_cons, List.foldl_nil, Option.bind_some, Option.bind_none, um_same, um_um, Bool.false_eq_true, reduceCtorEq, false_implies, true_implies, forall_const, true_and, and_true, and_self, Bool.not_true, Bool.not_false, implies_true, decide_eq_true_eq, decide_eq_false_iff_not, Bool.not_eq_true, not_true_eq_false, not_false_eq_true, Bool.not_eq_true', Bool.not_eq_false', D.onB, sizeLine_eq, Nat.reduceAdd, Nat.reduceLeDiff, Nat.zero_add, Nat.reduceLT, pl_bl, pl_i, pl_n, eqv_bl, eqv_ii, eqv_nn, ints_inj, exists_eq_left', exists_eq_left, beq_iff_eq, beq_eq_false_iff_ne, ne_eq, true_or, or_true, false_or, or_false, false_and, and_false, if_true, if_false, List.lookup_cons, beq_self_eq_true, ec]
  subst hxs
  have tr := solid_tyn (M := M) hr
  have tx := solid_tyn (M := M) hx
  have ty := solid_tyn (M := M) hy
  clear ec
  cases sh with
  | noRoot hn =>
    have wi : ∀ i, r = .int i → 2 ≤ i → i ≤ 1000000 → False := fun i e a b => by subst e; simp [D.within, a, b] at hn
    simp (config := { decide := false }) only [dMeth, dMakeK, pl_lint, pl_tint, eqv_lint, eqv_tint, decide_true, decide_false, dForJ, djT, djItems, djEnum, djZip, seqJ, dLCG, dLCG2, gMul, gMin1, gMax1, dEnum, dLC, dLCM, dYes, wipeD, dFld, fldOf, dSetF, putD, dMake, dMakeM, mkQ, mkQM, dProp, isOf, gIsC, gIn, gIn2, dDct, gSorted, asI, gRepr, dCallKw, pick, List.filterMap_cons, List.filterMap_nil, List.getElem?_nil, dSeq, dNext, dRet, dRetN, dIfS, dAsg, dgName, dgTup, dgCons, dgNil, dgSub, dPar, dAug, dDrop, dBreak, dCont, dNever, dOp, gI, gT, gPlus, gAdd, gEq, gNe, gIs, gIsNot, gIs2, gIsNot2, gIx, dV, dC, dB, dAnd, dOr, dNot, dAndV, dOrV, dNotV, dIf, dNeg, dChain, dNil, dCons, dTup, dLst, dLstM, dNoPart, dPart, dSl, dCB, dCall, gLen, gAbs, g2, gInt, gStr, gDivmod, gIsTy, gTuple, gList, gSum, gAll, gAny, dAppend, dItems, itemsOf, dRange1, dRange2, dFor, D.onB, D.tyn, D.isNon, asL, rsv, kb_di, kb_db, kb_ds, kb_dt, kb_dl, kb_ii, kb_bi, kb_ni, kb_si, kb_ti, kb_li, kb_ib, kb_bb, kb_nb, kb_sb, kb_tb, kb_lb, kb_is, kb_bs, kb_ns, kb_ss, kb_ts, kb_ls, kb_it, kb_bt, kb_nt, kb_st, kb_tt, kb_lt, startD, List.map_cons, List.map_nil, List.length_cons, List.length_nil, List.cons_append, List.nil_append, List.replicate, List.getElem?_cons_zero, List.getElem?_cons_succ, List.set_cons_zero, List.set_cons_succ, List.zip_cons_cons, List.zip_nil_right, List.foldl_cons, List.foldl_nil, Option.bind_some, Option.bind_none, um_same, um_um, Bool.false_eq_true, reduceCtorEq, false_implies, true_implies, forall_const, true_and, and_true, and_self, Bool.not_true, Bool.not_false, implies_true, decide_eq_true_eq, decide_eq_false_iff_not, Bool.not_eq_true, not_true_eq_false, not_false_eq_true, Bool.not_eq_true', Bool.not_eq_false', D.onB, sizeLine_eq, Nat.reduceAdd, Nat.reduceLeDiff, Nat.zero_add, Nat.reduceLT, pl_bl, pl_i, pl_n, eqv_bl, eqv_ii, eqv_nn, ints_inj, exists_eq_left', exists_eq_left, beq_iff_eq, beq_eq_false_iff_ne, ne_eq, true_or, or_true, false_or, or_false, false_and, and_false, if_true, if_false, List.lookup_cons, beq_self_eq_true, r1_root_shown, sp_is_root]
    exact ⟨tr, fun _ => Wk.of h, fun i e a b => (wi i e a b).elim⟩
  | square d w hd hb ew =>
    subst hd
    have wt : D.within (.int d) 2 1000000 = true := by simp [D.within, hb.1, hb.2]
    simp (config := { decide := false }) only [dMeth, dMakeK, pl_lint, pl_tint, eqv_lint, eqv_tint, decide_true, decide_false, dForJ, djT, djItems, djEnum, djZip, seqJ, dLCG, dLCG2, gMul, gMin1, gMax1, dEnum, dLC, dLCM, dYes, wipeD, dFld, fldOf, dSetF, putD, dMake, dMakeM, mkQ, mkQM, dProp, isOf, gIsC, gIn, gIn2, dDct, gSorted, asI, gRepr, dCallKw, pick, List.filterMap_cons, List.filterMap_nil, List.getElem?_nil, dSeq, dNext, dRet, dRetN, dIfS, dAsg, dgName, dgTup, dgCons, dgNil, dgSub, dPar, dAug, dDrop, dBreak, dCont, dNever, dOp, gI, gT, gPlus, gAdd, gEq, gNe, gIs, gIsNot, gIs2, gIsNot2, gIx, dV, dC, dB, dAnd, dOr, dNot, dAndV, dOrV, dNotV, dIf, dNeg, dChain, dNil, dCons, dTup, dLst, dLstM, dNoPart, dPart, dSl, dCB, dCall, gLen, gAbs, g2, gInt, gStr, gDivmod, gIsTy, gTuple, gList, gSum, gAll, gAny, dAppend, dItems, itemsOf, dRange1, dRange2, dFor, D.onB, D.tyn, D.isNon, asL, rsv, kb_di, kb_db, kb_ds, kb_dt, kb_dl, kb_ii, kb_bi, kb_ni, kb_si, kb_ti, kb_li, kb_ib, kb_bb, kb_nb, kb_sb, kb_tb, kb_lb, kb_is, kb_bs, kb_ns, kb_ss, kb_ts, kb_ls, kb_it, kb_bt, kb_nt, kb_st, kb_tt, kb_lt, startD, List.map_cons, List.map_nil, List.length_cons, List.length_nil, List.cons_append, List.nil_append, List.replicate, List.getElem?_cons_zero, List.getElem?_cons_succ, List.set_cons_zero, List.set_cons_succ, List.zip_cons_cons, List.zip_nil_right, List.foldl_cons, List.foldl_nil, Option.bind_some, Option.bind_none, um_same, um_um, Bool.false_eq_true, reduceCtorEq, false_implies, true_implies, forall_const, true_and, and_true, and_self, Bool.not_true, Bool.not_false, implies_true, decide_eq_true_eq, decide_eq_false_iff_not, Bool.not_eq_true, not_true_eq_false, not_false_eq_true, Bool.not_eq_true', Bool.not_eq_false', D.onB, sizeLine_eq, Nat.reduceAdd, Nat.reduceLeDiff, Nat.zero_add, Nat.reduceLT, pl_bl, pl_i, pl_n, eqv_bl, eqv_ii, eqv_nn, ints_inj, exists_eq_left', exists_eq_left, beq_iff_eq, beq_eq_false_iff_ne, ne_eq, true_or, or_true, false_or, or_false, false_and, and_false, if_true, if_false, List.lookup_cons, beq_self_eq_true, r1_root_shown, sp_is_root, wt]
    refine fun i e _ _ s hs => ⟨fun _ => Wk.of h, fun c => absurd ?_ c⟩
    injection e with e
    subst e
    have e2 : ((w.natAbs : Nat) : Int) * ((w.natAbs : Nat) : Int) = d := by rw [Int.natAbs_mul_self', ew]
    have fl1 : Fl d ((w.natAbs : Nat) : Int) := by
      refine ⟨Int.natCast_nonneg _, by omega, ?_⟩
      have : (((w.natAbs : Nat) : Int) + 1) * (((w.natAbs : Nat) : Int) + 1) = ((w.natAbs : Nat) : Int) * ((w.natAbs : Nat) : Int) + 2 * ((w.natAbs : Nat) : Int) + 1 := by
        generalize ((w.natAbs : Nat) : Int) = z
        rw [Int.add_mul, Int.mul_add]; omega
      omega
    obtain rfl := hs.uniq fl1
    exact e2
  | noNum d w hd rt hp =>
    subst hd
    have wt : D.within (.int d) 2 1000000 = true := by simp [D.within, rt.2.1, rt.2.2.1]
    simp (config := { decide := false }) only [dMeth, dMakeK, pl_lint, pl_tint, eqv_lint, eqv_tint, decide_true, decide_false, dForJ, djT, djItems, djEnum, djZip, seqJ, dLCG, dLCG2, gMul, gMin1, gMax1, dEnum, dLC, dLCM, dYes, wipeD, dFld, fldOf, dSetF, putD, dMake, dMakeM, mkQ, mkQM, dProp, isOf, gIsC, gIn, gIn2, dDct, gSorted, asI, gRepr, dCallKw, pick, List.filterMap_cons, List.filterMap_nil, List.getElem?_nil, dSeq, dNext, dRet, dRetN, dIfS, dAsg, dgName, dgTup, dgCons, dgNil, dgSub, dPar, dAug, dDrop, dBreak, dCont, dNever, dOp, gI, gT, gPlus, gAdd, gEq, gNe, gIs, gIsNot, gIs2, gIsNot2, gIx, dV, dC, dB, dAnd, dOr, dNot, dAndV, dOrV, dNotV, dIf, dNeg, dChain, dNil, dCons, dTup, dLst, dLstM, dNoPart, dPart, dSl, dCB, dCall, gLen, gAbs, g2, gInt, gStr, gDivmod, gIsTy, gTuple, gList, gSum, gAll, gAny, dAppend, dItems, itemsOf, dRange1, dRange2, dFor, D.onB, D.tyn, D.isNon, asL, rsv, kb_di, kb_db, kb_ds, kb_dt, kb_dl, kb_ii, kb_bi, kb_ni, kb_si, kb_ti, kb_li, kb_ib, kb_bb, kb_nb, kb_sb, kb_tb, kb_lb, kb_is, kb_bs, kb_ns, kb_ss, kb_ts, kb_ls, kb_it, kb_bt, kb_nt, kb_st, kb_tt, kb_lt, startD, List.map_cons, List.map_nil, List.length_cons, List.length_nil, List.cons_append, List.nil_append, List.replicate, List.getElem?_cons_zero, List.getElem?_cons_succ, List.set_cons_zero, List.set_cons_succ, List.zip_cons_cons, List.zip_nil_right, List.foldl_cons, List.foldl_nil, Option.bind_some, Option.bind_none, um_same, um_um, Bool.false_eq_true, reduceCtorEq, false_implies, true_implies, forall_const, true_and, and_true, and_self, Bool.not_true, Bool.not_false, implies_true, decide_eq_true_eq, decide_eq_false_iff_not, Bool.not_eq_true, not_true_eq_false, not_false_eq_true, Bool.not_eq_true', Bool.not_eq_false', D.onB, sizeLine_eq, Nat.reduceAdd, Nat.reduceLeDiff, Nat.zero_add, Nat.reduceLT, pl_bl, pl_i, pl_n, eqv_bl, eqv_ii, eqv_nn, ints_inj, exists_eq_left', exists_eq_left, beq_iff_eq, beq_eq_false_iff_ne, ne_eq, true_or, or_true, false_or, or_false, false_and, and_false, if_true, if_false, List.lookup_cons, beq_self_eq_true, r1_root_shown, sp_is_root, sp_is_number, wt]
    refine rt_of rt ⟨tx, ?_⟩
    cases x with
    | int i =>
      simp (config := { decide := false }) only [dMeth, dMakeK, pl_lint, pl_tint, eqv_lint, eqv_tint, decide_true, decide_false, dForJ, djT, djItems, djEnum, djZip, seqJ, dLCG, dLCG2, gMul, gMin1, gMax1, dEnum, dLC, dLCM, dYes, wipeD, dFld, fldOf, dSetF, putD, dMake, dMakeM, mkQ, mkQM, dProp, isOf, gIsC, gIn, gIn2, dDct, gSorted, asI, gRepr, dCallKw, pick, List.filterMap_cons, List.filterMap_nil, List.getElem?_nil, dSeq, dNext, dRet, dRetN, dIfS, dAsg, dgName, dgTup, dgCons, dgNil, dgSub, dPar, dAug, dDrop, dBreak, dCont, dNever, dOp, gI, gT, gPlus, gAdd, gEq, gNe, gIs, gIsNot, gIs2, gIsNot2, gIx, dV, dC, dB, dAnd, dOr, dNot, dAndV, dOrV, dNotV, dIf, dNeg, dChain, dNil, dCons, dTup, dLst, dLstM, dNoPart, dPart, dSl, dCB, dCall, gLen, gAbs, g2, gInt, gStr, gDivmod, gIsTy, gTuple, gList, gSum, gAll, gAny, dAppend, dItems, itemsOf, dRange1, dRange2, dFor, D.onB, D.tyn, D.isNon, asL, rsv, kb_di, kb_db, kb_ds, kb_dt, kb_dl, kb_ii, kb_bi, kb_ni, kb_si, kb_ti, kb_li, kb_ib, kb_bb, kb_nb, kb_sb, kb_tb, kb_lb, kb_is, kb_bs, kb_ns, kb_ss, kb_ts, kb_ls, kb_it, kb_bt, kb_nt, kb_st, kb_tt, kb_lt, startD, List.map_cons, List.map_nil, List.length_cons, List.length_nil, List.cons_append, List.nil_append, List.replicate, List.getElem?_cons_zero, List.getElem?_cons_succ, List.set_cons_zero, List.set_cons_succ, List.zip_cons_cons, List.zip_nil_right, List.foldl_cons, List.foldl_nil, Option.bind_some, Option.bind_none, um_same, um_um, Bool.false_eq_true, reduceCtorEq, false_implies, true_implies, forall_const, true_and, and_true, and_self, Bool.not_true, Bool.not_false, implies_true, decide_eq_true_eq, decide_eq_false_iff_not, Bool.not_eq_true, not_true_eq_false, not_false_eq_true, Bool.not_eq_true', Bool.not_eq_false', D.onB, sizeLine_eq, Nat.reduceAdd, Nat.reduceLeDiff, Nat.zero_add, Nat.reduceLT, pl_bl, pl_i, pl_n, eqv_bl, eqv_ii, eqv_nn, ints_inj, exists_eq_left', exists_eq_left, beq_iff_eq, beq_eq_false_iff_ne, ne_eq, true_or, or_true, false_or, or_false, false_and, and_false, if_true, if_false, List.lookup_cons, beq_self_eq_true]
      refine ⟨fun _ => Wk.of h, fun hi => ⟨ty, ?_⟩⟩
      have hy : posB y = false := by rcases hp with z | z; exact absurd z (by simp [posB, hi]); exact z
      cases y with
      | int j =>
        simp (config := { decide := false }) only [dMeth, dMakeK, pl_lint, pl_tint, eqv_lint, eqv_tint, decide_true, decide_false, dForJ, djT, djItems, djEnum, djZip, seqJ, dLCG, dLCG2, gMul, gMin1, gMax1, dEnum, dLC, dLCM, dYes, wipeD, dFld, fldOf, dSetF, putD, dMake, dMakeM, mkQ, mkQM, dProp, isOf, gIsC, gIn, gIn2, dDct, gSorted, asI, gRepr, dCallKw, pick, List.filterMap_cons, List.filterMap_nil, List.getElem?_nil, dSeq, dNext, dRet, dRetN, dIfS, dAsg, dgName, dgTup, dgCons, dgNil, dgSub, dPar, dAug, dDrop, dBreak, dCont, dNever, dOp, gI, gT, gPlus, gAdd, gEq, gNe, gIs, gIsNot, gIs2, gIsNot2, gIx, dV, dC, dB, dAnd, dOr, dNot, dAndV, dOrV, dNotV, dIf, dNeg, dChain, dNil, dCons, dTup, dLst, dLstM, dNoPart, dPart, dSl, dCB, dCall, gLen, gAbs, g2, gInt, gStr, gDivmod, gIsTy, gTuple, gList, gSum, gAll, gAny, dAppend, dItems, itemsOf, dRange1, dRange2, dFor, D.onB, D.tyn, D.isNon, asL, rsv, kb_di, kb_db, kb_ds, kb_dt, kb_dl, kb_ii, kb_bi, kb_ni, kb_si, kb_ti, kb_li, kb_ib, kb_bb, kb_nb, kb_sb, kb_tb, kb_lb, kb_is, kb_bs, kb_ns, kb_ss, kb_ts, kb_ls, kb_it, kb_bt, kb_nt, kb_st, kb_tt, kb_lt, startD, List.map_cons, List.map_nil, List.length_cons, List.length_nil, List.cons_append, List.nil_append, List.replicate, List.getElem?_cons_zero, List.getElem?_cons_succ, List.set_cons_zero, List.set_cons_succ, List.zip_cons_cons, List.zip_nil_right, List.foldl_cons, List.foldl_nil, Option.bind_some, Option.bind_none, um_same, um_um, Bool.false_eq_true, reduceCtorEq, false_implies, true_implies, forall_const, true_and, and_true, and_self, Bool.not_true, Bool.not_false, implies_true, decide_eq_true_eq, decide_eq_false_iff_not, Bool.not_eq_true, not_true_eq_false, not_false_eq_true, Bool.not_eq_true', Bool.not_eq_false', D.onB, sizeLine_eq, Nat.reduceAdd, Nat.reduceLeDiff, Nat.zero_add, Nat.reduceLT, pl_bl, pl_i, pl_n, eqv_bl, eqv_ii, eqv_nn, ints_inj, exists_eq_left', exists_eq_left, beq_iff_eq, beq_eq_false_iff_ne, ne_eq, true_or, or_true, false_or, or_false, false_and, and_false, if_true, if_false, List.lookup_cons, beq_self_eq_true]
        refine ⟨fun _ => Wk.of h, fun hj => ?_⟩
        simp [posB, hj] at hy
      | _ => simp (config := { decide := false }) only [dMeth, dMakeK, pl_lint, pl_tint, eqv_lint, eqv_tint, decide_true, decide_false, dForJ, djT, djItems, djEnum, djZip, seqJ, dLCG, dLCG2, gMul, gMin1, gMax1, dEnum, dLC, dLCM, dYes, wipeD, dFld, fldOf, dSetF, putD, dMake, dMakeM, mkQ, mkQM, dProp, isOf, gIsC, gIn, gIn2, dDct, gSorted, asI, gRepr, dCallKw, pick, List.filterMap_cons, List.filterMap_nil, List.getElem?_nil, dSeq, dNext, dRet, dRetN, dIfS, dAsg, dgName, dgTup, dgCons, dgNil, dgSub, dPar, dAug, dDrop, dBreak, dCont, dNever, dOp, gI, gT, gPlus, gAdd, gEq, gNe, gIs, gIsNot, gIs2, gIsNot2, gIx, dV, dC, dB, dAnd, dOr, dNot, dAndV, dOrV, dNotV, dIf, dNeg, dChain, dNil, dCons, dTup, dLst, dLstM, dNoPart, dPart, dSl, dCB, dCall, gLen, gAbs, g2, gInt, gStr, gDivmod, gIsTy, gTuple, gList, gSum, gAll, gAny, dAppend, dItems, itemsOf, dRange1, dRange2, dFor, D.onB, D.tyn, D.isNon, asL, rsv, kb_di, kb_db, kb_ds, kb_dt, kb_dl, kb_ii, kb_bi, kb_ni, kb_si, kb_ti, kb_li, kb_ib, kb_bb, kb_nb, kb_sb, kb_tb, kb_lb, kb_is, kb_bs, kb_ns, kb_ss, kb_ts, kb_ls, kb_it, kb_bt, kb_nt, kb_st, kb_tt, kb_lt, startD, List.map_cons, List.map_nil, List.length_cons, List.length_nil, List.cons_append, List.nil_append, List.replicate, List.getElem?_cons_zero, List.getElem?_cons_succ, List.set_cons_zero, List.set_cons_succ, List.zip_cons_cons, List.zip_nil_right, List.foldl_cons, List.foldl_nil, Option.bind_some, Option.bind_none, um_same, um_um, Bool.false_eq_true, reduceCtorEq, false_implies, true_implies, forall_const, true_and, and_true, and_self, Bool.not_true, Bool.not_false, implies_true, decide_eq_true_eq, decide_eq_false_iff_not, Bool.not_eq_true, not_true_eq_false, not_false_eq_true, Bool.not_eq_true', Bool.not_eq_false', D.onB, sizeLine_eq, Nat.reduceAdd, Nat.reduceLeDiff, Nat.zero_add, Nat.reduceLT, pl_bl, pl_i, pl_n, eqv_bl, eqv_ii, eqv_nn, ints_inj, exists_eq_left', exists_eq_left, beq_iff_eq, beq_eq_false_iff_ne, ne_eq, true_or, or_true, false_or, or_false, false_and, and_false, if_true, if_false, List.lookup_cons, beq_self_eq_true]; exact Wk.of h
    | _ => simp (config := { decide := false }) only [dMeth, dMakeK, pl_lint, pl_tint, eqv_lint, eqv_tint, decide_true, decide_false, dForJ, djT, djItems, djEnum, djZip, seqJ, dLCG, dLCG2, gMul, gMin1, gMax1, dEnum, dLC, dLCM, dYes, wipeD, dFld, fldOf, dSetF, putD, dMake, dMakeM, mkQ, mkQM, dProp, isOf, gIsC, gIn, gIn2, dDct, gSorted, asI, gRepr, dCallKw, pick, List.filterMap_cons, List.filterMap_nil, List.getElem?_nil, dSeq, dNext, dRet, dRetN, dIfS, dAsg, dgName, dgTup, dgCons, dgNil, dgSub, dPar, dAug, dDrop, dBreak, dCont, dNever, dOp, gI, gT, gPlus, gAdd, gEq, gNe, gIs, gIsNot, gIs2, gIsNot2, gIx, dV, dC, dB, dAnd, dOr, dNot, dAndV, dOrV, dNotV, dIf, dNeg, dChain, dNil, dCons, dTup, dLst, dLstM, dNoPart, dPart, dSl, dCB, dCall, gLen, gAbs, g2, gInt, gStr, gDivmod, gIsTy, gTuple, gList, gSum, gAll, gAny, dAppend, dItems, itemsOf, dRange1, dRange2, dFor, D.onB, D.tyn, D.isNon, asL, rsv, kb_di, kb_db, kb_ds, kb_dt, kb_dl, kb_ii, kb_bi, kb_ni, kb_si, kb_ti, kb_li, kb_ib, kb_bb, kb_nb, kb_sb, kb_tb, kb_lb, kb_is, kb_bs, kb_ns, kb_ss, kb_ts, kb_ls, kb_it, kb_bt, kb_nt, kb_st, kb_tt, kb_lt, startD, List.map_cons, List.map_nil, List.length_cons, List.length_nil, List.cons_append, List.nil_append, List.replicate, List.getElem?_cons_zero, List.getElem?_cons_succ, List.set_cons_zero, List.set_cons_succ, List.zip_cons_cons, List.zip_nil_right, List.foldl_cons, List.foldl_nil, Option.bind_some, Option.bind_none, um_same, um_um, Bool.false_eq_true, reduceCtorEq, false_implies, true_implies, forall_const, true_and, and_true, and_self, Bool.not_true, Bool.not_false, implies_true, decide_eq_true_eq, decide_eq_false_iff_not, Bool.not_eq_true, not_true_eq_false, not_false_eq_true, Bool.not_eq_true', Bool.not_eq_false', D.onB, sizeLine_eq, Nat.reduceAdd, Nat.reduceLeDiff, Nat.zero_add, Nat.reduceLT, pl_bl, pl_i, pl_n, eqv_bl, eqv_ii, eqv_nn, ints_inj, exists_eq_left', exists_eq_left, beq_iff_eq, beq_eq_false_iff_ne, ne_eq, true_or, or_true, false_or, or_false, false_and, and_false, if_true, if_false, List.lookup_cons, beq_self_eq_true]; exact Wk.of h
  | sol d w i j hd rt hx hy p q hw =>
    subst hd hx hy hw
    have wt : D.within (.int d) 2 1000000 = true := by simp [D.within, rt.2.1, rt.2.2.1]
    simp (config := { decide := false }) only [dMeth, dMakeK, pl_lint, pl_tint, eqv_lint, eqv_tint, decide_true, decide_false, dForJ, djT, djItems, djEnum, djZip, seqJ, dLCG, dLCG2, gMul, gMin1, gMax1, dEnum, dLC, dLCM, dYes, wipeD, dFld, fldOf, dSetF, putD, dMake, dMakeM, mkQ, mkQM, dProp, isOf, gIsC, gIn, gIn2, dDct, gSorted, asI, gRepr, dCallKw, pick, List.filterMap_cons, List.filterMap_nil, List.getElem?_nil, dSeq, dNext, dRet, dRetN, dIfS, dAsg, dgName, dgTup, dgCons, dgNil, dgSub, dPar, dAug, dDrop, dBreak, dCont, dNever, dOp, gI, gT, gPlus, gAdd, gEq, gNe, gIs, gIsNot, gIs2, gIsNot2, gIx, dV, dC, dB, dAnd, dOr, dNot, dAndV, dOrV, dNotV, dIf, dNeg, dChain, dNil, dCons, dTup, dLst, dLstM, dNoPart, dPart, dSl, dCB, dCall, gLen, gAbs, g2, gInt, gStr, gDivmod, gIsTy, gTuple, gList, gSum, gAll, gAny, dAppend, dItems, itemsOf, dRange1, dRange2, dFor, D.onB, D.tyn, D.isNon, asL, rsv, kb_di, kb_db, kb_ds, kb_dt, kb_dl, kb_ii, kb_bi, kb_ni, kb_si, kb_ti, kb_li, kb_ib, kb_bb, kb_nb, kb_sb, kb_tb, kb_lb, kb_is, kb_bs, kb_ns, kb_ss, kb_ts, kb_ls, kb_it, kb_bt, kb_nt, kb_st, kb_tt, kb_lt, startD, List.map_cons, List.map_nil, List.length_cons, List.length_nil, List.cons_append, List.nil_append, List.replicate, List.getElem?_cons_zero, List.getElem?_cons_succ, List.set_cons_zero, List.set_cons_succ, List.zip_cons_cons, List.zip_nil_right, List.foldl_cons, List.foldl_nil, Option.bind_some, Option.bind_none, um_same, um_um, Bool.false_eq_true, reduceCtorEq, false_implies, true_implies, forall_const, true_and, and_true, and_self, Bool.not_true, Bool.not_false, implies_true, decide_eq_true_eq, decide_eq_false_iff_not, Bool.not_eq_true, not_true_eq_false, not_false_eq_true, Bool.not_eq_true', Bool.not_eq_false', D.onB, sizeLine_eq, Nat.reduceAdd, Nat.reduceLeDiff, Nat.zero_add, Nat.reduceLT, pl_bl, pl_i, pl_n, eqv_bl, eqv_ii, eqv_nn, ints_inj, exists_eq_left', exists_eq_left, beq_iff_eq, beq_eq_false_iff_ne, ne_eq, true_or, or_true, false_or, or_false, false_and, and_false, if_true, if_false, List.lookup_cons, beq_self_eq_true, r1_root_shown, sp_is_root, sp_is_number, wt, p.1, p.2]
    have r1 := rt.2.1
    have r2 := rt.2.2.1
    exact rt_of rt (sh_sol hc (by omega) q.1 q.2 h)
  | least d w ts x0 y0 i j hd s hx hy p hw =>
    subst hd hx hy hw
    have rt := s.cf.1
    have wt : D.within (.int d) 2 1000000 = true := by simp [D.within, rt.2.1, rt.2.2.1]
    simp (config := { decide := false }) only [dMeth, dMakeK, pl_lint, pl_tint, eqv_lint, eqv_tint, decide_true, decide_false, dForJ, djT, djItems, djEnum, djZip, seqJ, dLCG, dLCG2, gMul, gMin1, gMax1, dEnum, dLC, dLCM, dYes, wipeD, dFld, fldOf, dSetF, putD, dMake, dMakeM, mkQ, mkQM, dProp, isOf, gIsC, gIn, gIn2, dDct, gSorted, asI, gRepr, dCallKw, pick, List.filterMap_cons, List.filterMap_nil, List.getElem?_nil, dSeq, dNext, dRet, dRetN, dIfS, dAsg, dgName, dgTup, dgCons, dgNil, dgSub, dPar, dAug, dDrop, dBreak, dCont, dNever, dOp, gI, gT, gPlus, gAdd, gEq, gNe, gIs, gIsNot, gIs2, gIsNot2, gIx, dV, dC, dB, dAnd, dOr, dNot, dAndV, dOrV, dNotV, dIf, dNeg, dChain, dNil, dCons, dTup, dLst, dLstM, dNoPart, dPart, dSl, dCB, dCall, gLen, gAbs, g2, gInt, gStr, gDivmod, gIsTy, gTuple, gList, gSum, gAll, gAny, dAppend, dItems, itemsOf, dRange1, dRange2, dFor, D.onB, D.tyn, D.isNon, asL, rsv, kb_di, kb_db, kb_ds, kb_dt, kb_dl, kb_ii, kb_bi, kb_ni, kb_si, kb_ti, kb_li, kb_ib, kb_bb, kb_nb, kb_sb, kb_tb, kb_lb, kb_is, kb_bs, kb_ns, kb_ss, kb_ts, kb_ls, kb_it, kb_bt, kb_nt, kb_st, kb_tt, kb_lt, startD, List.map_cons, List.map_nil, List.length_cons, List.length_nil, List.cons_append, List.nil_append, List.replicate, List.getElem?_cons_zero, List.getElem?_cons_succ, List.set_cons_zero, List.set_cons_succ, List.zip_cons_cons, List.zip_nil_right, List.foldl_cons, List.foldl_nil, Option.bind_some, Option.bind_none, um_same, um_um, Bool.false_eq_true, reduceCtorEq, false_implies, true_implies, forall_const, true_and, and_true, and_self, Bool.not_true, Bool.not_false, implies_true, decide_eq_true_eq, decide_eq_false_iff_not, Bool.not_eq_true, not_true_eq_false, not_false_eq_true, Bool.not_eq_true', Bool.not_eq_false', D.onB, sizeLine_eq, Nat.reduceAdd, Nat.reduceLeDiff, Nat.zero_add, Nat.reduceLT, pl_bl, pl_i, pl_n, eqv_bl, eqv_ii, eqv_nn, ints_inj, exists_eq_left', exists_eq_left, beq_iff_eq, beq_eq_false_iff_ne, ne_eq, true_or, or_true, false_or, or_false, false_and, and_false, if_true, if_false, List.lookup_cons, beq_self_eq_true, r1_root_shown, sp_is_root, sp_is_number, wt, p.1, p.2]
    exact rt_of rt (sh_least hc s h)
  | other d w i j hd rt hx hy p hw =>
    subst hd hx hy
    have wt : D.within (.int d) 2 1000000 = true := by simp [D.within, rt.2.1, rt.2.2.1]
    simp (config := { decide := false }) only [dMeth, dMakeK, pl_lint, pl_tint, eqv_lint, eqv_tint, decide_true, decide_false, dForJ, djT, djItems, djEnum, djZip, seqJ, dLCG, dLCG2, gMul, gMin1, gMax1, dEnum, dLC, dLCM, dYes, wipeD, dFld, fldOf, dSetF, putD, dMake, dMakeM, mkQ, mkQM, dProp, isOf, gIsC, gIn, gIn2, dDct, gSorted, asI, gRepr, dCallKw, pick, List.filterMap_cons, List.filterMap_nil, List.getElem?_nil, dSeq, dNext, dRet, dRetN, dIfS, dAsg, dgName, dgTup, dgCons, dgNil, dgSub, dPar, dAug, dDrop, dBreak, dCont, dNever, dOp, gI, gT, gPlus, gAdd, gEq, gNe, gIs, gIsNot, gIs2, gIsNot2, gIx, dV, dC, dB, dAnd, dOr, dNot, dAndV, dOrV, dNotV, dIf, dNeg, dChain, dNil, dCons, dTup, dLst, dLstM, dNoPart, dPart, dSl, dCB, dCall, gLen, gAbs, g2, gInt, gStr, gDivmod, gIsTy, gTuple, gList, gSum, gAll, gAny, dAppend, dItems, itemsOf, dRange1, dRange2, dFor, D.onB, D.tyn, D.isNon, asL, rsv, kb_di, kb_db, kb_ds, kb_dt, kb_dl, kb_ii, kb_bi, kb_ni, kb_si, kb_ti, kb_li, kb_ib, kb_bb, kb_nb, kb_sb, kb_tb, kb_lb, kb_is, kb_bs, kb_ns, kb_ss, kb_ts, kb_ls, kb_it, kb_bt, kb_nt, kb_st, kb_tt, kb_lt, startD, List.map_cons, List.map_nil, List.length_cons, List.length_nil, List.cons_append, List.nil_append, List.replicate, List.getElem?_cons_zero, List.getElem?_cons_succ, List.set_cons_zero, List.set_cons_succ, List.zip_cons_cons, List.zip_nil_right, List.foldl_cons, List.foldl_nil, Option.bind_some, Option.bind_none, um_same, um_um, Bool.false_eq_true, reduceCtorEq, false_implies, true_implies, forall_const, true_and, and_true, and_self, Bool.not_true, Bool.not_false, implies_true, decide_eq_true_eq, decide_eq_false_iff_not, Bool.not_eq_true, not_true_eq_false, not_false_eq_true, Bool.not_eq_true', Bool.not_eq_false', D.onB, sizeLine_eq, Nat.reduceAdd, Nat.reduceLeDiff, Nat.zero_add, Nat.reduceLT, pl_bl, pl_i, pl_n, eqv_bl, eqv_ii, eqv_nn, ints_inj, exists_eq_left', exists_eq_left, beq_iff_eq, beq_eq_false_iff_ne, ne_eq, true_or, or_true, false_or, or_false, false_and, and_false, if_true, if_false, List.lookup_cons, beq_self_eq_true, r1_root_shown, sp_is_root, sp_is_number, wt, p.1, p.2]
    exact rt_of rt (sh_other (eq_false hw.1) (eq_false hw.2) h)
abbrev N_read_number : List Str := ["word", "number", "sign"]
def sp_read_number : DSp := fun _ _ _ _ => False
theorem len_read_number : ∀ ds M Q E, sp_read_number ds M Q E → ds.length = 1 := fun _ _ _ _ h => h.elim
def t_read_number (W : DW') : TDS :=
  dSeq (dIfS (dOr (dB (dOp gEq (dV 0) (dC (.str "")))) (dOr (dB (dOp (gT fun i j => decide (j < i)) (dCB gLen (dCons (dV 0) (dNil))) (dC (.int 80)))) (dNot (dB (dCB gAll (dCons (dLC [2] 2 (dItems (dV 0)) (dYes) (dOp (gIn2 false) (dV 2) (dC (.str "0123456789")))) (dNil))))))) (dRet (dC .non)) (dNext)) <|
  dSeq (dAsg (dCB gInt (dCons (dV 0) (dNil))) (dgName 1)) <|
  dRet (dIf (dB (dOp gEq (dCB gStr (dCons (dV 1) (dNil))) (dV 0))) (dV 1) (dC .non))
theorem pure_read_number (ds : List D) (M : Mp) (Q : DK) (E : XE') (h : sp_read_number ds M Q E) : t_read_number (fnW E) { nx := fun _ M' => Wk (Q .non) M', rt := fun d M' => Wk (Q d) M' } (startD N_read_number ds) M := h.elim
abbrev N_is_prime : List Str := ["value", "at"]
def sp_is_prime : DSp := fun _ _ _ _ => False
theorem len_is_prime : ∀ ds M Q E, sp_is_prime ds M Q E → ds.length = 1 := fun _ _ _ _ h => h.elim
def b1_is_prime (W : DW') : TDS :=
  dSeq (dIfS (dB (dOp gEq (dOp (gI (fun _ j => 0 < j) fun i j => .int (i % j)) (dV 0) (dV 1)) (dC (.int 0)))) (dRet (dC (.bl false))) (dNext)) <|
  dAug 1 (dC (.int 1)) gPlus
def c2_is_prime (W : DW') : TDb :=
  dB (dOp (gT fun i j => decide (i ≤ j)) (dOp gMul (dV 1) (dV 1)) (dV 0))
def t_is_prime (W : DW') : TDS :=
  dSeq (dIfS (dOr (dNot (dB (dCall sp_is_integer W (dCons (dV 0) (dNil))))) (dOr (dB (dOp (gT fun i j => decide (i < j)) (dV 0) (dC (.int 2)))) (dB (dOp (gT fun i j => decide (j < i)) (dV 0) (dC (.int 30030)))))) (dRet (dC (.bl false))) (dNext)) <|
  dSeq (dAsg (dC (.int 2)) (dgName 1)) <|
  dSeq (dWhile (c2_is_prime W) (b1_is_prime W)) <|
  dRet (dC (.bl true))
theorem pure_is_prime (ds : List D) (M : Mp) (Q : DK) (E : XE') (h : sp_is_prime ds M Q E) : t_is_prime (fnW E) { nx := fun _ M' => Wk (Q .non) M', rt := fun d M' => Wk (Q d) M' } (startD N_is_prime ds) M := h.elim
abbrev N_wrong_prime : List Str := ["primes", "before", "product", "at", "prime"]
def sp_wrong_prime : DSp := fun _ _ _ _ => False
theorem len_wrong_prime : ∀ ds M Q E, sp_wrong_prime ds M Q E → ds.length = 1 := fun _ _ _ _ h => h.elim
def b1_wrong_prime (W : DW') : TDS :=
  dSeq (dIfS (dOr (dNot (dB (dCall sp_is_prime W (dCons (dV 4) (dNil))))) (dOr (dB (dOp (gT fun i j => decide (i ≤ j)) (dV 4) (dV 1))) (dB (dOp (gT fun i j => decide (j < i)) (dOp gMul (dV 2) (dV 4)) (dC (.int 30030)))))) (dRet (dTup (dCons (dV 3) (dNil)))) (dNext)) <|
  dPar [1, 2] (dCons (dV 4) (dCons (dOp gMul (dV 2) (dV 4)) (dNil)))
def t_wrong_prime (W : DW') : TDS :=
  dSeq (dIfS (dOr (dNot (dB (dCB gIsTy (dCons (dV 0) (dCons (dC (.ty "tuple")) (dNil)))))) (dB (dOp gEq (dCB gLen (dCons (dV 0) (dNil))) (dC (.int 0))))) (dRet (dTup (dCons (dC .non) (dNil)))) (dNext)) <|
  dSeq (dAsg (dTup (dCons (dC (.int 1)) (dCons (dC (.int 1)) (dNil)))) (dgTup (dgCons (dgName 1) (dgCons (dgName 2) (dgNil))))) <|
  dSeq (dFor (dEnum (dCons (dV 0) (dNil))) (dgTup (dgCons (dgName 3) (dgCons (dgName 4) (dgNil)))) (b1_wrong_prime W)) <|
  dRet (dTup (dNil))
theorem pure_wrong_prime (ds : List D) (M : Mp) (Q : DK) (E : XE') (h : sp_wrong_prime ds M Q E) : t_wrong_prime (fnW E) { nx := fun _ M' => Wk (Q .non) M', rt := fun d M' => Wk (Q d) M' } (startD N_wrong_prime ds) M := h.elim
abbrev N_read_lot : List Str := ["text", "primes", "word"]
def sp_read_lot : DSp := fun _ _ _ _ => False
theorem len_read_lot : ∀ ds M Q E, sp_read_lot ds M Q E → ds.length = 1 := fun _ _ _ _ h => h.elim
def t_read_lot (W : DW') : TDS :=
  dSeq (dIfS (dNot (dB (dCB gIsTy (dCons (dV 0) (dCons (dC (.ty "str")) (dNil)))))) (dRet (dC .non)) (dNext)) <|
  dSeq (dAsg (dCB gTuple (dCons (dLC [2] 2 (dItems (dNo)) (dYes) (dCall sp_read_number noW (dCons (dV 2) (dNil)))) (dNil))) (dgName 1)) <|
  dRet (dIf (dB (dOp gEq (dCall sp_wrong_prime W (dCons (dV 1) (dNil))) (dTup (dNil)))) (dV 1) (dC .non))
theorem pure_read_lot (ds : List D) (M : Mp) (Q : DK) (E : XE') (h : sp_read_lot ds M Q E) : t_read_lot (fnW E) { nx := fun _ M' => Wk (Q .non) M', rt := fun d M' => Wk (Q d) M' } (startD N_read_lot ds) M := h.elim
abbrev N_times_in : List Str := ["number", "prime", "many"]
def sp_times_in : DSp := fun _ _ _ _ => False
theorem len_times_in : ∀ ds M Q E, sp_times_in ds M Q E → ds.length = 2 := fun _ _ _ _ h => h.elim
def b1_times_in (W : DW') : TDS :=
  dPar [0, 2] (dCons (dOp (gI divOk fun i j => .int (i / j)) (dV 0) (dV 1)) (dCons (dOp gAdd (dV 2) (dC (.int 1))) (dNil)))
def c2_times_in (W : DW') : TDb :=
  dB (dOp gEq (dOp (gI (fun _ j => 0 < j) fun i j => .int (i % j)) (dV 0) (dV 1)) (dC (.int 0)))
def t_times_in (W : DW') : TDS :=
  dSeq (dAsg (dC (.int 0)) (dgName 2)) <|
  dSeq (dWhile (c2_times_in W) (b1_times_in W)) <|
  dRet (dTup (dCons (dV 2) (dCons (dV 0) (dNil))))
theorem pure_times_in (ds : List D) (M : Mp) (Q : DK) (E : XE') (h : sp_times_in ds M Q E) : t_times_in (fnW E) { nx := fun _ M' => Wk (Q .non) M', rt := fun d M' => Wk (Q d) M' } (startD N_times_in ds) M := h.elim
abbrev N_parts_of : List Str := ["primes", "number", "found", "prime", "many"]
def sp_parts_of : DSp := fun _ _ _ _ => False
theorem len_parts_of : ∀ ds M Q E, sp_parts_of ds M Q E → ds.length = 2 := fun _ _ _ _ h => h.elim
def b1_parts_of (W : DW') : TDS :=
  dSeq (dAsg (dCall sp_times_in W (dCons (dV 1) (dCons (dV 3) (dNil)))) (dgTup (dgCons (dgName 4) (dgCons (dgName 1) (dgNil))))) <|
  dDrop (dAppend (dV 2) (dCons (dV 4) (dNil)))
def t_parts_of (W : DW') : TDS :=
  dSeq (dAsg (dLstM (dNil)) (dgName 2)) <|
  dSeq (dFor (dItems (dV 0)) (dgName 3) (b1_parts_of W)) <|
  dRet (dTup (dCons (dCB gTuple (dCons (dV 2) (dNil))) (dCons (dV 1) (dNil))))
theorem pure_parts_of (ds : List D) (M : Mp) (Q : DK) (E : XE') (h : sp_parts_of ds M Q E) : t_parts_of (fnW E) { nx := fun _ M' => Wk (Q .non) M', rt := fun d M' => Wk (Q d) M' } (startD N_parts_of ds) M := h.elim
abbrev N_is_made : List Str := ["primes", "number"]
def sp_is_made : DSp := fun _ _ _ _ => False
theorem len_is_made : ∀ ds M Q E, sp_is_made ds M Q E → ds.length = 2 := fun _ _ _ _ h => h.elim
def t_is_made (W : DW') : TDS :=
  dRet (dOp gEq (dOp gIx (dCall sp_parts_of W (dCons (dV 0) (dCons (dV 1) (dNil)))) (dC (.int 1))) (dC (.int 1)))
theorem pure_is_made (ds : List D) (M : Mp) (Q : DK) (E : XE') (h : sp_is_made ds M Q E) : t_is_made (fnW E) { nx := fun _ M' => Wk (Q .non) M', rt := fun d M' => Wk (Q d) M' } (startD N_is_made ds) M := h.elim
abbrev N_Lot_primes : List Str := ["self"]
def sp_Lot_primes : DSp := fun _ _ _ _ => False
theorem len_Lot_primes : ∀ ds M Q E, sp_Lot_primes ds M Q E → ds.length = 1 := fun _ _ _ _ h => h.elim
def t_Lot_primes (W : DW') : TDS :=
  dRet (dFld "Lot" "row" (dV 0))
theorem pure_Lot_primes (ds : List D) (M : Mp) (Q : DK) (E : XE') (h : sp_Lot_primes ds M Q E) : t_Lot_primes (fnW E) { nx := fun _ M' => Wk (Q .non) M', rt := fun d M' => Wk (Q d) M' } (startD N_Lot_primes ds) M := h.elim
abbrev N_is_factor : List Str := ["lot", "value"]
def sp_is_factor : DSp := fun _ _ _ _ => False
theorem len_is_factor : ∀ ds M Q E, sp_is_factor ds M Q E → ds.length = 2 := fun _ _ _ _ h => h.elim
def t_is_factor (W : DW') : TDS :=
  dSeq (dIfS (dOr (dNot (dB (dCB gIsTy (dCons (dV 1) (dCons (dC (.ty "tuple")) (dNil)))))) (dOr (dB (dOp gNe (dCB gLen (dCons (dV 1) (dNil))) (dC (.int 2)))) (dOr (dNot (dB (dCall sp_is_number W (dCons (dOp gIx (dV 1) (dC (.int 0))) (dNil))))) (dB (dOp (gIn2 true) (dOp gIx (dV 1) (dC (.int 1))) (dTup (dCons (dC (.int 1)) (dCons (dNeg (dC (.int 1))) (dNil))))))))) (dRet (dC (.bl false))) (dNext)) <|
  dRet (dAndV (dNotV (dCB gIsTy (dCons (dOp gIx (dV 1) (dC (.int 1))) (dCons (dC (.ty "bool")) (dNil))))) (dAndV (dCall sp_is_made W (dCons (dProp "Lot" sp_Lot_primes (dV 0)) (dCons (dOp gIx (dV 1) (dC (.int 0))) (dNil)))) (dCall sp_is_made W (dCons (dProp "Lot" sp_Lot_primes (dV 0)) (dCons (dOp gAdd (dOp gIx (dV 1) (dC (.int 0))) (dC (.int 1))) (dNil))))))
theorem pure_is_factor (ds : List D) (M : Mp) (Q : DK) (E : XE') (h : sp_is_factor ds M Q E) : t_is_factor (fnW E) { nx := fun _ M' => Wk (Q .non) M', rt := fun d M' => Wk (Q d) M' } (startD N_is_factor ds) M := h.elim
abbrev N_common_part : List Str := ["one", "other"]
def sp_common_part : DSp := fun _ _ _ _ => False
theorem len_common_part : ∀ ds M Q E, sp_common_part ds M Q E → ds.length = 2 := fun _ _ _ _ h => h.elim
def b1_common_part (W : DW') : TDS :=
  dPar [0, 1] (dCons (dV 1) (dCons (dOp (gI (fun _ j => 0 < j) fun i j => .int (i % j)) (dV 0) (dV 1)) (dNil)))
def c2_common_part (W : DW') : TDb :=
  dB (dOp gNe (dV 1) (dC (.int 0)))
def t_common_part (W : DW') : TDS :=
  dSeq (dWhile (c2_common_part W) (b1_common_part W)) <|
  dRet (dV 0)
theorem pure_common_part (ds : List D) (M : Mp) (Q : DK) (E : XE') (h : sp_common_part ds M Q E) : t_common_part (fnW E) { nx := fun _ M' => Wk (Q .non) M', rt := fun d M' => Wk (Q d) M' } (startD N_common_part ds) M := h.elim
abbrev N_value_of : List Str := ["row", "top", "bottom", "pair", "way", "over", "under", "part"]
def sp_value_of : DSp := fun _ _ _ _ => False
theorem len_value_of : ∀ ds M Q E, sp_value_of ds M Q E → ds.length = 1 := fun _ _ _ _ h => h.elim
def b1_value_of (W : DW') : TDS :=
  dSeq (dAsg (dIf (dB (dOp gEq (dV 4) (dC (.int 1)))) (dTup (dCons (dOp gAdd (dV 3) (dC (.int 1))) (dCons (dV 3) (dNil)))) (dTup (dCons (dV 3) (dCons (dOp gAdd (dV 3) (dC (.int 1))) (dNil))))) (dgTup (dgCons (dgName 5) (dgCons (dgName 6) (dgNil))))) <|
  dSeq (dPar [1, 2] (dCons (dOp gMul (dV 1) (dV 5)) (dCons (dOp gMul (dV 2) (dV 6)) (dNil)))) <|
  dSeq (dAsg (dCall sp_common_part W (dCons (dV 1) (dCons (dV 2) (dNil)))) (dgName 7)) <|
  dPar [1, 2] (dCons (dOp (gI divOk fun i j => .int (i / j)) (dV 1) (dV 7)) (dCons (dOp (gI divOk fun i j => .int (i / j)) (dV 2) (dV 7)) (dNil)))
def t_value_of (W : DW') : TDS :=
  dSeq (dAsg (dTup (dCons (dC (.int 1)) (dCons (dC (.int 1)) (dNil)))) (dgTup (dgCons (dgName 1) (dgCons (dgName 2) (dgNil))))) <|
  dSeq (dFor (dItems (dV 0)) (dgTup (dgCons (dgName 3) (dgCons (dgName 4) (dgNil)))) (b1_value_of W)) <|
  dRet (dTup (dCons (dV 1) (dCons (dV 2) (dNil))))
theorem pure_value_of (ds : List D) (M : Mp) (Q : DK) (E : XE') (h : sp_value_of ds M Q E) : t_value_of (fnW E) { nx := fun _ M' => Wk (Q .non) M', rt := fun d M' => Wk (Q d) M' } (startD N_value_of ds) M := h.elim
abbrev N_written_shown : List Str := ["lot", "claim", "certificate", "top", "bottom", "over", "under", "factor"]
def sp_written_shown : DSp := fun _ _ _ _ => False
theorem len_written_shown : ∀ ds M Q E, sp_written_shown ds M Q E → ds.length = 3 := fun _ _ _ _ h => h.elim
def t_written_shown (W : DW') : TDS :=
  dSeq (dAsg (dSl (dV 1) (dPart (dC (.int 2))) (dNoPart)) (dgTup (dgCons (dgName 3) (dgCons (dgName 4) (dgNil))))) <|
  dSeq (dIfS (dOr (dNot (dB (dCall sp_is_number W (dCons (dV 3) (dNil))))) (dOr (dNot (dB (dCall sp_is_number W (dCons (dV 4) (dNil))))) (dNot (dB (dCB gIsTy (dCons (dV 2) (dCons (dC (.ty "tuple")) (dNil)))))))) (dRet (dC (.bl false))) (dNext)) <|
  dSeq (dIfS (dOr (dNot (dB (dCall sp_is_made W (dCons (dProp "Lot" sp_Lot_primes (dV 0)) (dCons (dV 3) (dNil)))))) (dNot (dB (dCall sp_is_made W (dCons (dProp "Lot" sp_Lot_primes (dV 0)) (dCons (dV 4) (dNil))))))) (dRet (dC (.bl false))) (dNext)) <|
  dSeq (dIfS (dNot (dB (dCB gAll (dCons (dLC [7] 7 (dItems (dV 2)) (dYes) (dCall sp_is_factor noW (dCons (dV 0) (dCons (dV 7) (dNil))))) (dNil))))) (dRet (dC (.bl false))) (dNext)) <|
  dSeq (dAsg (dCall sp_value_of W (dCons (dV 2) (dNil))) (dgTup (dgCons (dgName 5) (dgCons (dgName 6) (dgNil))))) <|
  dRet (dOp gEq (dOp gMul (dV 5) (dV 4)) (dOp gMul (dV 6) (dV 3)))
theorem pure_written_shown (ds : List D) (M : Mp) (Q : DK) (E : XE') (h : sp_written_shown ds M Q E) : t_written_shown (fnW E) { nx := fun _ M' => Wk (Q .non) M', rt := fun d M' => Wk (Q d) M' } (startD N_written_shown ds) M := h.elim
abbrev N_product_of : List Str := ["primes", "found", "prime"]
def sp_product_of : DSp := fun _ _ _ _ => False
theorem len_product_of : ∀ ds M Q E, sp_product_of ds M Q E → ds.length = 1 := fun _ _ _ _ h => h.elim
def b1_product_of (W : DW') : TDS :=
  dAug 1 (dV 2) (gI mulOk fun i j => .int (i * j))
def t_product_of (W : DW') : TDS :=
  dSeq (dAsg (dC (.int 1)) (dgName 1)) <|
  dSeq (dFor (dItems (dV 0)) (dgName 2) (b1_product_of W)) <|
  dRet (dV 1)
theorem pure_product_of (ds : List D) (M : Mp) (Q : DK) (E : XE') (h : sp_product_of ds M Q E) : t_product_of (fnW E) { nx := fun _ M' => Wk (Q .non) M', rt := fun d M' => Wk (Q d) M' } (startD N_product_of ds) M := h.elim
abbrev N_Lot___init : List Str := ["self", "primes", "wrong"]
def sp_Lot___init : DSp := fun _ _ _ _ => False
theorem len_Lot___init : ∀ ds M Q E, sp_Lot___init ds M Q E → ds.length = 2 := fun _ _ _ _ h => h.elim
def t_Lot___init (W : DW') : TDS :=
  dSeq (dAsg (dCall sp_wrong_prime W (dCons (dV 1) (dNil))) (dgName 2)) <|
  dSeq (dIfS (dB (dOp gNe (dV 2) (dTup (dNil)))) (dNever) (dNext)) <|
  dSeq (dSetF "Lot" "row" (dV 1) (dV 0)) <|
  dSetF "Lot" "whole" (dCall sp_product_of W (dCons (dV 1) (dNil))) (dV 0)
theorem pure_Lot___init (ds : List D) (M : Mp) (Q : DK) (E : XE') (h : sp_Lot___init ds M Q E) : t_Lot___init (fnW E) { nx := fun _ M' => Wk (Q .non) M', rt := fun d M' => Wk (Q d) M' } (startD N_Lot___init ds) M := h.elim
abbrev N_number_shown : List Str := ["primes", "claim", "certificate", "low", "high"]
def sp_number_shown : DSp := fun _ _ _ _ => False
theorem len_number_shown : ∀ ds M Q E, sp_number_shown ds M Q E → ds.length = 3 := fun _ _ _ _ h => h.elim
def t_number_shown (W : DW') : TDS :=
  dSeq (dIfS (dNot (dB (dCall sp_is_number W (dCons (dOp gIx (dV 1) (dC (.int 2))) (dNil))))) (dRet (dC (.bl false))) (dNext)) <|
  dSeq (dPar [3, 4] (dCons (dCall sp_parts_of W (dCons (dV 0) (dCons (dOp gIx (dV 1) (dC (.int 2))) (dNil)))) (dCons (dCall sp_parts_of W (dCons (dV 0) (dCons (dOp gAdd (dOp gIx (dV 1) (dC (.int 2))) (dC (.int 1))) (dNil)))) (dNil)))) <|
  dSeq (dIfS (dB (dOp gEq (dOp gIx (dV 1) (dC (.int 0))) (dC (.str "pair")))) (dRet (dAndV (dOp gEq (dOp gIx (dV 3) (dC (.int 1))) (dC (.int 1))) (dAndV (dOp gEq (dOp gIx (dV 4) (dC (.int 1))) (dC (.int 1))) (dCall (sp_is_same 4) W (dCons (dV 2) (dCons (dTup (dCons (dOp gIx (dV 3) (dC (.int 0))) (dCons (dOp gIx (dV 4) (dC (.int 0))) (dNil)))) (dNil))))))) (dNext)) <|
  dRet (dAndV (dOrV (dOp (gT fun i j => decide (j < i)) (dOp gIx (dV 3) (dC (.int 1))) (dC (.int 1))) (dOp (gT fun i j => decide (j < i)) (dOp gIx (dV 4) (dC (.int 1))) (dC (.int 1)))) (dCall (sp_is_same 4) W (dCons (dV 2) (dCons (dTup (dCons (dOp gIx (dV 3) (dC (.int 1))) (dCons (dOp gIx (dV 4) (dC (.int 1))) (dNil)))) (dNil)))))
theorem pure_number_shown (ds : List D) (M : Mp) (Q : DK) (E : XE') (h : sp_number_shown ds M Q E) : t_number_shown (fnW E) { nx := fun _ M' => Wk (Q .non) M', rt := fun d M' => Wk (Q d) M' } (startD N_number_shown ds) M := h.elim
abbrev N_all_products : List Str := ["primes", "found", "prime", "product"]
def sp_all_products : DSp := fun _ _ _ _ => False
theorem len_all_products : ∀ ds M Q E, sp_all_products ds M Q E → ds.length = 1 := fun _ _ _ _ h => h.elim
def b1_all_products (W : DW') : TDS :=
  dAsg (dOp gAdd (dV 1) (dLC [3] 3 (dItems (dV 1)) (dYes) (dOp gMul (dV 3) (dV 2)))) (dgName 1)
def t_all_products (W : DW') : TDS :=
  dSeq (dAsg (dLst (dCons (dC (.int 1)) (dNil))) (dgName 1)) <|
  dSeq (dFor (dItems (dV 0)) (dgName 2) (b1_all_products W)) <|
  dRet (dCB gSorted (dCons (dV 1) (dNil)))
theorem pure_all_products (ds : List D) (M : Mp) (Q : DK) (E : XE') (h : sp_all_products ds M Q E) : t_all_products (fnW E) { nx := fun _ M' => Wk (Q .non) M', rt := fun d M' => Wk (Q d) M' } (startD N_all_products ds) M := h.elim
abbrev N_products_of : List Str := ["primes", "product"]
def sp_products_of : DSp := fun _ _ _ _ => False
theorem len_products_of : ∀ ds M Q E, sp_products_of ds M Q E → ds.length = 1 := fun _ _ _ _ h => h.elim
def t_products_of (W : DW') : TDS :=
  dRet (dLC [1] 1 (dItems (dCall sp_all_products W (dCons (dV 0) (dNil)))) (dB (dOp gNe (dV 1) (dC (.int 2)))) (dV 1))
theorem pure_products_of (ds : List D) (M : Mp) (Q : DK) (E : XE') (h : sp_products_of ds M Q E) : t_products_of (fnW E) { nx := fun _ M' => Wk (Q .non) M', rt := fun d M' => Wk (Q d) M' } (startD N_products_of ds) M := h.elim
abbrev N_next_of : List Str := ["root", "least", "pair", "x", "y", "u", "v"]
def sp_next_of : DSp := fun _ _ _ _ => False
theorem len_next_of : ∀ ds M Q E, sp_next_of ds M Q E → ds.length = 3 := fun _ _ _ _ h => h.elim
def t_next_of (W : DW') : TDS :=
  dSeq (dAsg (dV 1) (dgTup (dgCons (dgName 3) (dgCons (dgName 4) (dgNil))))) <|
  dSeq (dAsg (dV 2) (dgTup (dgCons (dgName 5) (dgCons (dgName 6) (dgNil))))) <|
  dRet (dTup (dCons (dOp gAdd (dOp gMul (dV 3) (dV 5)) (dOp gMul (dOp gMul (dV 0) (dV 4)) (dV 6))) (dCons (dOp gAdd (dOp gMul (dV 3) (dV 6)) (dOp gMul (dV 4) (dV 5))) (dNil))))
theorem pure_next_of (ds : List D) (M : Mp) (Q : DK) (E : XE') (h : sp_next_of ds M Q E) : t_next_of (fnW E) { nx := fun _ M' => Wk (Q .non) M', rt := fun d M' => Wk (Q d) M' } (startD N_next_of ds) M := h.elim
abbrev N_rich_solutions : List Str := ["primes", "root", "least", "found", "here", "place"]
def sp_rich_solutions : DSp := fun _ _ _ _ => False
theorem len_rich_solutions : ∀ ds M Q E, sp_rich_solutions ds M Q E → ds.length = 2 := fun _ _ _ _ h => h.elim
def b1_rich_solutions (W : DW') : TDS :=
  dSeq (dIfS (dB (dCall sp_is_made W (dCons (dV 0) (dCons (dOp gIx (dV 4) (dC (.int 1))) (dNil))))) (dDrop (dAppend (dV 3) (dCons (dV 4) (dNil)))) (dNext)) <|
  dAsg (dCall sp_next_of W (dCons (dV 1) (dCons (dV 2) (dCons (dV 4) (dNil))))) (dgName 4)
def t_rich_solutions (W : DW') : TDS :=
  dSeq (dAsg (dCall sp_least_of W (dCons (dV 1) (dNil))) (dgName 2)) <|
  dSeq (dIfS (dNot (dB (dCall sp_is_made W (dCons (dV 0) (dCons (dOp gIx (dV 2) (dC (.int 1))) (dNil)))))) (dRet (dLst (dNil))) (dNext)) <|
  dSeq (dPar [3, 4] (dCons (dLstM (dNil)) (dCons (dV 2) (dNil)))) <|
  dSeq (dFor (dRange1 (dCons (dCB (g2 max) (dCons (dC (.int 12)) (dCons (dOp gAdd (dOp gIx (dV 0) (dNeg (dC (.int 1)))) (dC (.int 1))) (dNil)))) (dNil))) (dgName 5) (b1_rich_solutions W)) <|
  dSettle 3 <| dRet (dV 3)
theorem pure_rich_solutions (ds : List D) (M : Mp) (Q : DK) (E : XE') (h : sp_rich_solutions ds M Q E) : t_rich_solutions (fnW E) { nx := fun _ M' => Wk (Q .non) M', rt := fun d M' => Wk (Q d) M' } (startD N_rich_solutions ds) M := h.elim
abbrev N_pairs_by : List Str := ["primes", "product", "x", "y"]
def sp_pairs_by : DSp := fun _ _ _ _ => False
theorem len_pairs_by : ∀ ds M Q E, sp_pairs_by ds M Q E → ds.length = 2 := fun _ _ _ _ h => h.elim
def t_pairs_by (W : DW') : TDS :=
  dRet (dIf (dB (dOp gEq (dOp gIx (dV 0) (dC (.int 0))) (dC (.int 2)))) (dLCG [2, 3] (dgTup (dgCons (dgName 2) (dgCons (dgName 3) (dgNil)))) (djItems (dCall sp_rich_solutions W (dCons (dV 0) (dCons (dOp gMul (dC (.int 2)) (dV 1)) (dNil))))) (dYes) (dOp (gI divOk fun i j => .int (i / j)) (dOp (gI (fun _ _ => True) fun i j => .int (i - j)) (dV 2) (dC (.int 1))) (dC (.int 2)))) (dLst (dNil)))
theorem pure_pairs_by (ds : List D) (M : Mp) (Q : DK) (E : XE') (h : sp_pairs_by ds M Q E) : t_pairs_by (fnW E) { nx := fun _ M' => Wk (Q .non) M', rt := fun d M' => Wk (Q d) M' } (startD N_pairs_by ds) M := h.elim
abbrev N_all_pairs : List Str := ["primes", "found", "product"]
def sp_all_pairs : DSp := fun _ _ _ _ => False
theorem len_all_pairs : ∀ ds M Q E, sp_all_pairs ds M Q E → ds.length = 1 := fun _ _ _ _ h => h.elim
def b1_all_pairs (W : DW') : TDS :=
  dAsg (dOp gAdd (dV 1) (dCall sp_pairs_by W (dCons (dV 0) (dCons (dV 2) (dNil))))) (dgName 1)
def t_all_pairs (W : DW') : TDS :=
  dSeq (dAsg (dLst (dNil)) (dgName 1)) <|
  dSeq (dFor (dItems (dCall sp_products_of W (dCons (dV 0) (dNil)))) (dgName 2) (b1_all_pairs W)) <|
  dRet (dCB gTuple (dCons (dCB gSorted (dCons (dV 1) (dNil))) (dNil)))
theorem pure_all_pairs (ds : List D) (M : Mp) (Q : DK) (E : XE') (h : sp_all_pairs ds M Q E) : t_all_pairs (fnW E) { nx := fun _ M' => Wk (Q .non) M', rt := fun d M' => Wk (Q d) M' } (startD N_all_pairs ds) M := h.elim
abbrev N_accepts : List Str := ["claim", "certificate", "primes"]
def sp_accepts : DSp := fun ds M Q E => match ds with
  | [.tup xs, c] => ∃ wd r x y, xs = [.str wd, r, x, y] ∧ (wd = "written") = False ∧ sp_root_shown [.tup xs, c] M Q E
  | _ => False
theorem len_accepts : ∀ ds M Q E, sp_accepts ds M Q E → ds.length = 2 := fun ds M Q E h => by
  unfold sp_accepts at h; split at h <;> first | rfl | exact h.elim
def r6_accepts (W : DW') : TDS :=
  dRet (dAndV (dOp gEq (dOp gIx (dV 0) (dC (.int 0))) (dC (.str "all"))) (dAndV (dCall sp_is_empty W (dCons (dV 1) (dNil))) (dCall (sp_is_same 4) W (dCons (dOp gIx (dV 0) (dC (.int 2))) (dCons (dCall sp_all_pairs W (dCons (dV 2) (dNil))) (dNil))))))
def r5_accepts (W : DW') : TDS :=
  dSeq (dIfS (dB (dOp (gIn2 false) (dOp gIx (dV 0) (dC (.int 0))) (dTup (dCons (dC (.str "pair")) (dCons (dC (.str "no pair")) (dNil)))))) (dRet (dCall sp_number_shown W (dCons (dV 2) (dCons (dV 0) (dCons (dV 1) (dNil)))))) (dNext)) <|
  r6_accepts W
def r4_accepts (W : DW') : TDS :=
  dSeq (dIfS (dB (dOp gEq (dCB gLen (dCons (dV 0) (dNil))) (dC (.int 4)))) (dRet (dCall sp_written_shown W (dCons (dMake "Lot" sp_Lot___init W (dCons (dV 2) (dNil))) (dCons (dV 0) (dCons (dV 1) (dNil)))))) (dNext)) <|
  r5_accepts W
def r3_accepts (W : DW') : TDS :=
  dSeq (dIfS (dB (dOp gIs2 (dV 2) (dC .non))) (dRet (dC (.bl false))) (dNext)) <|
  r4_accepts W
def r2_accepts (W : DW') : TDS :=
  dSeq (dAsg (dCall sp_read_lot W (dCons (dOp gIx (dV 0) (dC (.int 1))) (dNil))) (dgName 2)) <|
  r3_accepts W
def r1_accepts (W : DW') : TDS :=
  dSeq (dIfS (dAnd (dB (dOp gEq (dCB gLen (dCons (dV 0) (dNil))) (dC (.int 4)))) (dB (dOp gNe (dOp gIx (dV 0) (dC (.int 0))) (dC (.str "written"))))) (dRet (dCall sp_root_shown W (dCons (dV 0) (dCons (dV 1) (dNil))))) (dNext)) <|
  r2_accepts W
def t_accepts (W : DW') : TDS :=
  dSeq (dIfS (dOr (dNot (dB (dCB gIsTy (dCons (dV 0) (dCons (dC (.ty "tuple")) (dNil)))))) (dB (dOp (gIn2 true) (dCB gLen (dCons (dV 0) (dNil))) (dTup (dCons (dC (.int 3)) (dCons (dC (.int 4)) (dNil))))))) (dRet (dC (.bl false))) (dNext)) <|
  r1_accepts W
theorem pure_accepts (ds : List D) (M : Mp) (Q : DK) (E : XE') (h : sp_accepts ds M Q E) : t_accepts (fnW E) { nx := fun _ M' => Wk (Q .non) M', rt := fun d M' => Wk (Q d) M' } (startD N_accepts ds) M := by
  unfold sp_accepts at h
  split at h
  rotate_left
  · exact h.elim
  rename_i xs c
  obtain ⟨wd, r, x, y, hxs, hw, h⟩ := h
  have ln : ((xs.length : Nat) : Int) = 4 := by rw [hxs]; rfl
  have a0 : atI xs 0 = some (.str wd) := by rw [hxs]; exact at0 _ _
  simp (config := { decide := false }) only [dMeth, dMakeK, pl_lint, pl_tint, eqv_lint, eqv_tint, decide_true, decide_false, dForJ, djT, djItems, djEnum, djZip, seqJ, dLCG, dLCG2, gMul, gMin1, gMax1, dEnum, dLC, dLCM, dYes, wipeD, dFld, fldOf, dSetF, putD, dMake, dMakeM, mkQ, mkQM, dProp, isOf, gIsC, gIn, gIn2, dDct, gSorted, asI, gRepr, dCallKw, pick, List.filterMap_cons, List.filterMap_nil, List.getElem?_nil, dSeq, dNext, dRet, dRetN, dIfS, dAsg, dgName, dgTup, dgCons, dgNil, dgSub, dPar, dAug, dDrop, dBreak, dCont, dNever, dOp, gI, gT, gPlus, gAdd, gEq, gNe, gIs, gIsNot, gIs2, gIsNot2, gIx, dV, dC, dB, dAnd, dOr, dNot, dAndV, dOrV, dNotV, dIf, dNeg, dChain, dNil, dCons, dTup, dLst, dLstM, dNoPart, dPart, dSl, dCB, dCall, gLen, gAbs, g2, gInt, gStr, gDivmod, gIsTy, gTuple, gList, gSum, gAll, gAny, dAppend, dItems, itemsOf, dRange1, dRange2, dFor, D.onB, D.tyn, D.isNon, asL, rsv, kb_di, kb_db, kb_ds, kb_dt, kb_dl, kb_ii, kb_bi, kb_ni, kb_si, kb_ti, kb_li, kb_ib, kb_bb, kb_nb, kb_sb, kb_tb, kb_lb, kb_is, kb_bs, kb_ns, kb_ss, kb_ts, kb_ls, kb_it, kb_bt, kb_nt, kb_st, kb_tt, kb_lt, startD, List.map_cons, List.map_nil, List.length_cons, List.length_nil, List.cons_append, List.nil_append, List.replicate, List.getElem?_cons_zero, List.getElem?_cons_succ, List.set_cons_zero, List.set_cons_succ, List.zip_cons_cons, List.zip_nil_right, List.foldl_cons, List.foldl_nil, Option.bind_some, Option.bind_none, um_same, um_um, Bool.false_eq_true, reduceCtorEq, false_implies, true_implies, forall_const, true_and, and_true, and_self, Bool.not_true, Bool.not_false, implies_true, decide_eq_true_eq, decide_eq_false_iff_not, Bool.not_eq_true, not_true_eq_false, not_false_eq_true, Bool.not_eq_true', Bool.not_eq_false', D.onB, sizeLine_eq, Nat.reduceAdd, Nat.reduceLeDiff, Nat.zero_add, Nat.reduceLT, pl_bl, pl_i, pl_n, eqv_bl, eqv_ii, eqv_nn, ints_inj, exists_eq_left', exists_eq_left, beq_iff_eq, beq_eq_false_iff_ne, ne_eq, true_or, or_true, false_or, or_false, false_and, and_false, if_true, if_false, List.lookup_cons, beq_self_eq_true, t_accepts, r1_accepts, ln, a0, hw]
  refine ⟨⟨rfl, rfl⟩, fun z => absurd z (by decide), fun _ => ?_⟩
  obtain ⟨wd2, r2, x2, y2, e, g, b, sh, h⟩ := h
  exact ⟨wd2, r2, x2, y2, e, g, b, sh, Wk.of h⟩
theorem acc_go {wd : Str} {r x y c : D} {b : Bool} {M : Mp} {Q : DK} {E : XE'} (hw : (wd = "written") = False) (so : D.solid r = true ∧ D.solid x = true ∧ D.solid y = true ∧ D.solid c = true) (sh : Shown wd r x y c b) (h : Q (.bl b) M) :
    sp_accepts [.tup [.str wd, r, x, y], c] M Q E := ⟨wd, r, x, y, rfl, hw, wd, r, x, y, rfl, so, b, sh, h⟩
theorem same_ints : ∀ ts : List Int, sameBs (ts.map .int) (ts.map .int) = true
  | [] => by simp [sameBs]
  | t :: ts => by simp [sameBs, sameB, same_ints ts]
theorem same_paper (w : Int) (ts : List Int) : sameB (paperD w ts) (paperD w ts) = true := by
  simp [paperD, sameB, sameBs, same_ints]
theorem solid_ints : ∀ ts : List Int, solids (ts.map .int) = true
  | [] => by simp [solids]
  | t :: ts => by simp [solids, D.solid, solid_ints ts]
theorem solid_paper (w : Int) (ts : List Int) : D.solid (paperD w ts) = true := by
  simp [paperD, D.solid, solids, solid_ints]
abbrev N_law_told : List Str := ["_law_tale", "_law_paper"]
def sp_law_told : DSp := fun ds M Q E => match ds with
  | [t, c] => ∃ b, (∀ (R : DK) (E2 : XE'), R (.bl b) M → sp_accepts [t, c] M R E2) ∧ Q (.lst [.bl b, .bl b]) M
  | _ => False
theorem len_law_told : ∀ ds M Q E, sp_law_told ds M Q E → ds.length = 2 := fun ds M Q E h => by
  unfold sp_law_told at h; split at h <;> first | rfl | exact h.elim
def t_law_told (W : DW') : TDS :=
  dRet (dLst (dCons (dCall sp_accepts W (dCons (dV 0) (dCons (dV 1) (dNil)))) (dCons (dCallKw 0 2 [1, 0] sp_accepts W dNil (dCons (dV 1) (dCons (dV 0) (dNil)))) (dNil))))
theorem pure_law_told (ds : List D) (M : Mp) (Q : DK) (E : XE') (h : sp_law_told ds M Q E) : t_law_told (fnW E) { nx := fun _ M' => Wk (Q .non) M', rt := fun d M' => Wk (Q d) M' } (startD N_law_told ds) M := by
  unfold sp_law_told at h
  split at h
  rotate_left
  · exact h.elim
  rename_i t c
  obtain ⟨b, ha, h⟩ := h
  simp (config := { decide := false }) only [dMeth, dMakeK, pl_lint, pl_tint, eqv_lint, eqv_tint, decide_true, decide_false, dForJ, djT, djItems, djEnum, djZip, seqJ, dLCG, dLCG2, gMul, gMin1, gMax1, dEnum, dLC, dLCM, dYes, wipeD, dFld, fldOf, dSetF, putD, dMake, dMakeM, mkQ, mkQM, dProp, isOf, gIsC, gIn, gIn2, dDct, gSorted, asI, gRepr, dCallKw, pick, List.filterMap_cons, List.filterMap_nil, List.getElem?_nil, dSeq, dNext, dRet, dRetN, dIfS, dAsg, dgName, dgTup, dgCons, dgNil, dgSub, dPar, dAug, dDrop, dBreak, dCont, dNever, dOp, gI, gT, gPlus, gAdd, gEq, gNe, gIs, gIsNot, gIs2, gIsNot2, gIx, dV, dC, dB, dAnd, dOr, dNot, dAndV, dOrV, dNotV, dIf, dNeg, dChain, dNil, dCons, dTup, dLst, dLstM, dNoPart, dPart, dSl, dCB, dCall, gLen, gAbs, g2, gInt, gStr, gDivmod, gIsTy, gTuple, gList, gSum, gAll, gAny, dAppend, dItems, itemsOf, dRange1, dRange2, dFor, D.onB, D.tyn, D.isNon, asL, rsv, kb_di, kb_db, kb_ds, kb_dt, kb_dl, kb_ii, kb_bi, kb_ni, kb_si, kb_ti, kb_li, kb_ib, kb_bb, kb_nb, kb_sb, kb_tb, kb_lb, kb_is, kb_bs, kb_ns, kb_ss, kb_ts, kb_ls, kb_it, kb_bt, kb_nt, kb_st, kb_tt, kb_lt, startD, List.map_cons, List.map_nil, List.length_cons, List.length_nil, List.cons_append, List.nil_append, List.replicate, List.getElem?_cons_zero, List.getElem?_cons_succ, List.set_cons_zero, List.set_cons_succ, List.zip_cons_cons, List.zip_nil_right, List.foldl_cons, List.foldl_nil, Option.bind_some, Option.bind_none, um_same, um_um, Bool.false_eq_true, reduceCtorEq, false_implies, true_implies, forall_const, true_and, and_true, and_self, Bool.not_true, Bool.not_false, implies_true, decide_eq_true_eq, decide_eq_false_iff_not, Bool.not_eq_true, not_true_eq_false, not_false_eq_true, Bool.not_eq_true', Bool.not_eq_false', D.onB, sizeLine_eq, Nat.reduceAdd, Nat.reduceLeDiff, Nat.zero_add, Nat.reduceLT, pl_bl, pl_i, pl_n, eqv_bl, eqv_ii, eqv_nn, ints_inj, exists_eq_left', exists_eq_left, beq_iff_eq, beq_eq_false_iff_ne, ne_eq, true_or, or_true, false_or, or_false, false_and, and_false, if_true, if_false, List.lookup_cons, beq_self_eq_true, t_law_told]
  exact ha _ _ (ha _ _ (Wk.of h))
abbrev N_law_right : List Str := ["_law_jar", "_law_turn", "_law_d", "_law_x", "_law_y", "_law_u", "_law_v", "_law_found", "_law_place", "_law_some", "_law_a", "_law_b", "_law_due", "_law_paper", "_law_thing"]
def sp_law_right : DSp := fun ds M Q E => match ds with
  | [.ref g] => Gd M g ∧ ∀ M', Gw g M M' → Q (.bl true) M'
  | _ => False
theorem len_law_right : ∀ ds M Q E, sp_law_right ds M Q E → ds.length = 1 := fun ds M Q E h => by
  unfold sp_law_right at h; split at h <;> first | rfl | exact h.elim
def b1_law_right (W : DW') : TDS :=
  dSeq (dIfS (dB (dOp (gT fun i j => decide (i < j)) (dV 5) (dOp gMul (dOp (gI CPow fun i j => .int (i ^ j.toNat)) (dC (.int 10)) (dC (.int 60))) (dOp (gI CPow fun i j => .int (i ^ j.toNat)) (dC (.int 10)) (dC (.int 19)))))) (dDrop (dAppend (dV 7) (dCons (dTup (dCons (dV 5) (dCons (dV 6) (dNil)))) (dNil)))) (dNext)) <|
  dPar [5, 6] (dCons (dOp gAdd (dOp gMul (dV 3) (dV 5)) (dOp gMul (dOp gMul (dV 2) (dV 4)) (dV 6))) (dCons (dOp gAdd (dOp gMul (dV 3) (dV 6)) (dOp gMul (dV 4) (dV 5))) (dNil)))
def b2_law_right (W : DW') : TDS :=
  dSeq (dAsg (dAndV (dCall sp_law_is_int W (dCons (dV 10) (dCons (dC (.int 1)) (dCons (dOp gMul (dOp (gI CPow fun i j => .int (i ^ j.toNat)) (dC (.int 10)) (dC (.int 60))) (dOp (gI CPow fun i j => .int (i ^ j.toNat)) (dC (.int 10)) (dC (.int 19)))) (dNil))))) (dCall sp_law_is_int W (dCons (dV 11) (dCons (dC (.int 1)) (dCons (dOp gMul (dOp (gI CPow fun i j => .int (i ^ j.toNat)) (dC (.int 10)) (dC (.int 60))) (dOp (gI CPow fun i j => .int (i ^ j.toNat)) (dC (.int 10)) (dC (.int 19)))) (dNil)))))) (dgName 12)) <|
  dSeq (dAsg (dAndV (dV 12) (dOp gEq (dOp (gI (fun _ _ => True) fun i j => .int (i - j)) (dOp gMul (dV 10) (dV 10)) (dOp gMul (dOp gMul (dV 2) (dV 11)) (dV 11))) (dC (.int 1)))) (dgName 12)) <|
  dIfS (dB (dOp gNe (dCB gRepr (dCons (dCall sp_law_told W (dCons (dTup (dCons (dC (.str "solution")) (dCons (dV 2) (dCons (dV 10) (dCons (dV 11) (dNil)))))) (dCons (dTup (dNil)) (dNil)))) (dNil))) (dCB gRepr (dCons (dLst (dCons (dV 12) (dCons (dV 12) (dNil)))) (dNil))))) (dRet (dC (.bl false))) (dNext)
def b3_law_right (W : DW') : TDS :=
  dIfS (dB (dOp gIsNot2 (dCall sp_accepts W (dCons (dTup (dCons (dC (.str "solution")) (dCons (dV 2) (dCons (dV 3) (dCons (dV 4) (dNil)))))) (dCons (dV 13) (dNil)))) (dC (.bl false)))) (dRet (dC (.bl false))) (dNext)
def b4_law_right (W : DW') : TDS :=
  dIfS (dB (dOp gIsNot2 (dCall sp_accepts W (dCons (dTup (dCons (dC (.str "solution")) (dCons (dV 14) (dCons (dV 3) (dCons (dV 4) (dNil)))))) (dCons (dTup (dNil)) (dNil)))) (dC (.bl false)))) (dRet (dC (.bl false))) (dNext)
def u1_8_law_right (W : DW') : TDS :=
  dFor (dItems (dLst (dCons (dC (.int 0)) (dCons (dC (.int 1)) (dCons (dC (.int 4)) (dCons (dNeg (dV 2)) (dCons (dC (.bl true)) (dCons (dC .non) (dCons (dCB gStr (dCons (dV 2) (dNil))) (dCons (dTup (dCons (dV 2) (dNil))) (dCons (dOp gAdd (dOp (gI CPow fun i j => .int (i ^ j.toNat)) (dC (.int 10)) (dC (.int 6))) (dC (.int 1))) (dCons (dOp gMul (dV 2) (dV 2)) (dNil))))))))))))) (dgName 14) (b4_law_right W)
def u1_7_law_right (W : DW') : TDS :=
  dSeq (dFor (dItems (dLst (dCons (dC .non) (dCons (dLst (dNil)) (dCons (dC (.int 0)) (dCons (dC (.str "")) (dCons (dTup (dCons (dC (.int 0)) (dNil))) (dCons (dTup (dCons (dTup (dNil)) (dNil))) (dCons (dDct) (dCons (dC (.bl false)) (dCons (dCall sp_law_terms W (dCons (dV 2) (dNil))) (dNil)))))))))))) (dgName 13) (b3_law_right W)) <|
  u1_8_law_right W
def u1_6_law_right (W : DW') : TDS :=
  dSeq (dFor (dItems (dOp gAdd (dV 9) (dLst (dCons (dTup (dCons (dOp gAdd (dC (.int 1)) (dCall sp_law_dip W (dCons (dV 0) (dCons (dOp (gI CPow fun i j => .int (i ^ j.toNat)) (dC (.int 10)) (dC (.int 6))) (dNil))))) (dCons (dOp gAdd (dC (.int 1)) (dCall sp_law_dip W (dCons (dV 0) (dCons (dOp (gI CPow fun i j => .int (i ^ j.toNat)) (dC (.int 10)) (dC (.int 6))) (dNil))))) (dNil)))) (dNil))))) (dgTup (dgCons (dgName 10) (dgCons (dgName 11) (dgNil)))) (b2_law_right W)) <|
  u1_7_law_right W
def u1_5_law_right (W : DW') : TDS :=
  dSeq (dAsg (dOp gAdd (dV 9) (dLst (dCons (dTup (dCons (dC (.int 1)) (dCons (dC (.int 0)) (dNil)))) (dCons (dTup (dCons (dOp (gI (fun _ _ => True) fun i j => .int (i - j)) (dC (.int 0)) (dV 3)) (dCons (dV 4) (dNil)))) (dCons (dTup (dCons (dV 3) (dCons (dOp (gI (fun _ _ => True) fun i j => .int (i - j)) (dC (.int 0)) (dV 4)) (dNil)))) (dCons (dTup (dCons (dC (.bl true)) (dCons (dV 4) (dNil)))) (dCons (dTup (dCons (dV 3) (dCons (dC .non) (dNil)))) (dCons (dTup (dCons (dCB gStr (dCons (dV 3) (dNil))) (dCons (dCB gStr (dCons (dV 4) (dNil))) (dNil)))) (dCons (dTup (dCons (dTup (dCons (dV 3) (dNil))) (dCons (dTup (dCons (dV 4) (dNil))) (dNil)))) (dCons (dTup (dCons (dC (.int 0)) (dCons (dC (.int 0)) (dNil)))) (dNil))))))))))) (dgName 9)) <|
  u1_6_law_right W
def u1_4_law_right (W : DW') : TDS :=
  dSeq (dAsg (dOp gAdd (dOp gAdd (dOp gAdd (dV 7) (dLCG [10, 11] (dgTup (dgCons (dgName 10) (dgCons (dgName 11) (dgNil)))) (djItems (dV 7)) (dYes) (dTup (dCons (dOp gAdd (dV 10) (dC (.int 1))) (dCons (dV 11) (dNil)))))) (dLCG [10, 11] (dgTup (dgCons (dgName 10) (dgCons (dgName 11) (dgNil)))) (djItems (dV 7)) (dYes) (dTup (dCons (dV 10) (dCons (dOp gAdd (dV 11) (dC (.int 1))) (dNil)))))) (dLCG [10, 11] (dgTup (dgCons (dgName 10) (dgCons (dgName 11) (dgNil)))) (djItems (dV 7)) (dYes) (dTup (dCons (dV 11) (dCons (dV 10) (dNil)))))) (dgName 9)) <|
  u1_5_law_right W
def u1_3_law_right (W : DW') : TDS :=
  dSeq (dFor (dRange1 (dCons (dC (.int 4)) (dNil))) (dgName 8) (b1_law_right W)) <|
  u1_4_law_right W
def u1_2_law_right (W : DW') : TDS :=
  dSeq (dPar [5, 6, 7] (dCons (dV 3) (dCons (dV 4) (dCons (dLstM (dNil)) (dNil))))) <|
  u1_3_law_right W
def u1_1_law_right (W : DW') : TDS :=
  dSeq (dAsg (dCall sp_law_least W (dCons (dV 2) (dNil))) (dgTup (dgCons (dgName 3) (dgCons (dgName 4) (dgNil))))) <|
  u1_2_law_right W
def b13_law_right (W : DW') : TDS :=
  dSeq (dAsg (dCall sp_law_root W (dCons (dV 0) (dNil))) (dgName 2)) <|
  u1_1_law_right W
def r1_law_right (W : DW') : TDS :=
  dRet (dC (.bl true))
def t_law_right (W : DW') : TDS :=
  dSeq (dFor (dRange1 (dCons (dC (.int 6)) (dNil))) (dgName 1) (b13_law_right W)) <|
  r1_law_right W
theorem mul_pos1 {a b : Int} (ha : 1 ≤ a) (hb : 1 ≤ b) : 1 ≤ a * b := by
  have : 1 * 1 ≤ a * b := Int.mul_le_mul ha hb (by decide) (by omega)
  omega
/-- a pair that is tried -/
def okAB (a b : D) : Prop := (D.solid a = true ∧ D.solid b = true) ∧ ((posB a = false ∨ posB b = false) ∨ ∃ i j, a = .int i ∧ b = .int j ∧ (1 ≤ i ∧ i ≤ 10 ^ 79) ∧ 1 ≤ j ∧ j ≤ 10 ^ 79)
theorem within_pos {a : D} {t : Int} (h : posB a = false) : D.within a 1 t = false := by
  cases a with
  | int i => simp only [posB, decide_eq_false_iff_not] at h; simp [D.within, h]
  | _ => rfl
theorem reb (b : Bool) : (D.lst [.bl b, .bl b]).isRef = true ∧ (D.lst [.bl b, .bl b]).pl 12 = true ∧ (D.lst [.bl b, .bl b]).py.showable = true ∧ (D.lst [.bl b, .bl b]).py.shown.length ≤ 16777216 :=
  repr_ok 200 (by decide) (by simp [D.fit, fits]) rfl (by cases b <;> decide) (by cases b <;> decide)
theorem n79 {i : Int} (h : 1 ≤ i ∧ i ≤ 10 ^ 79) : i.natAbs < 2 ^ 300 := by
  have e : (10 : Int) ^ 79 < ((2 ^ 300 : Nat) : Int) := by decide
  omega
section
variable {d w x y : Int} {ts : List Int} {E : DEnds} {M : Mp} {XE : XE'} {g : Addr} {a b : D} {x1 x2 x3 x4 x5 x6 x7 x8 x9 x10 x11 x12 x13 x14 : Option D}
theorem t79 : (10 : Int) ^ (60 : Int).toNat * 10 ^ (19 : Int).toNat = 10 ^ 79 := by decide
theorem b2_ok (rt : Rt d w) (hab : okAB a b) (h : ∀ z, E.nx [some (.ref g), x1, some (.int d), x3, x4, x5, x6, x7, x8, x9, some a, some b, z, x13, x14] M) :
    b2_law_right (fnW XE) E [some (.ref g), x1, some (.int d), x3, x4, x5, x6, x7, x8, x9, some a, some b, x12, x13, x14] M := by
  have c60 : CPow 10 60 := ⟨by decide, by decide, by decide⟩
  have c19 : CPow 10 19 := ⟨by decide, by decide, by decide⟩
  have m79 : mulOk ((10 : Int) ^ (60 : Int).toNat) (10 ^ (19 : Int).toNat) := mul_r (by decide)
  obtain ⟨⟨sa, sb⟩, hab⟩ := hab
  have ta := solid_tyn (M := M) sa
  have tb := solid_tyn (M := M) sb
  unfold b2_law_right
  simp (config := { decide := false }) only [dMeth, dMakeK, pl_lint, pl_tint, eqv_lint, eqv_tint, decide_true, decide_false, dForJ, djT, djItems, djEnum, djZip, seqJ, dLCG, dLCG2, gMul, gMin1, gMax1, dEnum, dLC, dLCM, dYes, wipeD, dFld, fldOf, dSetF, putD, dMake, dMakeM, mkQ, mkQM, dProp, isOf, gIsC, gIn, gIn2, dDct, gSorted, asI, gRepr, dCallKw, pick, List.filterMap_cons, List.filterMap_nil, List.getElem?_nil, dSeq, dNext, dRet, dRetN, dIfS, dAsg, dgName, dgTup, dgCons, dgNil, dgSub, dPar, dAug, dDrop, dBreak, dCont, dNever, dOp, gI, gT, gPlus, gAdd, gEq, gNe, gIs, gIsNot, gIs2, gIsNot2, gIx, dV, dC, dB, dAnd, dOr, dNot, dAndV, dOrV, dNotV, dIf, dNeg, dChain, dNil, dCons, dTup, dLst, dLstM, dNoPart, dPart, dSl, dCB, dCall, gLen, gAbs, g2, gInt, gStr, gDivmod, gIsTy, gTuple, gList, gSum, gAll, gAny, dAppend, dItems, itemsOf, dRange1, dRange2, dFor, D.onB, D.tyn, D.isNon, asL, rsv, kb_di, kb_db, kb_ds, kb_dt, kb_dl, kb_ii, kb_bi, kb_ni, kb_si, kb_ti, kb_li, kb_ib, kb_bb, kb_nb, kb_sb, kb_tb, kb_lb, kb_is, kb_bs, kb_ns, kb_ss, kb_ts, kb_ls, kb_it, kb_bt, kb_nt, kb_st, kb_tt, kb_lt, startD, List.map_cons, List.map_nil, List.length_cons, List.length_nil, List.cons_append, List.nil_append, List.replicate, List.getElem?_cons_zero, List.getElem?_cons_succ, List.set_cons_zero, List.set_cons_succ, List.zip_cons_cons, List.zip_nil_right, List.foldl_cons, List.foldl_nil, Option.bind_some, Option.bind_none, um_same, um_um, Bool.false_eq_true, reduceCtorEq, false_implies, true_implies, forall_const, true_and, and_true, and_self, Bool.not_true, Bool.not_false, implies_true, decide_eq_true_eq, decide_eq_false_iff_not, Bool.not_eq_true, not_true_eq_false, not_false_eq_true, Bool.not_eq_true', Bool.not_eq_false', D.onB, sizeLine_eq, Nat.reduceAdd, Nat.reduceLeDiff, Nat.zero_add, Nat.reduceLT, pl_bl, pl_i, pl_n, eqv_bl, eqv_ii, eqv_nn, ints_inj, exists_eq_left', exists_eq_left, beq_iff_eq, beq_eq_false_iff_ne, ne_eq, true_or, or_true, false_or, or_false, false_and, and_false, if_true, if_false, List.lookup_cons, beq_self_eq_true, c60, c19, m79, t79, sp_law_is_int, sp_law_told]
  refine ⟨ta, ?_⟩
  rcases hab with hp | ⟨i, j, rfl, rfl, hi, hj⟩
  · have fin : ∀ {P1 P2 : Prop}, P2 → ∃ b1, (∀ (R : DK) (E2 : XE'), R (.bl b1) M → sp_accepts [.tup [.str "solution", .int d, a, b], .tup []] M R E2) ∧ ((D.lst [.bl b1, .bl b1]).isRef = true ∧ (D.lst [.bl b1, .bl b1]).pl 12 = true ∧ (D.lst [.bl b1, .bl b1]).py.showable = true ∧ (D.lst [.bl b1, .bl b1]).py.shown.length ≤ 16777216) ∧
        ((D.lst [.bl false, .bl false]).isRef = true ∧ (D.lst [.bl false, .bl false]).pl 12 = true ∧ (D.lst [.bl false, .bl false]).py.showable = true ∧ (D.lst [.bl false, .bl false]).py.shown.length ≤ 16777216) ∧
        (decide ((D.lst [.bl b1, .bl b1]).py.shown = (D.lst [.bl false, .bl false]).py.shown) = false → P1) ∧ (decide ((D.lst [.bl b1, .bl b1]).py.shown = (D.lst [.bl false, .bl false]).py.shown) = true → P2) := fun {P1 P2} h2 =>
      ⟨false, fun R E2 hr => acc_go (by decide) ⟨rfl, sa, sb, rfl⟩ (.noNum d w rfl rt hp) hr, reb false, reb false, fun z => absurd z (by simp), fun _ => h2⟩
    cases hwa : D.within a 1 (10 ^ 79) with
    | false => simp (config := { decide := false }) only [dMeth, dMakeK, pl_lint, pl_tint, eqv_lint, eqv_tint, decide_true, decide_false, dForJ, djT, djItems, djEnum, djZip, seqJ, dLCG, dLCG2, gMul, gMin1, gMax1, dEnum, dLC, dLCM, dYes, wipeD, dFld, fldOf, dSetF, putD, dMake, dMakeM, mkQ, mkQM, dProp, isOf, gIsC, gIn, gIn2, dDct, gSorted, asI, gRepr, dCallKw, pick, List.filterMap_cons, List.filterMap_nil, List.getElem?_nil, dSeq, dNext, dRet, dRetN, dIfS, dAsg, dgName, dgTup, dgCons, dgNil, dgSub, dPar, dAug, dDrop, dBreak, dCont, dNever, dOp, gI, gT, gPlus, gAdd, gEq, gNe, gIs, gIsNot, gIs2, gIsNot2, gIx, dV, dC, dB, dAnd, dOr, dNot, dAndV, dOrV, dNotV, dIf, dNeg, dChain, dNil, dCons, dTup, dLst, dLstM, dNoPart, dPart, dSl, dCB, dCall, gLen, gAbs, g2, gInt, gStr, gDivmod, gIsTy, gTuple, gList, gSum, gAll, gAny, dAppend, dItems, itemsOf, dRange1, dRange2, dFor, D.onB, D.tyn, D.isNon, asL, rsv, kb_di, kb_db, kb_ds, kb_dt, kb_dl, kb_ii, kb_bi, kb_ni, kb_si, kb_ti, kb_li, kb_ib, kb_bb, kb_nb, kb_sb, kb_tb, kb_lb, kb_is, kb_bs, kb_ns, kb_ss, kb_ts, kb_ls, kb_it, kb_bt, kb_nt, kb_st, kb_tt, kb_lt, startD, List.map_cons, List.map_nil, List.length_cons, List.length_nil, List.cons_append, List.nil_append, List.replicate, List.getElem?_cons_zero, List.getElem?_cons_succ, List.set_cons_zero, List.set_cons_succ, List.zip_cons_cons, List.zip_nil_right, List.foldl_cons, List.foldl_nil, Option.bind_some, Option.bind_none, um_same, um_um, Bool.false_eq_true, reduceCtorEq, false_implies, true_implies, forall_const, true_and, and_true, and_self, Bool.not_true, Bool.not_false, implies_true, decide_eq_true_eq, decide_eq_false_iff_not, Bool.not_eq_true, not_true_eq_false, not_false_eq_true, Bool.not_eq_true', Bool.not_eq_false', D.onB, sizeLine_eq, Nat.reduceAdd, Nat.reduceLeDiff, Nat.zero_add, Nat.reduceLT, pl_bl, pl_i, pl_n, eqv_bl, eqv_ii, eqv_nn, ints_inj, exists_eq_left', exists_eq_left, beq_iff_eq, beq_eq_false_iff_ne, ne_eq, true_or, or_true, false_or, or_false, false_and, and_false, if_true, if_false, List.lookup_cons, beq_self_eq_true]; exact fin (h _)
    | true =>
      have hwb : D.within b 1 (10 ^ 79) = false := by
        rcases hp with q | q
        · rw [within_pos q] at hwa; cases hwa
        · exact within_pos q
      simp (config := { decide := false }) only [dMeth, dMakeK, pl_lint, pl_tint, eqv_lint, eqv_tint, decide_true, decide_false, dForJ, djT, djItems, djEnum, djZip, seqJ, dLCG, dLCG2, gMul, gMin1, gMax1, dEnum, dLC, dLCM, dYes, wipeD, dFld, fldOf, dSetF, putD, dMake, dMakeM, mkQ, mkQM, dProp, isOf, gIsC, gIn, gIn2, dDct, gSorted, asI, gRepr, dCallKw, pick, List.filterMap_cons, List.filterMap_nil, List.getElem?_nil, dSeq, dNext, dRet, dRetN, dIfS, dAsg, dgName, dgTup, dgCons, dgNil, dgSub, dPar, dAug, dDrop, dBreak, dCont, dNever, dOp, gI, gT, gPlus, gAdd, gEq, gNe, gIs, gIsNot, gIs2, gIsNot2, gIx, dV, dC, dB, dAnd, dOr, dNot, dAndV, dOrV, dNotV, dIf, dNeg, dChain, dNil, dCons, dTup, dLst, dLstM, dNoPart, dPart, dSl, dCB, dCall, gLen, gAbs, g2, gInt, gStr, gDivmod, gIsTy, gTuple, gList, gSum, gAll, gAny, dAppend, dItems, itemsOf, dRange1, dRange2, dFor, D.onB, D.tyn, D.isNon, asL, rsv, kb_di, kb_db, kb_ds, kb_dt, kb_dl, kb_ii, kb_bi, kb_ni, kb_si, kb_ti, kb_li, kb_ib, kb_bb, kb_nb, kb_sb, kb_tb, kb_lb, kb_is, kb_bs, kb_ns, kb_ss, kb_ts, kb_ls, kb_it, kb_bt, kb_nt, kb_st, kb_tt, kb_lt, startD, List.map_cons, List.map_nil, List.length_cons, List.length_nil, List.cons_append, List.nil_append, List.replicate, List.getElem?_cons_zero, List.getElem?_cons_succ, List.set_cons_zero, List.set_cons_succ, List.zip_cons_cons, List.zip_nil_right, List.foldl_cons, List.foldl_nil, Option.bind_some, Option.bind_none, um_same, um_um, Bool.false_eq_true, reduceCtorEq, false_implies, true_implies, forall_const, true_and, and_true, and_self, Bool.not_true, Bool.not_false, implies_true, decide_eq_true_eq, decide_eq_false_iff_not, Bool.not_eq_true, not_true_eq_false, not_false_eq_true, Bool.not_eq_true', Bool.not_eq_false', D.onB, sizeLine_eq, Nat.reduceAdd, Nat.reduceLeDiff, Nat.zero_add, Nat.reduceLT, pl_bl, pl_i, pl_n, eqv_bl, eqv_ii, eqv_nn, ints_inj, exists_eq_left', exists_eq_left, beq_iff_eq, beq_eq_false_iff_ne, ne_eq, true_or, or_true, false_or, or_false, false_and, and_false, if_true, if_false, List.lookup_cons, beq_self_eq_true, hwb]
      exact ⟨tb, fin (h _)⟩
  · have wi : D.within (.int i) 1 (10 ^ 79) = true := by simp only [D.within, decide_eq_true hi.1, decide_eq_true hi.2]; rfl
    have wj : D.within (.int j) 1 (10 ^ 79) = true := by simp only [D.within, decide_eq_true hj.1, decide_eq_true hj.2]; rfl
    have bi := n79 hi
    have bj := n79 hj
    have dl : d.natAbs < 2 ^ 20 := by have := rt.2.1; have := rt.2.2.1; omega
    have m1 : mulOk i i := mul_w _ _ bi bi (by decide)
    have m2 : mulOk d j := mul_w _ _ dl bj (by decide)
    have m3 : mulOk (d * j) j := mul_w _ _ (abs_mul_lt dl bj) bj (by decide)
    simp (config := { decide := false }) only [dMeth, dMakeK, pl_lint, pl_tint, eqv_lint, eqv_tint, decide_true, decide_false, dForJ, djT, djItems, djEnum, djZip, seqJ, dLCG, dLCG2, gMul, gMin1, gMax1, dEnum, dLC, dLCM, dYes, wipeD, dFld, fldOf, dSetF, putD, dMake, dMakeM, mkQ, mkQM, dProp, isOf, gIsC, gIn, gIn2, dDct, gSorted, asI, gRepr, dCallKw, pick, List.filterMap_cons, List.filterMap_nil, List.getElem?_nil, dSeq, dNext, dRet, dRetN, dIfS, dAsg, dgName, dgTup, dgCons, dgNil, dgSub, dPar, dAug, dDrop, dBreak, dCont, dNever, dOp, gI, gT, gPlus, gAdd, gEq, gNe, gIs, gIsNot, gIs2, gIsNot2, gIx, dV, dC, dB, dAnd, dOr, dNot, dAndV, dOrV, dNotV, dIf, dNeg, dChain, dNil, dCons, dTup, dLst, dLstM, dNoPart, dPart, dSl, dCB, dCall, gLen, gAbs, g2, gInt, gStr, gDivmod, gIsTy, gTuple, gList, gSum, gAll, gAny, dAppend, dItems, itemsOf, dRange1, dRange2, dFor, D.onB, D.tyn, D.isNon, asL, rsv, kb_di, kb_db, kb_ds, kb_dt, kb_dl, kb_ii, kb_bi, kb_ni, kb_si, kb_ti, kb_li, kb_ib, kb_bb, kb_nb, kb_sb, kb_tb, kb_lb, kb_is, kb_bs, kb_ns, kb_ss, kb_ts, kb_ls, kb_it, kb_bt, kb_nt, kb_st, kb_tt, kb_lt, startD, List.map_cons, List.map_nil, List.length_cons, List.length_nil, List.cons_append, List.nil_append, List.replicate, List.getElem?_cons_zero, List.getElem?_cons_succ, List.set_cons_zero, List.set_cons_succ, List.zip_cons_cons, List.zip_nil_right, List.foldl_cons, List.foldl_nil, Option.bind_some, Option.bind_none, um_same, um_um, Bool.false_eq_true, reduceCtorEq, false_implies, true_implies, forall_const, true_and, and_true, and_self, Bool.not_true, Bool.not_false, implies_true, decide_eq_true_eq, decide_eq_false_iff_not, Bool.not_eq_true, not_true_eq_false, not_false_eq_true, Bool.not_eq_true', Bool.not_eq_false', D.onB, sizeLine_eq, Nat.reduceAdd, Nat.reduceLeDiff, Nat.zero_add, Nat.reduceLT, pl_bl, pl_i, pl_n, eqv_bl, eqv_ii, eqv_nn, ints_inj, exists_eq_left', exists_eq_left, beq_iff_eq, beq_eq_false_iff_ne, ne_eq, true_or, or_true, false_or, or_false, false_and, and_false, if_true, if_false, List.lookup_cons, beq_self_eq_true, wi, wj, m1, m2, m3]
    refine ⟨decide (i * i - d * j * j = 1), fun R E2 hr => ?_, reb _, reb _, fun z => absurd z (by simp), fun _ => h _⟩
    refine acc_go (by decide) ⟨rfl, rfl, rfl, rfl⟩ (.sol d w i j rfl rt rfl rfl ⟨hi.1, hj.1⟩ ⟨Nat.lt_of_lt_of_le bi (Nat.pow_le_pow_right (by decide) (by decide)), Nat.lt_of_lt_of_le bj (Nat.pow_le_pow_right (by decide) (by decide))⟩ rfl) ?_
    exact hr
theorem b3_ok (s : Sol d w ts x y) (hs : D.solid a = true) (he : D.empty a = false) (h : E.nx [some (.ref g), x1, some (.int d), some (.int x), some (.int y), x5, x6, x7, x8, x9, x10, x11, x12, some a, x14] M) :
    b3_law_right (fnW XE) E [some (.ref g), x1, some (.int d), some (.int x), some (.int y), x5, x6, x7, x8, x9, x10, x11, x12, some a, x14] M := by
  unfold b3_law_right
  simp (config := { decide := false }) only [dMeth, dMakeK, pl_lint, pl_tint, eqv_lint, eqv_tint, decide_true, decide_false, dForJ, djT, djItems, djEnum, djZip, seqJ, dLCG, dLCG2, gMul, gMin1, gMax1, dEnum, dLC, dLCM, dYes, wipeD, dFld, fldOf, dSetF, putD, dMake, dMakeM, mkQ, mkQM, dProp, isOf, gIsC, gIn, gIn2, dDct, gSorted, asI, gRepr, dCallKw, pick, List.filterMap_cons, List.filterMap_nil, List.getElem?_nil, dSeq, dNext, dRet, dRetN, dIfS, dAsg, dgName, dgTup, dgCons, dgNil, dgSub, dPar, dAug, dDrop, dBreak, dCont, dNever, dOp, gI, gT, gPlus, gAdd, gEq, gNe, gIs, gIsNot, gIs2, gIsNot2, gIx, dV, dC, dB, dAnd, dOr, dNot, dAndV, dOrV, dNotV, dIf, dNeg, dChain, dNil, dCons, dTup, dLst, dLstM, dNoPart, dPart, dSl, dCB, dCall, gLen, gAbs, g2, gInt, gStr, gDivmod, gIsTy, gTuple, gList, gSum, gAll, gAny, dAppend, dItems, itemsOf, dRange1, dRange2, dFor, D.onB, D.tyn, D.isNon, asL, rsv, kb_di, kb_db, kb_ds, kb_dt, kb_dl, kb_ii, kb_bi, kb_ni, kb_si, kb_ti, kb_li, kb_ib, kb_bb, kb_nb, kb_sb, kb_tb, kb_lb, kb_is, kb_bs, kb_ns, kb_ss, kb_ts, kb_ls, kb_it, kb_bt, kb_nt, kb_st, kb_tt, kb_lt, startD, List.map_cons, List.map_nil, List.length_cons, List.length_nil, List.cons_append, List.nil_append, List.replicate, List.getElem?_cons_zero, List.getElem?_cons_succ, List.set_cons_zero, List.set_cons_succ, List.zip_cons_cons, List.zip_nil_right, List.foldl_cons, List.foldl_nil, Option.bind_some, Option.bind_none, um_same, um_um, Bool.false_eq_true, reduceCtorEq, false_implies, true_implies, forall_const, true_and, and_true, and_self, Bool.not_true, Bool.not_false, implies_true, decide_eq_true_eq, decide_eq_false_iff_not, Bool.not_eq_true, not_true_eq_false, not_false_eq_true, Bool.not_eq_true', Bool.not_eq_false', D.onB, sizeLine_eq, Nat.reduceAdd, Nat.reduceLeDiff, Nat.zero_add, Nat.reduceLT, pl_bl, pl_i, pl_n, eqv_bl, eqv_ii, eqv_nn, ints_inj, exists_eq_left', exists_eq_left, beq_iff_eq, beq_eq_false_iff_ne, ne_eq, true_or, or_true, false_or, or_false, false_and, and_false, if_true, if_false, List.lookup_cons, beq_self_eq_true]
  refine acc_go (by decide) ⟨rfl, rfl, rfl, hs⟩ (.sol d w x y rfl s.cf.1 rfl rfl ⟨s.x1, s.y1⟩ ⟨Nat.lt_of_lt_of_le s.xb (Nat.pow_le_pow_right (by decide) (by decide)), Nat.lt_of_lt_of_le s.yb (Nat.pow_le_pow_right (by decide) (by decide))⟩ rfl) ?_
  rw [he, Bool.false_and]
  simp (config := { decide := false }) only [dMeth, dMakeK, pl_lint, pl_tint, eqv_lint, eqv_tint, decide_true, decide_false, dForJ, djT, djItems, djEnum, djZip, seqJ, dLCG, dLCG2, gMul, gMin1, gMax1, dEnum, dLC, dLCM, dYes, wipeD, dFld, fldOf, dSetF, putD, dMake, dMakeM, mkQ, mkQM, dProp, isOf, gIsC, gIn, gIn2, dDct, gSorted, asI, gRepr, dCallKw, pick, List.filterMap_cons, List.filterMap_nil, List.getElem?_nil, dSeq, dNext, dRet, dRetN, dIfS, dAsg, dgName, dgTup, dgCons, dgNil, dgSub, dPar, dAug, dDrop, dBreak, dCont, dNever, dOp, gI, gT, gPlus, gAdd, gEq, gNe, gIs, gIsNot, gIs2, gIsNot2, gIx, dV, dC, dB, dAnd, dOr, dNot, dAndV, dOrV, dNotV, dIf, dNeg, dChain, dNil, dCons, dTup, dLst, dLstM, dNoPart, dPart, dSl, dCB, dCall, gLen, gAbs, g2, gInt, gStr, gDivmod, gIsTy, gTuple, gList, gSum, gAll, gAny, dAppend, dItems, itemsOf, dRange1, dRange2, dFor, D.onB, D.tyn, D.isNon, asL, rsv, kb_di, kb_db, kb_ds, kb_dt, kb_dl, kb_ii, kb_bi, kb_ni, kb_si, kb_ti, kb_li, kb_ib, kb_bb, kb_nb, kb_sb, kb_tb, kb_lb, kb_is, kb_bs, kb_ns, kb_ss, kb_ts, kb_ls, kb_it, kb_bt, kb_nt, kb_st, kb_tt, kb_lt, startD, List.map_cons, List.map_nil, List.length_cons, List.length_nil, List.cons_append, List.nil_append, List.replicate, List.getElem?_cons_zero, List.getElem?_cons_succ, List.set_cons_zero, List.set_cons_succ, List.zip_cons_cons, List.zip_nil_right, List.foldl_cons, List.foldl_nil, Option.bind_some, Option.bind_none, um_same, um_um, Bool.false_eq_true, reduceCtorEq, false_implies, true_implies, forall_const, true_and, and_true, and_self, Bool.not_true, Bool.not_false, implies_true, decide_eq_true_eq, decide_eq_false_iff_not, Bool.not_eq_true, not_true_eq_false, not_false_eq_true, Bool.not_eq_true', Bool.not_eq_false', D.onB, sizeLine_eq, Nat.reduceAdd, Nat.reduceLeDiff, Nat.zero_add, Nat.reduceLT, pl_bl, pl_i, pl_n, eqv_bl, eqv_ii, eqv_nn, ints_inj, exists_eq_left', exists_eq_left, beq_iff_eq, beq_eq_false_iff_ne, ne_eq, true_or, or_true, false_or, or_false, false_and, and_false, if_true, if_false, List.lookup_cons, beq_self_eq_true]
  exact h
/-- no root -/
def noRt (a : D) : Prop := D.solid a = true ∧ (D.within a 2 1000000 = false ∨ ∃ d w : Int, a = .int d ∧ (2 ≤ d ∧ d ≤ 1000000) ∧ w * w = d)
theorem b4_ok (hn : noRt a) (h : E.nx [some (.ref g), x1, some (.int d), some (.int x), some (.int y), x5, x6, x7, x8, x9, x10, x11, x12, x13, some a] M) :
    b4_law_right (fnW XE) E [some (.ref g), x1, some (.int d), some (.int x), some (.int y), x5, x6, x7, x8, x9, x10, x11, x12, x13, some a] M := by
  unfold b4_law_right
  simp (config := { decide := false }) only [dMeth, dMakeK, pl_lint, pl_tint, eqv_lint, eqv_tint, decide_true, decide_false, dForJ, djT, djItems, djEnum, djZip, seqJ, dLCG, dLCG2, gMul, gMin1, gMax1, dEnum, dLC, dLCM, dYes, wipeD, dFld, fldOf, dSetF, putD, dMake, dMakeM, mkQ, mkQM, dProp, isOf, gIsC, gIn, gIn2, dDct, gSorted, asI, gRepr, dCallKw, pick, List.filterMap_cons, List.filterMap_nil, List.getElem?_nil, dSeq, dNext, dRet, dRetN, dIfS, dAsg, dgName, dgTup, dgCons, dgNil, dgSub, dPar, dAug, dDrop, dBreak, dCont, dNever, dOp, gI, gT, gPlus, gAdd, gEq, gNe, gIs, gIsNot, gIs2, gIsNot2, gIx, dV, dC, dB, dAnd, dOr, dNot, dAndV, dOrV, dNotV, dIf, dNeg, dChain, dNil, dCons, dTup, dLst, dLstM, dNoPart, dPart, dSl, dCB, dCall, gLen, gAbs, g2, gInt, gStr, gDivmod, gIsTy, gTuple, gList, gSum, gAll, gAny, dAppend, dItems, itemsOf, dRange1, dRange2, dFor, D.onB, D.tyn, D.isNon, asL, rsv, kb_di, kb_db, kb_ds, kb_dt, kb_dl, kb_ii, kb_bi, kb_ni, kb_si, kb_ti, kb_li, kb_ib, kb_bb, kb_nb, kb_sb, kb_tb, kb_lb, kb_is, kb_bs, kb_ns, kb_ss, kb_ts, kb_ls, kb_it, kb_bt, kb_nt, kb_st, kb_tt, kb_lt, startD, List.map_cons, List.map_nil, List.length_cons, List.length_nil, List.cons_append, List.nil_append, List.replicate, List.getElem?_cons_zero, List.getElem?_cons_succ, List.set_cons_zero, List.set_cons_succ, List.zip_cons_cons, List.zip_nil_right, List.foldl_cons, List.foldl_nil, Option.bind_some, Option.bind_none, um_same, um_um, Bool.false_eq_true, reduceCtorEq, false_implies, true_implies, forall_const, true_and, and_true, and_self, Bool.not_true, Bool.not_false, implies_true, decide_eq_true_eq, decide_eq_false_iff_not, Bool.not_eq_true, not_true_eq_false, not_false_eq_true, Bool.not_eq_true', Bool.not_eq_false', D.onB, sizeLine_eq, Nat.reduceAdd, Nat.reduceLeDiff, Nat.zero_add, Nat.reduceLT, pl_bl, pl_i, pl_n, eqv_bl, eqv_ii, eqv_nn, ints_inj, exists_eq_left', exists_eq_left, beq_iff_eq, beq_eq_false_iff_ne, ne_eq, true_or, or_true, false_or, or_false, false_and, and_false, if_true, if_false, List.lookup_cons, beq_self_eq_true]
  obtain ⟨hs, hn | ⟨e, v, rfl, he, hv⟩⟩ := hn
  · refine acc_go (by decide) ⟨hs, rfl, rfl, rfl⟩ (.noRoot hn) ?_
    simp (config := { decide := false }) only [dMeth, dMakeK, pl_lint, pl_tint, eqv_lint, eqv_tint, decide_true, decide_false, dForJ, djT, djItems, djEnum, djZip, seqJ, dLCG, dLCG2, gMul, gMin1, gMax1, dEnum, dLC, dLCM, dYes, wipeD, dFld, fldOf, dSetF, putD, dMake, dMakeM, mkQ, mkQM, dProp, isOf, gIsC, gIn, gIn2, dDct, gSorted, asI, gRepr, dCallKw, pick, List.filterMap_cons, List.filterMap_nil, List.getElem?_nil, dSeq, dNext, dRet, dRetN, dIfS, dAsg, dgName, dgTup, dgCons, dgNil, dgSub, dPar, dAug, dDrop, dBreak, dCont, dNever, dOp, gI, gT, gPlus, gAdd, gEq, gNe, gIs, gIsNot, gIs2, gIsNot2, gIx, dV, dC, dB, dAnd, dOr, dNot, dAndV, dOrV, dNotV, dIf, dNeg, dChain, dNil, dCons, dTup, dLst, dLstM, dNoPart, dPart, dSl, dCB, dCall, gLen, gAbs, g2, gInt, gStr, gDivmod, gIsTy, gTuple, gList, gSum, gAll, gAny, dAppend, dItems, itemsOf, dRange1, dRange2, dFor, D.onB, D.tyn, D.isNon, asL, rsv, kb_di, kb_db, kb_ds, kb_dt, kb_dl, kb_ii, kb_bi, kb_ni, kb_si, kb_ti, kb_li, kb_ib, kb_bb, kb_nb, kb_sb, kb_tb, kb_lb, kb_is, kb_bs, kb_ns, kb_ss, kb_ts, kb_ls, kb_it, kb_bt, kb_nt, kb_st, kb_tt, kb_lt, startD, List.map_cons, List.map_nil, List.length_cons, List.length_nil, List.cons_append, List.nil_append, List.replicate, List.getElem?_cons_zero, List.getElem?_cons_succ, List.set_cons_zero, List.set_cons_succ, List.zip_cons_cons, List.zip_nil_right, List.foldl_cons, List.foldl_nil, Option.bind_some, Option.bind_none, um_same, um_um, Bool.false_eq_true, reduceCtorEq, false_implies, true_implies, forall_const, true_and, and_true, and_self, Bool.not_true, Bool.not_false, implies_true, decide_eq_true_eq, decide_eq_false_iff_not, Bool.not_eq_true, not_true_eq_false, not_false_eq_true, Bool.not_eq_true', Bool.not_eq_false', D.onB, sizeLine_eq, Nat.reduceAdd, Nat.reduceLeDiff, Nat.zero_add, Nat.reduceLT, pl_bl, pl_i, pl_n, eqv_bl, eqv_ii, eqv_nn, ints_inj, exists_eq_left', exists_eq_left, beq_iff_eq, beq_eq_false_iff_ne, ne_eq, true_or, or_true, false_or, or_false, false_and, and_false, if_true, if_false, List.lookup_cons, beq_self_eq_true]
    exact h
  · refine acc_go (by decide) ⟨rfl, rfl, rfl, rfl⟩ (.square e v rfl he hv) ?_
    simp (config := { decide := false }) only [dMeth, dMakeK, pl_lint, pl_tint, eqv_lint, eqv_tint, decide_true, decide_false, dForJ, djT, djItems, djEnum, djZip, seqJ, dLCG, dLCG2, gMul, gMin1, gMax1, dEnum, dLC, dLCM, dYes, wipeD, dFld, fldOf, dSetF, putD, dMake, dMakeM, mkQ, mkQM, dProp, isOf, gIsC, gIn, gIn2, dDct, gSorted, asI, gRepr, dCallKw, pick, List.filterMap_cons, List.filterMap_nil, List.getElem?_nil, dSeq, dNext, dRet, dRetN, dIfS, dAsg, dgName, dgTup, dgCons, dgNil, dgSub, dPar, dAug, dDrop, dBreak, dCont, dNever, dOp, gI, gT, gPlus, gAdd, gEq, gNe, gIs, gIsNot, gIs2, gIsNot2, gIx, dV, dC, dB, dAnd, dOr, dNot, dAndV, dOrV, dNotV, dIf, dNeg, dChain, dNil, dCons, dTup, dLst, dLstM, dNoPart, dPart, dSl, dCB, dCall, gLen, gAbs, g2, gInt, gStr, gDivmod, gIsTy, gTuple, gList, gSum, gAll, gAny, dAppend, dItems, itemsOf, dRange1, dRange2, dFor, D.onB, D.tyn, D.isNon, asL, rsv, kb_di, kb_db, kb_ds, kb_dt, kb_dl, kb_ii, kb_bi, kb_ni, kb_si, kb_ti, kb_li, kb_ib, kb_bb, kb_nb, kb_sb, kb_tb, kb_lb, kb_is, kb_bs, kb_ns, kb_ss, kb_ts, kb_ls, kb_it, kb_bt, kb_nt, kb_st, kb_tt, kb_lt, startD, List.map_cons, List.map_nil, List.length_cons, List.length_nil, List.cons_append, List.nil_append, List.replicate, List.getElem?_cons_zero, List.getElem?_cons_succ, List.set_cons_zero, List.set_cons_succ, List.zip_cons_cons, List.zip_nil_right, List.foldl_cons, List.foldl_nil, Option.bind_some, Option.bind_none, um_same, um_um, Bool.false_eq_true, reduceCtorEq, false_implies, true_implies, forall_const, true_and, and_true, and_self, Bool.not_true, Bool.not_false, implies_true, decide_eq_true_eq, decide_eq_false_iff_not, Bool.not_eq_true, not_true_eq_false, not_false_eq_true, Bool.not_eq_true', Bool.not_eq_false', D.onB, sizeLine_eq, Nat.reduceAdd, Nat.reduceLeDiff, Nat.zero_add, Nat.reduceLT, pl_bl, pl_i, pl_n, eqv_bl, eqv_ii, eqv_nn, ints_inj, exists_eq_left', exists_eq_left, beq_iff_eq, beq_eq_false_iff_ne, ne_eq, true_or, or_true, false_or, or_false, false_and, and_false, if_true, if_false, List.lookup_cons, beq_self_eq_true]
    exact h
theorem u7_ok (s : Sol d w ts x y) (h : ∀ x13 x14, E.nx [some (.ref g), x1, some (.int d), some (.int x), some (.int y), x5, x6, x7, x8, x9, x10, x11, x12, x13, x14] M) :
    u1_7_law_right (fnW XE) E [some (.ref g), x1, some (.int d), some (.int x), some (.int y), x5, x6, x7, x8, x9, x10, x11, x12, x13, x14] M := by
  unfold u1_7_law_right
  simp (config := { decide := false }) only [dMeth, dMakeK, pl_lint, pl_tint, eqv_lint, eqv_tint, decide_true, decide_false, dForJ, djT, djItems, djEnum, djZip, seqJ, dLCG, dLCG2, gMul, gMin1, gMax1, dEnum, dLC, dLCM, dYes, wipeD, dFld, fldOf, dSetF, putD, dMake, dMakeM, mkQ, mkQM, dProp, isOf, gIsC, gIn, gIn2, dDct, gSorted, asI, gRepr, dCallKw, pick, List.filterMap_cons, List.filterMap_nil, List.getElem?_nil, dSeq, dNext, dRet, dRetN, dIfS, dAsg, dgName, dgTup, dgCons, dgNil, dgSub, dPar, dAug, dDrop, dBreak, dCont, dNever, dOp, gI, gT, gPlus, gAdd, gEq, gNe, gIs, gIsNot, gIs2, gIsNot2, gIx, dV, dC, dB, dAnd, dOr, dNot, dAndV, dOrV, dNotV, dIf, dNeg, dChain, dNil, dCons, dTup, dLst, dLstM, dNoPart, dPart, dSl, dCB, dCall, gLen, gAbs, g2, gInt, gStr, gDivmod, gIsTy, gTuple, gList, gSum, gAll, gAny, dAppend, dItems, itemsOf, dRange1, dRange2, dFor, D.onB, D.tyn, D.isNon, asL, rsv, kb_di, kb_db, kb_ds, kb_dt, kb_dl, kb_ii, kb_bi, kb_ni, kb_si, kb_ti, kb_li, kb_ib, kb_bb, kb_nb, kb_sb, kb_tb, kb_lb, kb_is, kb_bs, kb_ns, kb_ss, kb_ts, kb_ls, kb_it, kb_bt, kb_nt, kb_st, kb_tt, kb_lt, startD, List.map_cons, List.map_nil, List.length_cons, List.length_nil, List.cons_append, List.nil_append, List.replicate, List.getElem?_cons_zero, List.getElem?_cons_succ, List.set_cons_zero, List.set_cons_succ, List.zip_cons_cons, List.zip_nil_right, List.foldl_cons, List.foldl_nil, Option.bind_some, Option.bind_none, um_same, um_um, Bool.false_eq_true, reduceCtorEq, false_implies, true_implies, forall_const, true_and, and_true, and_self, Bool.not_true, Bool.not_false, implies_true, decide_eq_true_eq, decide_eq_false_iff_not, Bool.not_eq_true, not_true_eq_false, not_false_eq_true, Bool.not_eq_true', Bool.not_eq_false', D.onB, sizeLine_eq, Nat.reduceAdd, Nat.reduceLeDiff, Nat.zero_add, Nat.reduceLT, pl_bl, pl_i, pl_n, eqv_bl, eqv_ii, eqv_nn, ints_inj, exists_eq_left', exists_eq_left, beq_iff_eq, beq_eq_false_iff_ne, ne_eq, true_or, or_true, false_or, or_false, false_and, and_false, if_true, if_false, List.lookup_cons, beq_self_eq_true, sp_law_terms]
  refine ⟨w, ts, s.cf, ?_⟩
  refine for_by (fun i ρ M' => M' = M ∧ ∃ z, ρ = [some (.ref g), x1, some (.int d), some (.int x), some (.int y), x5, x6, x7, x8, x9, x10, x11, x12, z, x14]) ⟨rfl, _, rfl⟩ ?_ ?_
  · rintro i dd ρ M' P hi ⟨rfl, z, rfl⟩ hP
    have hm := List.mem_of_getElem? hi
    have key : D.solid dd = true ∧ D.empty dd = false := by
      simp only [List.mem_cons, List.not_mem_nil, or_false] at hm
      rcases hm with rfl | rfl | rfl | rfl | rfl | rfl | rfl | rfl | rfl
      all_goals first
        | exact ⟨rfl, rfl⟩
        | exact ⟨solid_paper w ts, rfl⟩
    simp (config := { decide := false }) only [dMeth, dMakeK, pl_lint, pl_tint, eqv_lint, eqv_tint, decide_true, decide_false, dForJ, djT, djItems, djEnum, djZip, seqJ, dLCG, dLCG2, gMul, gMin1, gMax1, dEnum, dLC, dLCM, dYes, wipeD, dFld, fldOf, dSetF, putD, dMake, dMakeM, mkQ, mkQM, dProp, isOf, gIsC, gIn, gIn2, dDct, gSorted, asI, gRepr, dCallKw, pick, List.filterMap_cons, List.filterMap_nil, List.getElem?_nil, dSeq, dNext, dRet, dRetN, dIfS, dAsg, dgName, dgTup, dgCons, dgNil, dgSub, dPar, dAug, dDrop, dBreak, dCont, dNever, dOp, gI, gT, gPlus, gAdd, gEq, gNe, gIs, gIsNot, gIs2, gIsNot2, gIx, dV, dC, dB, dAnd, dOr, dNot, dAndV, dOrV, dNotV, dIf, dNeg, dChain, dNil, dCons, dTup, dLst, dLstM, dNoPart, dPart, dSl, dCB, dCall, gLen, gAbs, g2, gInt, gStr, gDivmod, gIsTy, gTuple, gList, gSum, gAll, gAny, dAppend, dItems, itemsOf, dRange1, dRange2, dFor, D.onB, D.tyn, D.isNon, asL, rsv, kb_di, kb_db, kb_ds, kb_dt, kb_dl, kb_ii, kb_bi, kb_ni, kb_si, kb_ti, kb_li, kb_ib, kb_bb, kb_nb, kb_sb, kb_tb, kb_lb, kb_is, kb_bs, kb_ns, kb_ss, kb_ts, kb_ls, kb_it, kb_bt, kb_nt, kb_st, kb_tt, kb_lt, startD, List.map_cons, List.map_nil, List.length_cons, List.length_nil, List.cons_append, List.nil_append, List.replicate, List.getElem?_cons_zero, List.getElem?_cons_succ, List.set_cons_zero, List.set_cons_succ, List.zip_cons_cons, List.zip_nil_right, List.foldl_cons, List.foldl_nil, Option.bind_some, Option.bind_none, um_same, um_um, Bool.false_eq_true, reduceCtorEq, false_implies, true_implies, forall_const, true_and, and_true, and_self, Bool.not_true, Bool.not_false, implies_true, decide_eq_true_eq, decide_eq_false_iff_not, Bool.not_eq_true, not_true_eq_false, not_false_eq_true, Bool.not_eq_true', Bool.not_eq_false', D.onB, sizeLine_eq, Nat.reduceAdd, Nat.reduceLeDiff, Nat.zero_add, Nat.reduceLT, pl_bl, pl_i, pl_n, eqv_bl, eqv_ii, eqv_nn, ints_inj, exists_eq_left', exists_eq_left, beq_iff_eq, beq_eq_false_iff_ne, ne_eq, true_or, or_true, false_or, or_false, false_and, and_false, if_true, if_false, List.lookup_cons, beq_self_eq_true]
    exact b3_ok s key.1 key.2 (Wk.of (hP _ _ ⟨rfl, _, rfl⟩))
  rintro ρ M' ⟨rfl, z, rfl⟩
  unfold u1_8_law_right
  have c6 : CPow 10 6 := ⟨by decide, by decide, by decide⟩
  have dl := s.cf.1.2.1
  have du := s.cf.1.2.2.1
  have e6 : (10 : Int) ^ (6 : Int).toNat = 1000000 := by decide
  have lg : d.natAbs.log2 < 1920 := by
    have := log_le (x := d) (n := 20) (by omega)
    omega
  have mo : mulOk d d := mul_l ⟨by omega, by omega⟩
  simp (config := { decide := false }) only [dMeth, dMakeK, pl_lint, pl_tint, eqv_lint, eqv_tint, decide_true, decide_false, dForJ, djT, djItems, djEnum, djZip, seqJ, dLCG, dLCG2, gMul, gMin1, gMax1, dEnum, dLC, dLCM, dYes, wipeD, dFld, fldOf, dSetF, putD, dMake, dMakeM, mkQ, mkQM, dProp, isOf, gIsC, gIn, gIn2, dDct, gSorted, asI, gRepr, dCallKw, pick, List.filterMap_cons, List.filterMap_nil, List.getElem?_nil, dSeq, dNext, dRet, dRetN, dIfS, dAsg, dgName, dgTup, dgCons, dgNil, dgSub, dPar, dAug, dDrop, dBreak, dCont, dNever, dOp, gI, gT, gPlus, gAdd, gEq, gNe, gIs, gIsNot, gIs2, gIsNot2, gIx, dV, dC, dB, dAnd, dOr, dNot, dAndV, dOrV, dNotV, dIf, dNeg, dChain, dNil, dCons, dTup, dLst, dLstM, dNoPart, dPart, dSl, dCB, dCall, gLen, gAbs, g2, gInt, gStr, gDivmod, gIsTy, gTuple, gList, gSum, gAll, gAny, dAppend, dItems, itemsOf, dRange1, dRange2, dFor, D.onB, D.tyn, D.isNon, asL, rsv, kb_di, kb_db, kb_ds, kb_dt, kb_dl, kb_ii, kb_bi, kb_ni, kb_si, kb_ti, kb_li, kb_ib, kb_bb, kb_nb, kb_sb, kb_tb, kb_lb, kb_is, kb_bs, kb_ns, kb_ss, kb_ts, kb_ls, kb_it, kb_bt, kb_nt, kb_st, kb_tt, kb_lt, startD, List.map_cons, List.map_nil, List.length_cons, List.length_nil, List.cons_append, List.nil_append, List.replicate, List.getElem?_cons_zero, List.getElem?_cons_succ, List.set_cons_zero, List.set_cons_succ, List.zip_cons_cons, List.zip_nil_right, List.foldl_cons, List.foldl_nil, Option.bind_some, Option.bind_none, um_same, um_um, Bool.false_eq_true, reduceCtorEq, false_implies, true_implies, forall_const, true_and, and_true, and_self, Bool.not_true, Bool.not_false, implies_true, decide_eq_true_eq, decide_eq_false_iff_not, Bool.not_eq_true, not_true_eq_false, not_false_eq_true, Bool.not_eq_true', Bool.not_eq_false', D.onB, sizeLine_eq, Nat.reduceAdd, Nat.reduceLeDiff, Nat.zero_add, Nat.reduceLT, pl_bl, pl_i, pl_n, eqv_bl, eqv_ii, eqv_nn, ints_inj, exists_eq_left', exists_eq_left, beq_iff_eq, beq_eq_false_iff_ne, ne_eq, true_or, or_true, false_or, or_false, false_and, and_false, if_true, if_false, List.lookup_cons, beq_self_eq_true, c6, e6, lg, mo]
  refine for_by (fun i ρ M2 => M2 = M' ∧ ∃ z2, ρ = [some (.ref g), x1, some (.int d), some (.int x), some (.int y), x5, x6, x7, x8, x9, x10, x11, x12, z, z2]) ⟨rfl, _, rfl⟩ ?_ ?_
  · rintro i dd ρ M2 P hi ⟨rfl, z2, rfl⟩ hP
    have hm := List.mem_of_getElem? hi
    have key : noRt dd := by
      simp only [List.mem_cons, List.not_mem_nil, or_false] at hm
      rcases hm with rfl | rfl | rfl | rfl | rfl | rfl | rfl | rfl | rfl | rfl
      · exact ⟨rfl, .inl rfl⟩
      · exact ⟨rfl, .inl rfl⟩
      · exact ⟨rfl, .inr ⟨4, 2, rfl, by decide, rfl⟩⟩
      · refine ⟨rfl, .inl ?_⟩
        simp only [D.within, Bool.and_eq_false_iff, decide_eq_false_iff_not]
        omega
      · exact ⟨rfl, .inl rfl⟩
      · exact ⟨rfl, .inl rfl⟩
      · exact ⟨rfl, .inl rfl⟩
      · exact ⟨rfl, .inl rfl⟩
      · exact ⟨rfl, .inl rfl⟩
      · rcases Int.lt_or_le 1000000 (d * d) with q | q
        · refine ⟨rfl, .inl ?_⟩
          simp only [D.within, Bool.and_eq_false_iff, decide_eq_false_iff_not]
          omega
        · refine ⟨rfl, .inr ⟨d * d, d, rfl, ⟨?_, q⟩, rfl⟩⟩
          have := Int.mul_le_mul (show (2 : Int) ≤ d by omega) (show (2 : Int) ≤ d by omega) (by omega) (by omega)
          omega
    simp (config := { decide := false }) only [dMeth, dMakeK, pl_lint, pl_tint, eqv_lint, eqv_tint, decide_true, decide_false, dForJ, djT, djItems, djEnum, djZip, seqJ, dLCG, dLCG2, gMul, gMin1, gMax1, dEnum, dLC, dLCM, dYes, wipeD, dFld, fldOf, dSetF, putD, dMake, dMakeM, mkQ, mkQM, dProp, isOf, gIsC, gIn, gIn2, dDct, gSorted, asI, gRepr, dCallKw, pick, List.filterMap_cons, List.filterMap_nil, List.getElem?_nil, dSeq, dNext, dRet, dRetN, dIfS, dAsg, dgName, dgTup, dgCons, dgNil, dgSub, dPar, dAug, dDrop, dBreak, dCont, dNever, dOp, gI, gT, gPlus, gAdd, gEq, gNe, gIs, gIsNot, gIs2, gIsNot2, gIx, dV, dC, dB, dAnd, dOr, dNot, dAndV, dOrV, dNotV, dIf, dNeg, dChain, dNil, dCons, dTup, dLst, dLstM, dNoPart, dPart, dSl, dCB, dCall, gLen, gAbs, g2, gInt, gStr, gDivmod, gIsTy, gTuple, gList, gSum, gAll, gAny, dAppend, dItems, itemsOf, dRange1, dRange2, dFor, D.onB, D.tyn, D.isNon, asL, rsv, kb_di, kb_db, kb_ds, kb_dt, kb_dl, kb_ii, kb_bi, kb_ni, kb_si, kb_ti, kb_li, kb_ib, kb_bb, kb_nb, kb_sb, kb_tb, kb_lb, kb_is, kb_bs, kb_ns, kb_ss, kb_ts, kb_ls, kb_it, kb_bt, kb_nt, kb_st, kb_tt, kb_lt, startD, List.map_cons, List.map_nil, List.length_cons, List.length_nil, List.cons_append, List.nil_append, List.replicate, List.getElem?_cons_zero, List.getElem?_cons_succ, List.set_cons_zero, List.set_cons_succ, List.zip_cons_cons, List.zip_nil_right, List.foldl_cons, List.foldl_nil, Option.bind_some, Option.bind_none, um_same, um_um, Bool.false_eq_true, reduceCtorEq, false_implies, true_implies, forall_const, true_and, and_true, and_self, Bool.not_true, Bool.not_false, implies_true, decide_eq_true_eq, decide_eq_false_iff_not, Bool.not_eq_true, not_true_eq_false, not_false_eq_true, Bool.not_eq_true', Bool.not_eq_false', D.onB, sizeLine_eq, Nat.reduceAdd, Nat.reduceLeDiff, Nat.zero_add, Nat.reduceLT, pl_bl, pl_i, pl_n, eqv_bl, eqv_ii, eqv_nn, ints_inj, exists_eq_left', exists_eq_left, beq_iff_eq, beq_eq_false_iff_ne, ne_eq, true_or, or_true, false_or, or_false, false_and, and_false, if_true, if_false, List.lookup_cons, beq_self_eq_true]
    exact b4_ok key (Wk.of (hP _ _ ⟨rfl, _, rfl⟩))
  · rintro ρ M2 ⟨rfl, z2, rfl⟩
    exact h _ _
def prD (p : Int × Int) : D := .tup [.int p.1, .int p.2]
def okP (p : Int × Int) : Prop := 1 ≤ p.2 ∧ p.2 ≤ p.1 ∧ p.1 < 10 ^ 79
theorem u4_ok (s : Sol d w ts x y) {fs : List (Int × Int)} (ho : ∀ p ∈ fs, okP p) (hl : fs.length ≤ 4) {q : Addr} (hq : M q = some (.lst (fs.map prD)))
    (h : u1_5_law_right (fnW XE) E [some (.ref g), x1, some (.int d), some (.int x), some (.int y), x5, x6, some (.ref q), x8, some (.lst (fs.map prD ++ fs.map (fun p => prD (p.1 + 1, p.2)) ++ fs.map (fun p => prD (p.1, p.2 + 1)) ++ fs.map (fun p => prD (p.2, p.1)))), x10, x11, x12, x13, x14] M) :
    u1_4_law_right (fnW XE) E [some (.ref g), x1, some (.int d), some (.int x), some (.int y), x5, x6, some (.ref q), x8, x9, x10, x11, x12, x13, x14] M := by
  unfold u1_4_law_right
  simp (config := { decide := false }) only [dMeth, dMakeK, pl_lint, pl_tint, eqv_lint, eqv_tint, decide_true, decide_false, dForJ, djT, djItems, djEnum, djZip, seqJ, dLCG, dLCG2, gMul, gMin1, gMax1, dEnum, dLC, dLCM, dYes, wipeD, dFld, fldOf, dSetF, putD, dMake, dMakeM, mkQ, mkQM, dProp, isOf, gIsC, gIn, gIn2, dDct, gSorted, asI, gRepr, dCallKw, pick, List.filterMap_cons, List.filterMap_nil, List.getElem?_nil, dSeq, dNext, dRet, dRetN, dIfS, dAsg, dgName, dgTup, dgCons, dgNil, dgSub, dPar, dAug, dDrop, dBreak, dCont, dNever, dOp, gI, gT, gPlus, gAdd, gEq, gNe, gIs, gIsNot, gIs2, gIsNot2, gIx, dV, dC, dB, dAnd, dOr, dNot, dAndV, dOrV, dNotV, dIf, dNeg, dChain, dNil, dCons, dTup, dLst, dLstM, dNoPart, dPart, dSl, dCB, dCall, gLen, gAbs, g2, gInt, gStr, gDivmod, gIsTy, gTuple, gList, gSum, gAll, gAny, dAppend, dItems, itemsOf, dRange1, dRange2, dFor, D.onB, D.tyn, D.isNon, asL, rsv, kb_di, kb_db, kb_ds, kb_dt, kb_dl, kb_ii, kb_bi, kb_ni, kb_si, kb_ti, kb_li, kb_ib, kb_bb, kb_nb, kb_sb, kb_tb, kb_lb, kb_is, kb_bs, kb_ns, kb_ss, kb_ts, kb_ls, kb_it, kb_bt, kb_nt, kb_st, kb_tt, kb_lt, startD, List.map_cons, List.map_nil, List.length_cons, List.length_nil, List.cons_append, List.nil_append, List.replicate, List.getElem?_cons_zero, List.getElem?_cons_succ, List.set_cons_zero, List.set_cons_succ, List.zip_cons_cons, List.zip_nil_right, List.foldl_cons, List.foldl_nil, Option.bind_some, Option.bind_none, um_same, um_um, Bool.false_eq_true, reduceCtorEq, false_implies, true_implies, forall_const, true_and, and_true, and_self, Bool.not_true, Bool.not_false, implies_true, decide_eq_true_eq, decide_eq_false_iff_not, Bool.not_eq_true, not_true_eq_false, not_false_eq_true, Bool.not_eq_true', Bool.not_eq_false', D.onB, sizeLine_eq, Nat.reduceAdd, Nat.reduceLeDiff, Nat.zero_add, Nat.reduceLT, pl_bl, pl_i, pl_n, eqv_bl, eqv_ii, eqv_nn, ints_inj, exists_eq_left', exists_eq_left, beq_iff_eq, beq_eq_false_iff_ne, ne_eq, true_or, or_true, false_or, or_false, false_and, and_false, if_true, if_false, List.lookup_cons, beq_self_eq_true, hq]
  have hG : ∀ p, M p = none → ∀ xs : List D, (um M p (.lst xs)) q = some (.lst (fs.map prD)) := fun p hp xs => by rw [um_ne (mo_ne hq hp)]; exact hq
  have mono : ∀ (d : D) (ρ : Rho) (M : Mp) (P P' : Rho → Mp → Prop), (∀ ρ' M', P ρ' M' → P' ρ' M') → dgTup (dgCons (dgName 10) (dgCons (dgName 11) dgNil)) d ρ M P → dgTup (dgCons (dgName 10) (dgCons (dgName 11) dgNil)) d ρ M P' := fun d ρ M P P' hP h => by
    cases d with
    | tup xs =>
      match xs, h with
      | [x, y], h => exact hP _ _ h
    | _ => exact h
  have hz : fs.length ≤ sizeLine := by rw [sizeLine_eq]; omega
  refine lcG_mapA (f := prD) (h := prD) (L := fs) (fun p => (p.1 + 1, p.2)) hz hG (fun p hp z hx xs Kk K => ?_) mono fun p hp => ?_
  · simp (config := { decide := false }) only [dMeth, dMakeK, pl_lint, pl_tint, eqv_lint, eqv_tint, decide_true, decide_false, dForJ, djT, djItems, djEnum, djZip, seqJ, dLCG, dLCG2, gMul, gMin1, gMax1, dEnum, dLC, dLCM, dYes, wipeD, dFld, fldOf, dSetF, putD, dMake, dMakeM, mkQ, mkQM, dProp, isOf, gIsC, gIn, gIn2, dDct, gSorted, asI, gRepr, dCallKw, pick, List.filterMap_cons, List.filterMap_nil, List.getElem?_nil, dSeq, dNext, dRet, dRetN, dIfS, dAsg, dgName, dgTup, dgCons, dgNil, dgSub, dPar, dAug, dDrop, dBreak, dCont, dNever, dOp, gI, gT, gPlus, gAdd, gEq, gNe, gIs, gIsNot, gIs2, gIsNot2, gIx, dV, dC, dB, dAnd, dOr, dNot, dAndV, dOrV, dNotV, dIf, dNeg, dChain, dNil, dCons, dTup, dLst, dLstM, dNoPart, dPart, dSl, dCB, dCall, gLen, gAbs, g2, gInt, gStr, gDivmod, gIsTy, gTuple, gList, gSum, gAll, gAny, dAppend, dItems, itemsOf, dRange1, dRange2, dFor, D.onB, D.tyn, D.isNon, asL, rsv, kb_di, kb_db, kb_ds, kb_dt, kb_dl, kb_ii, kb_bi, kb_ni, kb_si, kb_ti, kb_li, kb_ib, kb_bb, kb_nb, kb_sb, kb_tb, kb_lb, kb_is, kb_bs, kb_ns, kb_ss, kb_ts, kb_ls, kb_it, kb_bt, kb_nt, kb_st, kb_tt, kb_lt, startD, List.map_cons, List.map_nil, List.length_cons, List.length_nil, List.cons_append, List.nil_append, List.replicate, List.getElem?_cons_zero, List.getElem?_cons_succ, List.set_cons_zero, List.set_cons_succ, List.zip_cons_cons, List.zip_nil_right, List.foldl_cons, List.foldl_nil, Option.bind_some, Option.bind_none, um_same, um_um, Bool.false_eq_true, reduceCtorEq, false_implies, true_implies, forall_const, true_and, and_true, and_self, Bool.not_true, Bool.not_false, implies_true, decide_eq_true_eq, decide_eq_false_iff_not, Bool.not_eq_true, not_true_eq_false, not_false_eq_true, Bool.not_eq_true', Bool.not_eq_false', D.onB, sizeLine_eq, Nat.reduceAdd, Nat.reduceLeDiff, Nat.zero_add, Nat.reduceLT, pl_bl, pl_i, pl_n, eqv_bl, eqv_ii, eqv_nn, ints_inj, exists_eq_left', exists_eq_left, beq_iff_eq, beq_eq_false_iff_ne, ne_eq, true_or, or_true, false_or, or_false, false_and, and_false, if_true, if_false, List.lookup_cons, beq_self_eq_true, prD]
    exact K
  simp (config := { decide := false }) only [dMeth, dMakeK, pl_lint, pl_tint, eqv_lint, eqv_tint, decide_true, decide_false, dForJ, djT, djItems, djEnum, djZip, seqJ, dLCG, dLCG2, gMul, gMin1, gMax1, dEnum, dLC, dLCM, dYes, wipeD, dFld, fldOf, dSetF, putD, dMake, dMakeM, mkQ, mkQM, dProp, isOf, gIsC, gIn, gIn2, dDct, gSorted, asI, gRepr, dCallKw, pick, List.filterMap_cons, List.filterMap_nil, List.getElem?_nil, dSeq, dNext, dRet, dRetN, dIfS, dAsg, dgName, dgTup, dgCons, dgNil, dgSub, dPar, dAug, dDrop, dBreak, dCont, dNever, dOp, gI, gT, gPlus, gAdd, gEq, gNe, gIs, gIsNot, gIs2, gIsNot2, gIx, dV, dC, dB, dAnd, dOr, dNot, dAndV, dOrV, dNotV, dIf, dNeg, dChain, dNil, dCons, dTup, dLst, dLstM, dNoPart, dPart, dSl, dCB, dCall, gLen, gAbs, g2, gInt, gStr, gDivmod, gIsTy, gTuple, gList, gSum, gAll, gAny, dAppend, dItems, itemsOf, dRange1, dRange2, dFor, D.onB, D.tyn, D.isNon, asL, rsv, kb_di, kb_db, kb_ds, kb_dt, kb_dl, kb_ii, kb_bi, kb_ni, kb_si, kb_ti, kb_li, kb_ib, kb_bb, kb_nb, kb_sb, kb_tb, kb_lb, kb_is, kb_bs, kb_ns, kb_ss, kb_ts, kb_ls, kb_it, kb_bt, kb_nt, kb_st, kb_tt, kb_lt, startD, List.map_cons, List.map_nil, List.length_cons, List.length_nil, List.cons_append, List.nil_append, List.replicate, List.getElem?_cons_zero, List.getElem?_cons_succ, List.set_cons_zero, List.set_cons_succ, List.zip_cons_cons, List.zip_nil_right, List.foldl_cons, List.foldl_nil, Option.bind_some, Option.bind_none, um_same, um_um, Bool.false_eq_true, reduceCtorEq, false_implies, true_implies, forall_const, true_and, and_true, and_self, Bool.not_true, Bool.not_false, implies_true, decide_eq_true_eq, decide_eq_false_iff_not, Bool.not_eq_true, not_true_eq_false, not_false_eq_true, Bool.not_eq_true', Bool.not_eq_false', D.onB, sizeLine_eq, Nat.reduceAdd, Nat.reduceLeDiff, Nat.zero_add, Nat.reduceLT, pl_bl, pl_i, pl_n, eqv_bl, eqv_ii, eqv_nn, ints_inj, exists_eq_left', exists_eq_left, beq_iff_eq, beq_eq_false_iff_ne, ne_eq, true_or, or_true, false_or, or_false, false_and, and_false, if_true, if_false, List.lookup_cons, beq_self_eq_true, dm_um hp, hq, List.length_map]
  refine ⟨by omega, ?_⟩
  refine lcG_mapA (f := prD) (h := prD) (L := fs) (fun p => (p.1, p.2 + 1)) hz hG (fun p hp z hx xs Kk K => ?_) mono fun p2 hp2 => ?_
  · simp (config := { decide := false }) only [dMeth, dMakeK, pl_lint, pl_tint, eqv_lint, eqv_tint, decide_true, decide_false, dForJ, djT, djItems, djEnum, djZip, seqJ, dLCG, dLCG2, gMul, gMin1, gMax1, dEnum, dLC, dLCM, dYes, wipeD, dFld, fldOf, dSetF, putD, dMake, dMakeM, mkQ, mkQM, dProp, isOf, gIsC, gIn, gIn2, dDct, gSorted, asI, gRepr, dCallKw, pick, List.filterMap_cons, List.filterMap_nil, List.getElem?_nil, dSeq, dNext, dRet, dRetN, dIfS, dAsg, dgName, dgTup, dgCons, dgNil, dgSub, dPar, dAug, dDrop, dBreak, dCont, dNever, dOp, gI, gT, gPlus, gAdd, gEq, gNe, gIs, gIsNot, gIs2, gIsNot2, gIx, dV, dC, dB, dAnd, dOr, dNot, dAndV, dOrV, dNotV, dIf, dNeg, dChain, dNil, dCons, dTup, dLst, dLstM, dNoPart, dPart, dSl, dCB, dCall, gLen, gAbs, g2, gInt, gStr, gDivmod, gIsTy, gTuple, gList, gSum, gAll, gAny, dAppend, dItems, itemsOf, dRange1, dRange2, dFor, D.onB, D.tyn, D.isNon, asL, rsv, kb_di, kb_db, kb_ds, kb_dt, kb_dl, kb_ii, kb_bi, kb_ni, kb_si, kb_ti, kb_li, kb_ib, kb_bb, kb_nb, kb_sb, kb_tb, kb_lb, kb_is, kb_bs, kb_ns, kb_ss, kb_ts, kb_ls, kb_it, kb_bt, kb_nt, kb_st, kb_tt, kb_lt, startD, List.map_cons, List.map_nil, List.length_cons, List.length_nil, List.cons_append, List.nil_append, List.replicate, List.getElem?_cons_zero, List.getElem?_cons_succ, List.set_cons_zero, List.set_cons_succ, List.zip_cons_cons, List.zip_nil_right, List.foldl_cons, List.foldl_nil, Option.bind_some, Option.bind_none, um_same, um_um, Bool.false_eq_true, reduceCtorEq, false_implies, true_implies, forall_const, true_and, and_true, and_self, Bool.not_true, Bool.not_false, implies_true, decide_eq_true_eq, decide_eq_false_iff_not, Bool.not_eq_true, not_true_eq_false, not_false_eq_true, Bool.not_eq_true', Bool.not_eq_false', D.onB, sizeLine_eq, Nat.reduceAdd, Nat.reduceLeDiff, Nat.zero_add, Nat.reduceLT, pl_bl, pl_i, pl_n, eqv_bl, eqv_ii, eqv_nn, ints_inj, exists_eq_left', exists_eq_left, beq_iff_eq, beq_eq_false_iff_ne, ne_eq, true_or, or_true, false_or, or_false, false_and, and_false, if_true, if_false, List.lookup_cons, beq_self_eq_true, prD]
    exact K
  simp (config := { decide := false }) only [dMeth, dMakeK, pl_lint, pl_tint, eqv_lint, eqv_tint, decide_true, decide_false, dForJ, djT, djItems, djEnum, djZip, seqJ, dLCG, dLCG2, gMul, gMin1, gMax1, dEnum, dLC, dLCM, dYes, wipeD, dFld, fldOf, dSetF, putD, dMake, dMakeM, mkQ, mkQM, dProp, isOf, gIsC, gIn, gIn2, dDct, gSorted, asI, gRepr, dCallKw, pick, List.filterMap_cons, List.filterMap_nil, List.getElem?_nil, dSeq, dNext, dRet, dRetN, dIfS, dAsg, dgName, dgTup, dgCons, dgNil, dgSub, dPar, dAug, dDrop, dBreak, dCont, dNever, dOp, gI, gT, gPlus, gAdd, gEq, gNe, gIs, gIsNot, gIs2, gIsNot2, gIx, dV, dC, dB, dAnd, dOr, dNot, dAndV, dOrV, dNotV, dIf, dNeg, dChain, dNil, dCons, dTup, dLst, dLstM, dNoPart, dPart, dSl, dCB, dCall, gLen, gAbs, g2, gInt, gStr, gDivmod, gIsTy, gTuple, gList, gSum, gAll, gAny, dAppend, dItems, itemsOf, dRange1, dRange2, dFor, D.onB, D.tyn, D.isNon, asL, rsv, kb_di, kb_db, kb_ds, kb_dt, kb_dl, kb_ii, kb_bi, kb_ni, kb_si, kb_ti, kb_li, kb_ib, kb_bb, kb_nb, kb_sb, kb_tb, kb_lb, kb_is, kb_bs, kb_ns, kb_ss, kb_ts, kb_ls, kb_it, kb_bt, kb_nt, kb_st, kb_tt, kb_lt, startD, List.map_cons, List.map_nil, List.length_cons, List.length_nil, List.cons_append, List.nil_append, List.replicate, List.getElem?_cons_zero, List.getElem?_cons_succ, List.set_cons_zero, List.set_cons_succ, List.zip_cons_cons, List.zip_nil_right, List.foldl_cons, List.foldl_nil, Option.bind_some, Option.bind_none, um_same, um_um, Bool.false_eq_true, reduceCtorEq, false_implies, true_implies, forall_const, true_and, and_true, and_self, Bool.not_true, Bool.not_false, implies_true, decide_eq_true_eq, decide_eq_false_iff_not, Bool.not_eq_true, not_true_eq_false, not_false_eq_true, Bool.not_eq_true', Bool.not_eq_false', D.onB, sizeLine_eq, Nat.reduceAdd, Nat.reduceLeDiff, Nat.zero_add, Nat.reduceLT, pl_bl, pl_i, pl_n, eqv_bl, eqv_ii, eqv_nn, ints_inj, exists_eq_left', exists_eq_left, beq_iff_eq, beq_eq_false_iff_ne, ne_eq, true_or, or_true, false_or, or_false, false_and, and_false, if_true, if_false, List.lookup_cons, beq_self_eq_true, dm_um hp2, hq, List.length_map, List.length_append]
  refine ⟨by omega, ?_⟩
  refine lcG_mapA (f := prD) (h := prD) (L := fs) (fun p => (p.2, p.1)) hz hG (fun p hp z hx xs Kk K => ?_) mono fun p3 hp3 => ?_
  · simp (config := { decide := false }) only [dMeth, dMakeK, pl_lint, pl_tint, eqv_lint, eqv_tint, decide_true, decide_false, dForJ, djT, djItems, djEnum, djZip, seqJ, dLCG, dLCG2, gMul, gMin1, gMax1, dEnum, dLC, dLCM, dYes, wipeD, dFld, fldOf, dSetF, putD, dMake, dMakeM, mkQ, mkQM, dProp, isOf, gIsC, gIn, gIn2, dDct, gSorted, asI, gRepr, dCallKw, pick, List.filterMap_cons, List.filterMap_nil, List.getElem?_nil, dSeq, dNext, dRet, dRetN, dIfS, dAsg, dgName, dgTup, dgCons, dgNil, dgSub, dPar, dAug, dDrop, dBreak, dCont, dNever, dOp, gI, gT, gPlus, gAdd, gEq, gNe, gIs, gIsNot, gIs2, gIsNot2, gIx, dV, dC, dB, dAnd, dOr, dNot, dAndV, dOrV, dNotV, dIf, dNeg, dChain, dNil, dCons, dTup, dLst, dLstM, dNoPart, dPart, dSl, dCB, dCall, gLen, gAbs, g2, gInt, gStr, gDivmod, gIsTy, gTuple, gList, gSum, gAll, gAny, dAppend, dItems, itemsOf, dRange1, dRange2, dFor, D.onB, D.tyn, D.isNon, asL, rsv, kb_di, kb_db, kb_ds, kb_dt, kb_dl, kb_ii, kb_bi, kb_ni, kb_si, kb_ti, kb_li, kb_ib, kb_bb, kb_nb, kb_sb, kb_tb, kb_lb, kb_is, kb_bs, kb_ns, kb_ss, kb_ts, kb_ls, kb_it, kb_bt, kb_nt, kb_st, kb_tt, kb_lt, startD, List.map_cons, List.map_nil, List.length_cons, List.length_nil, List.cons_append, List.nil_append, List.replicate, List.getElem?_cons_zero, List.getElem?_cons_succ, List.set_cons_zero, List.set_cons_succ, List.zip_cons_cons, List.zip_nil_right, List.foldl_cons, List.foldl_nil, Option.bind_some, Option.bind_none, um_same, um_um, Bool.false_eq_true, reduceCtorEq, false_implies, true_implies, forall_const, true_and, and_true, and_self, Bool.not_true, Bool.not_false, implies_true, decide_eq_true_eq, decide_eq_false_iff_not, Bool.not_eq_true, not_true_eq_false, not_false_eq_true, Bool.not_eq_true', Bool.not_eq_false', D.onB, sizeLine_eq, Nat.reduceAdd, Nat.reduceLeDiff, Nat.zero_add, Nat.reduceLT, pl_bl, pl_i, pl_n, eqv_bl, eqv_ii, eqv_nn, ints_inj, exists_eq_left', exists_eq_left, beq_iff_eq, beq_eq_false_iff_ne, ne_eq, true_or, or_true, false_or, or_false, false_and, and_false, if_true, if_false, List.lookup_cons, beq_self_eq_true, prD]
    exact K
  simp (config := { decide := false }) only [dMeth, dMakeK, pl_lint, pl_tint, eqv_lint, eqv_tint, decide_true, decide_false, dForJ, djT, djItems, djEnum, djZip, seqJ, dLCG, dLCG2, gMul, gMin1, gMax1, dEnum, dLC, dLCM, dYes, wipeD, dFld, fldOf, dSetF, putD, dMake, dMakeM, mkQ, mkQM, dProp, isOf, gIsC, gIn, gIn2, dDct, gSorted, asI, gRepr, dCallKw, pick, List.filterMap_cons, List.filterMap_nil, List.getElem?_nil, dSeq, dNext, dRet, dRetN, dIfS, dAsg, dgName, dgTup, dgCons, dgNil, dgSub, dPar, dAug, dDrop, dBreak, dCont, dNever, dOp, gI, gT, gPlus, gAdd, gEq, gNe, gIs, gIsNot, gIs2, gIsNot2, gIx, dV, dC, dB, dAnd, dOr, dNot, dAndV, dOrV, dNotV, dIf, dNeg, dChain, dNil, dCons, dTup, dLst, dLstM, dNoPart, dPart, dSl, dCB, dCall, gLen, gAbs, g2, gInt, gStr, gDivmod, gIsTy, gTuple, gList, gSum, gAll, gAny, dAppend, dItems, itemsOf, dRange1, dRange2, dFor, D.onB, D.tyn, D.isNon, asL, rsv, kb_di, kb_db, kb_ds, kb_dt, kb_dl, kb_ii, kb_bi, kb_ni, kb_si, kb_ti, kb_li, kb_ib, kb_bb, kb_nb, kb_sb, kb_tb, kb_lb, kb_is, kb_bs, kb_ns, kb_ss, kb_ts, kb_ls, kb_it, kb_bt, kb_nt, kb_st, kb_tt, kb_lt, startD, List.map_cons, List.map_nil, List.length_cons, List.length_nil, List.cons_append, List.nil_append, List.replicate, List.getElem?_cons_zero, List.getElem?_cons_succ, List.set_cons_zero, List.set_cons_succ, List.zip_cons_cons, List.zip_nil_right, List.foldl_cons, List.foldl_nil, Option.bind_some, Option.bind_none, um_same, um_um, Bool.false_eq_true, reduceCtorEq, false_implies, true_implies, forall_const, true_and, and_true, and_self, Bool.not_true, Bool.not_false, implies_true, decide_eq_true_eq, decide_eq_false_iff_not, Bool.not_eq_true, not_true_eq_false, not_false_eq_true, Bool.not_eq_true', Bool.not_eq_false', D.onB, sizeLine_eq, Nat.reduceAdd, Nat.reduceLeDiff, Nat.zero_add, Nat.reduceLT, pl_bl, pl_i, pl_n, eqv_bl, eqv_ii, eqv_nn, ints_inj, exists_eq_left', exists_eq_left, beq_iff_eq, beq_eq_false_iff_ne, ne_eq, true_or, or_true, false_or, or_false, false_and, and_false, if_true, if_false, List.lookup_cons, beq_self_eq_true, dm_um hp3, List.length_map, List.length_append]
  refine ⟨by omega, ?_⟩
  simp only [List.map_map, Function.comp_def]
  exact h
theorem y_le (s : Sol d w ts x y) : y ≤ x := by
  rcases Int.lt_or_le x y with c | c
  · have h1 := s.x1
    have h2 := s.y1
    have q := Int.mul_le_mul (show x ≤ y by omega) (show x ≤ y by omega) (by omega) (by omega)
    have r := Int.mul_le_mul (show 1 ≤ d by have := s.cf.1.2.1; omega) (Int.le_refl (y * y)) (by have := mul_pos1 h2 h2; omega) (by have := s.cf.1.2.1; omega)
    have n := s.nm
    rw [Int.mul_assoc] at n
    omega
  · exact c
/-- what is tried -/
def someL (fs : List (Int × Int)) (x y : Int) : List D := (fs.map prD ++ fs.map (fun p => prD (p.1 + 1, p.2)) ++ fs.map (fun p => prD (p.1, p.2 + 1)) ++ fs.map (fun p => prD (p.2, p.1))) ++
  [.tup [.int 1, .int 0], .tup [.int (0 - x), .int y], .tup [.int x, .int (0 - y)], .tup [.bl true, .int y], .tup [.int x, .non], .tup [.str (toString x : String), .str (toString y : String)], .tup [.tup [.int x], .tup [.int y]], .tup [.int 0, .int 0]]
theorem some_ok (s : Sol d w ts x y) {fs : List (Int × Int)} (ho : ∀ p ∈ fs, okP p) : ∀ z ∈ someL fs x y, ∃ a b, z = .tup [a, b] ∧ okAB a b := by
  have h1 := s.x1
  have h2 := s.y1
  intro z hz
  unfold someL at hz
  simp only [List.mem_append, List.mem_map, List.mem_cons, List.not_mem_nil, or_false] at hz
  rcases hz with (((⟨p, hp, rfl⟩ | ⟨p, hp, rfl⟩) | ⟨p, hp, rfl⟩) | ⟨p, hp, rfl⟩) | hz
  · obtain ⟨o1, o2, o3⟩ := ho p hp
    exact ⟨_, _, rfl, ⟨rfl, rfl⟩, .inr ⟨_, _, rfl, rfl, by omega, by omega⟩⟩
  · obtain ⟨o1, o2, o3⟩ := ho p hp
    exact ⟨_, _, rfl, ⟨rfl, rfl⟩, .inr ⟨_, _, rfl, rfl, by omega, by omega⟩⟩
  · obtain ⟨o1, o2, o3⟩ := ho p hp
    exact ⟨_, _, rfl, ⟨rfl, rfl⟩, .inr ⟨_, _, rfl, rfl, by omega, by omega⟩⟩
  · obtain ⟨o1, o2, o3⟩ := ho p hp
    exact ⟨_, _, rfl, ⟨rfl, rfl⟩, .inr ⟨_, _, rfl, rfl, by omega, by omega⟩⟩
  · rcases hz with rfl | rfl | rfl | rfl | rfl | rfl | rfl | rfl
    · exact ⟨_, _, rfl, ⟨rfl, rfl⟩, .inl (.inr rfl)⟩
    · exact ⟨_, _, rfl, ⟨rfl, rfl⟩, .inl (.inl (decide_eq_false (by omega)))⟩
    · exact ⟨_, _, rfl, ⟨rfl, rfl⟩, .inl (.inr (decide_eq_false (by omega)))⟩
    · exact ⟨_, _, rfl, ⟨rfl, rfl⟩, .inl (.inl rfl)⟩
    · exact ⟨_, _, rfl, ⟨rfl, rfl⟩, .inl (.inr rfl)⟩
    · exact ⟨_, _, rfl, ⟨rfl, rfl⟩, .inl (.inl rfl)⟩
    · exact ⟨_, _, rfl, ⟨rfl, rfl⟩, .inl (.inl rfl)⟩
    · exact ⟨_, _, rfl, ⟨rfl, rfl⟩, .inl (.inl rfl)⟩
theorem u5_ok (s : Sol d w ts x y) {fs : List (Int × Int)} (ho : ∀ p ∈ fs, okP p) (hl : fs.length ≤ 4) (hg : Gd M g)
    (h : ∀ x9 x10 x11 x12 x13 x14 M', Gs g M M' → E.nx [some (.ref g), x1, some (.int d), some (.int x), some (.int y), x5, x6, x7, x8, x9, x10, x11, x12, x13, x14] M') :
    u1_5_law_right (fnW XE) E [some (.ref g), x1, some (.int d), some (.int x), some (.int y), x5, x6, x7, x8, some (.lst (fs.map prD ++ fs.map (fun p => prD (p.1 + 1, p.2)) ++ fs.map (fun p => prD (p.1, p.2 + 1)) ++ fs.map (fun p => prD (p.2, p.1)))), x10, x11, x12, x13, x14] M := by
  have lx : x.natAbs.log2 < 1920 := by have := log_le s.xb; omega
  have ly : y.natAbs.log2 < 1920 := by have := log_le s.yb; omega
  have c6 : CPow 10 6 := ⟨by decide, by decide, by decide⟩
  have e6 : (10 : Int) ^ (6 : Int).toNat = 1000000 := by decide
  unfold u1_5_law_right
  simp (config := { decide := false }) only [dMeth, dMakeK, pl_lint, pl_tint, eqv_lint, eqv_tint, decide_true, decide_false, dForJ, djT, djItems, djEnum, djZip, seqJ, dLCG, dLCG2, gMul, gMin1, gMax1, dEnum, dLC, dLCM, dYes, wipeD, dFld, fldOf, dSetF, putD, dMake, dMakeM, mkQ, mkQM, dProp, isOf, gIsC, gIn, gIn2, dDct, gSorted, asI, gRepr, dCallKw, pick, List.filterMap_cons, List.filterMap_nil, List.getElem?_nil, dSeq, dNext, dRet, dRetN, dIfS, dAsg, dgName, dgTup, dgCons, dgNil, dgSub, dPar, dAug, dDrop, dBreak, dCont, dNever, dOp, gI, gT, gPlus, gAdd, gEq, gNe, gIs, gIsNot, gIs2, gIsNot2, gIx, dV, dC, dB, dAnd, dOr, dNot, dAndV, dOrV, dNotV, dIf, dNeg, dChain, dNil, dCons, dTup, dLst, dLstM, dNoPart, dPart, dSl, dCB, dCall, gLen, gAbs, g2, gInt, gStr, gDivmod, gIsTy, gTuple, gList, gSum, gAll, gAny, dAppend, dItems, itemsOf, dRange1, dRange2, dFor, D.onB, D.tyn, D.isNon, asL, rsv, kb_di, kb_db, kb_ds, kb_dt, kb_dl, kb_ii, kb_bi, kb_ni, kb_si, kb_ti, kb_li, kb_ib, kb_bb, kb_nb, kb_sb, kb_tb, kb_lb, kb_is, kb_bs, kb_ns, kb_ss, kb_ts, kb_ls, kb_it, kb_bt, kb_nt, kb_st, kb_tt, kb_lt, startD, List.map_cons, List.map_nil, List.length_cons, List.length_nil, List.cons_append, List.nil_append, List.replicate, List.getElem?_cons_zero, List.getElem?_cons_succ, List.set_cons_zero, List.set_cons_succ, List.zip_cons_cons, List.zip_nil_right, List.foldl_cons, List.foldl_nil, Option.bind_some, Option.bind_none, um_same, um_um, Bool.false_eq_true, reduceCtorEq, false_implies, true_implies, forall_const, true_and, and_true, and_self, Bool.not_true, Bool.not_false, implies_true, decide_eq_true_eq, decide_eq_false_iff_not, Bool.not_eq_true, not_true_eq_false, not_false_eq_true, Bool.not_eq_true', Bool.not_eq_false', D.onB, sizeLine_eq, Nat.reduceAdd, Nat.reduceLeDiff, Nat.zero_add, Nat.reduceLT, pl_bl, pl_i, pl_n, eqv_bl, eqv_ii, eqv_nn, ints_inj, exists_eq_left', exists_eq_left, beq_iff_eq, beq_eq_false_iff_ne, ne_eq, true_or, or_true, false_or, or_false, false_and, and_false, if_true, if_false, List.lookup_cons, beq_self_eq_true, lx, ly, List.length_append, List.length_map]
  refine ⟨by omega, ?_⟩
  rw [show (fs.map prD ++ fs.map (fun p => prD (p.1 + 1, p.2)) ++ fs.map (fun p => prD (p.1, p.2 + 1)) ++ fs.map (fun p => prD (p.2, p.1))) ++
  [D.tup [.int 1, .int 0], .tup [.int (0 - x), .int y], .tup [.int x, .int (0 - y)], .tup [.bl true, .int y], .tup [.int x, .non], .tup [.str (toString x : String), .str (toString y : String)], .tup [.tup [.int x], .tup [.int y]], .tup [.int 0, .int 0]] = someL fs x y from rfl]
  have ll : (someL fs x y).length = 4 * fs.length + 8 := by unfold someL; simp; omega
  unfold u1_6_law_right
  simp (config := { decide := false }) only [dMeth, dMakeK, pl_lint, pl_tint, eqv_lint, eqv_tint, decide_true, decide_false, dForJ, djT, djItems, djEnum, djZip, seqJ, dLCG, dLCG2, gMul, gMin1, gMax1, dEnum, dLC, dLCM, dYes, wipeD, dFld, fldOf, dSetF, putD, dMake, dMakeM, mkQ, mkQM, dProp, isOf, gIsC, gIn, gIn2, dDct, gSorted, asI, gRepr, dCallKw, pick, List.filterMap_cons, List.filterMap_nil, List.getElem?_nil, dSeq, dNext, dRet, dRetN, dIfS, dAsg, dgName, dgTup, dgCons, dgNil, dgSub, dPar, dAug, dDrop, dBreak, dCont, dNever, dOp, gI, gT, gPlus, gAdd, gEq, gNe, gIs, gIsNot, gIs2, gIsNot2, gIx, dV, dC, dB, dAnd, dOr, dNot, dAndV, dOrV, dNotV, dIf, dNeg, dChain, dNil, dCons, dTup, dLst, dLstM, dNoPart, dPart, dSl, dCB, dCall, gLen, gAbs, g2, gInt, gStr, gDivmod, gIsTy, gTuple, gList, gSum, gAll, gAny, dAppend, dItems, itemsOf, dRange1, dRange2, dFor, D.onB, D.tyn, D.isNon, asL, rsv, kb_di, kb_db, kb_ds, kb_dt, kb_dl, kb_ii, kb_bi, kb_ni, kb_si, kb_ti, kb_li, kb_ib, kb_bb, kb_nb, kb_sb, kb_tb, kb_lb, kb_is, kb_bs, kb_ns, kb_ss, kb_ts, kb_ls, kb_it, kb_bt, kb_nt, kb_st, kb_tt, kb_lt, startD, List.map_cons, List.map_nil, List.length_cons, List.length_nil, List.cons_append, List.nil_append, List.replicate, List.getElem?_cons_zero, List.getElem?_cons_succ, List.set_cons_zero, List.set_cons_succ, List.zip_cons_cons, List.zip_nil_right, List.foldl_cons, List.foldl_nil, Option.bind_some, Option.bind_none, um_same, um_um, Bool.false_eq_true, reduceCtorEq, false_implies, true_implies, forall_const, true_and, and_true, and_self, Bool.not_true, Bool.not_false, implies_true, decide_eq_true_eq, decide_eq_false_iff_not, Bool.not_eq_true, not_true_eq_false, not_false_eq_true, Bool.not_eq_true', Bool.not_eq_false', D.onB, sizeLine_eq, Nat.reduceAdd, Nat.reduceLeDiff, Nat.zero_add, Nat.reduceLT, pl_bl, pl_i, pl_n, eqv_bl, eqv_ii, eqv_nn, ints_inj, exists_eq_left', exists_eq_left, beq_iff_eq, beq_eq_false_iff_ne, ne_eq, true_or, or_true, false_or, or_false, false_and, and_false, if_true, if_false, List.lookup_cons, beq_self_eq_true, c6, e6, sp_law_dip]
  refine ⟨hg, by decide, fun r1 M1 a0 a1 s1 => ⟨s1.gd, by decide, fun r2 M2 b0 b1 s2 => ⟨by omega, ?_⟩⟩⟩
  have go := some_ok s ho
  generalize someL fs x y = L at go
  refine for_by (fun i ρ M' => M' = M2 ∧ ∃ z1 z2 z3, ρ = [some (.ref g), x1, some (.int d), some (.int x), some (.int y), x5, x6, x7, x8, some (.lst L), z1, z2, z3, x13, x14]) ⟨rfl, _, _, _, rfl⟩ ?_ ?_
  · rintro i dd ρ M' P hi ⟨rfl, z1, z2, z3, rfl⟩ hP
    have key : ∃ a b, dd = .tup [a, b] ∧ okAB a b := by
      rcases List.mem_append.mp (List.mem_of_getElem? hi) with m | m
      · exact go _ m
      · simp only [List.mem_cons, List.not_mem_nil, or_false] at m
        exact ⟨_, _, m, ⟨rfl, rfl⟩, .inr ⟨_, _, rfl, rfl, by omega, by omega⟩⟩
    obtain ⟨a, b, rfl, ab⟩ := key
    simp (config := { decide := false }) only [dMeth, dMakeK, pl_lint, pl_tint, eqv_lint, eqv_tint, decide_true, decide_false, dForJ, djT, djItems, djEnum, djZip, seqJ, dLCG, dLCG2, gMul, gMin1, gMax1, dEnum, dLC, dLCM, dYes, wipeD, dFld, fldOf, dSetF, putD, dMake, dMakeM, mkQ, mkQM, dProp, isOf, gIsC, gIn, gIn2, dDct, gSorted, asI, gRepr, dCallKw, pick, List.filterMap_cons, List.filterMap_nil, List.getElem?_nil, dSeq, dNext, dRet, dRetN, dIfS, dAsg, dgName, dgTup, dgCons, dgNil, dgSub, dPar, dAug, dDrop, dBreak, dCont, dNever, dOp, gI, gT, gPlus, gAdd, gEq, gNe, gIs, gIsNot, gIs2, gIsNot2, gIx, dV, dC, dB, dAnd, dOr, dNot, dAndV, dOrV, dNotV, dIf, dNeg, dChain, dNil, dCons, dTup, dLst, dLstM, dNoPart, dPart, dSl, dCB, dCall, gLen, gAbs, g2, gInt, gStr, gDivmod, gIsTy, gTuple, gList, gSum, gAll, gAny, dAppend, dItems, itemsOf, dRange1, dRange2, dFor, D.onB, D.tyn, D.isNon, asL, rsv, kb_di, kb_db, kb_ds, kb_dt, kb_dl, kb_ii, kb_bi, kb_ni, kb_si, kb_ti, kb_li, kb_ib, kb_bb, kb_nb, kb_sb, kb_tb, kb_lb, kb_is, kb_bs, kb_ns, kb_ss, kb_ts, kb_ls, kb_it, kb_bt, kb_nt, kb_st, kb_tt, kb_lt, startD, List.map_cons, List.map_nil, List.length_cons, List.length_nil, List.cons_append, List.nil_append, List.replicate, List.getElem?_cons_zero, List.getElem?_cons_succ, List.set_cons_zero, List.set_cons_succ, List.zip_cons_cons, List.zip_nil_right, List.foldl_cons, List.foldl_nil, Option.bind_some, Option.bind_none, um_same, um_um, Bool.false_eq_true, reduceCtorEq, false_implies, true_implies, forall_const, true_and, and_true, and_self, Bool.not_true, Bool.not_false, implies_true, decide_eq_true_eq, decide_eq_false_iff_not, Bool.not_eq_true, not_true_eq_false, not_false_eq_true, Bool.not_eq_true', Bool.not_eq_false', D.onB, sizeLine_eq, Nat.reduceAdd, Nat.reduceLeDiff, Nat.zero_add, Nat.reduceLT, pl_bl, pl_i, pl_n, eqv_bl, eqv_ii, eqv_nn, ints_inj, exists_eq_left', exists_eq_left, beq_iff_eq, beq_eq_false_iff_ne, ne_eq, true_or, or_true, false_or, or_false, false_and, and_false, if_true, if_false, List.lookup_cons, beq_self_eq_true]
    exact b2_ok s.cf.1 ab fun z => Wk.of (hP _ _ ⟨rfl, _, _, _, rfl⟩)
  · rintro ρ M' ⟨rfl, z1, z2, z3, rfl⟩
    exact u7_ok s fun z4 z5 => h _ _ _ _ _ _ _ (s1.tr s2)
theorem b1_ok (s : Sol d w ts x y) {n : Nat} (hn : n ≤ 3200) {u v : Int} (hu : 1 ≤ v ∧ v ≤ u) (bu : u.natAbs < 2 ^ n) (bv : v.natAbs < 2 ^ n) {fs : List (Int × Int)} (ho : ∀ p ∈ fs, okP p) (hl : fs.length ≤ 10) {q : Addr} (hq : M q = none)
    (h : ∀ (fs2 : List (Int × Int)) (u2 v2 : Int), (∀ p ∈ fs2, okP p) → fs2.length ≤ fs.length + 1 → 1 ≤ v2 → v2 ≤ u2 → u2.natAbs < 2 ^ (n + 700) → v2.natAbs < 2 ^ (n + 700) → E.nx [some (.ref g), x1, some (.int d), some (.int x), some (.int y), some (.int u2), some (.int v2), some (.ref q), x8, x9, x10, x11, x12, x13, x14] (um M q (.lst (fs2.map prD)))) :
    b1_law_right (fnW XE) E [some (.ref g), x1, some (.int d), some (.int x), some (.int y), some (.int u), some (.int v), some (.ref q), x8, x9, x10, x11, x12, x13, x14] (um M q (.lst (fs.map prD))) := by
  have c60 : CPow 10 60 := ⟨by decide, by decide, by decide⟩
  have c19 : CPow 10 19 := ⟨by decide, by decide, by decide⟩
  have m79 : mulOk ((10 : Int) ^ (60 : Int).toNat) (10 ^ (19 : Int).toNat) := mul_r (by decide)
  have dl : d.natAbs < 2 ^ 20 := by have := s.cf.1.2.1; have := s.cf.1.2.2.1; omega
  have m1 : mulOk x u := mul_w _ _ s.xb bu (by omega)
  have m2 : mulOk d y := mul_w _ _ dl s.yb (by omega)
  have m3 : mulOk (d * y) v := mul_w _ _ (abs_mul_lt dl s.yb) bv (by omega)
  have m4 : mulOk x v := mul_w _ _ s.xb bv (by omega)
  have m5 : mulOk y u := mul_w _ _ s.yb bu (by omega)
  have yl := y_le s
  have y1 := s.y1
  have d1 := s.cf.1.2.1
  have e1 : (x * u + d * y * v).natAbs < 2 ^ (n + 700) := by
    have := abs_mul_lt s.xb bu
    have := abs_mul_lt (abs_mul_lt dl s.yb) bv
    have k1 : 2 ^ (600 + n) ≤ 2 ^ (n + 699) := Nat.pow_le_pow_right (by decide) (by omega)
    have k2 : 2 ^ (20 + 600 + n) ≤ 2 ^ (n + 699) := Nat.pow_le_pow_right (by decide) (by omega)
    have k3 : 2 ^ (n + 700) = 2 ^ (n + 699) + 2 ^ (n + 699) := by rw [show n + 700 = (n + 699) + 1 by omega, Nat.pow_succ]; omega
    have := Int.natAbs_add_le (x * u) (d * y * v)
    omega
  have e2 : (x * v + y * u).natAbs < 2 ^ (n + 700) := by
    have := abs_mul_lt s.xb bv
    have := abs_mul_lt s.yb bu
    have k1 : 2 ^ (600 + n) ≤ 2 ^ (n + 699) := Nat.pow_le_pow_right (by decide) (by omega)
    have k3 : 2 ^ (n + 700) = 2 ^ (n + 699) + 2 ^ (n + 699) := by rw [show n + 700 = (n + 699) + 1 by omega, Nat.pow_succ]; omega
    have := Int.natAbs_add_le (x * v) (y * u)
    omega
  have e3 : 1 ≤ x * v + y * u := by
    have := mul_pos1 s.x1 hu.1
    have := mul_pos1 y1 (show 1 ≤ u by omega)
    omega
  have e4 : x * v + y * u ≤ x * u + d * y * v := by
    have k := Int.mul_nonneg (show 0 ≤ x - y by omega) (show 0 ≤ u - v by omega)
    rw [Int.sub_mul, Int.mul_sub, Int.mul_sub] at k
    have k2 := Int.mul_le_mul (show 1 ≤ d by omega) (Int.le_refl (y * v)) (by have := mul_pos1 y1 hu.1; omega) (by omega)
    have k3 : d * y * v = d * (y * v) := Int.mul_assoc ..
    rw [Int.one_mul] at k2
    omega
  unfold b1_law_right
  simp (config := { decide := false }) only [dMeth, dMakeK, pl_lint, pl_tint, eqv_lint, eqv_tint, decide_true, decide_false, dForJ, djT, djItems, djEnum, djZip, seqJ, dLCG, dLCG2, gMul, gMin1, gMax1, dEnum, dLC, dLCM, dYes, wipeD, dFld, fldOf, dSetF, putD, dMake, dMakeM, mkQ, mkQM, dProp, isOf, gIsC, gIn, gIn2, dDct, gSorted, asI, gRepr, dCallKw, pick, List.filterMap_cons, List.filterMap_nil, List.getElem?_nil, dSeq, dNext, dRet, dRetN, dIfS, dAsg, dgName, dgTup, dgCons, dgNil, dgSub, dPar, dAug, dDrop, dBreak, dCont, dNever, dOp, gI, gT, gPlus, gAdd, gEq, gNe, gIs, gIsNot, gIs2, gIsNot2, gIx, dV, dC, dB, dAnd, dOr, dNot, dAndV, dOrV, dNotV, dIf, dNeg, dChain, dNil, dCons, dTup, dLst, dLstM, dNoPart, dPart, dSl, dCB, dCall, gLen, gAbs, g2, gInt, gStr, gDivmod, gIsTy, gTuple, gList, gSum, gAll, gAny, dAppend, dItems, itemsOf, dRange1, dRange2, dFor, D.onB, D.tyn, D.isNon, asL, rsv, kb_di, kb_db, kb_ds, kb_dt, kb_dl, kb_ii, kb_bi, kb_ni, kb_si, kb_ti, kb_li, kb_ib, kb_bb, kb_nb, kb_sb, kb_tb, kb_lb, kb_is, kb_bs, kb_ns, kb_ss, kb_ts, kb_ls, kb_it, kb_bt, kb_nt, kb_st, kb_tt, kb_lt, startD, List.map_cons, List.map_nil, List.length_cons, List.length_nil, List.cons_append, List.nil_append, List.replicate, List.getElem?_cons_zero, List.getElem?_cons_succ, List.set_cons_zero, List.set_cons_succ, List.zip_cons_cons, List.zip_nil_right, List.foldl_cons, List.foldl_nil, Option.bind_some, Option.bind_none, um_same, um_um, Bool.false_eq_true, reduceCtorEq, false_implies, true_implies, forall_const, true_and, and_true, and_self, Bool.not_true, Bool.not_false, implies_true, decide_eq_true_eq, decide_eq_false_iff_not, Bool.not_eq_true, not_true_eq_false, not_false_eq_true, Bool.not_eq_true', Bool.not_eq_false', D.onB, sizeLine_eq, Nat.reduceAdd, Nat.reduceLeDiff, Nat.zero_add, Nat.reduceLT, pl_bl, pl_i, pl_n, eqv_bl, eqv_ii, eqv_nn, ints_inj, exists_eq_left', exists_eq_left, beq_iff_eq, beq_eq_false_iff_ne, ne_eq, true_or, or_true, false_or, or_false, false_and, and_false, if_true, if_false, List.lookup_cons, beq_self_eq_true, c60, c19, m79, t79, m1, m2, m3, m4, m5]
  refine ⟨fun c => ⟨⟨_, rfl⟩, by rw [List.length_map]; omega, ?_⟩, fun c => h fs _ _ ho (by omega) e3 e4 e1 e2⟩
  have e : (fs ++ [(u, v)]).map prD = fs.map prD ++ [D.tup [.int u, .int v]] := by rw [List.map_append]; rfl
  rw [← e]
  refine h (fs ++ [(u, v)]) _ _ (fun p hp => ?_) (by simp) e3 e4 e1 e2
  rcases List.mem_append.mp hp with m | m
  · exact ho p m
  · simp only [List.mem_cons, List.not_mem_nil, or_false] at m
    subst m
    exact ⟨hu.1, hu.2, c⟩
theorem turn_ok (hg : Gd M g) (h : ∀ y1 y2 y3 y4 y5 y6 y7 y8 y9 y10 y11 y12 y13 M', Gw g M M' → E.nx [some (.ref g), x1, y1, y2, y3, y4, y5, y6, y7, y8, y9, y10, y11, y12, y13] M') :
    b13_law_right (fnW XE) E [some (.ref g), x1, x2, x3, x4, x5, x6, x7, x8, x9, x10, x11, x12, x13, x14] M := by
  simp (config := { decide := false }) only [dMeth, dMakeK, pl_lint, pl_tint, eqv_lint, eqv_tint, decide_true, decide_false, dForJ, djT, djItems, djEnum, djZip, seqJ, dLCG, dLCG2, gMul, gMin1, gMax1, dEnum, dLC, dLCM, dYes, wipeD, dFld, fldOf, dSetF, putD, dMake, dMakeM, mkQ, mkQM, dProp, isOf, gIsC, gIn, gIn2, dDct, gSorted, asI, gRepr, dCallKw, pick, List.filterMap_cons, List.filterMap_nil, List.getElem?_nil, dSeq, dNext, dRet, dRetN, dIfS, dAsg, dgName, dgTup, dgCons, dgNil, dgSub, dPar, dAug, dDrop, dBreak, dCont, dNever, dOp, gI, gT, gPlus, gAdd, gEq, gNe, gIs, gIsNot, gIs2, gIsNot2, gIx, dV, dC, dB, dAnd, dOr, dNot, dAndV, dOrV, dNotV, dIf, dNeg, dChain, dNil, dCons, dTup, dLst, dLstM, dNoPart, dPart, dSl, dCB, dCall, gLen, gAbs, g2, gInt, gStr, gDivmod, gIsTy, gTuple, gList, gSum, gAll, gAny, dAppend, dItems, itemsOf, dRange1, dRange2, dFor, D.onB, D.tyn, D.isNon, asL, rsv, kb_di, kb_db, kb_ds, kb_dt, kb_dl, kb_ii, kb_bi, kb_ni, kb_si, kb_ti, kb_li, kb_ib, kb_bb, kb_nb, kb_sb, kb_tb, kb_lb, kb_is, kb_bs, kb_ns, kb_ss, kb_ts, kb_ls, kb_it, kb_bt, kb_nt, kb_st, kb_tt, kb_lt, startD, List.map_cons, List.map_nil, List.length_cons, List.length_nil, List.cons_append, List.nil_append, List.replicate, List.getElem?_cons_zero, List.getElem?_cons_succ, List.set_cons_zero, List.set_cons_succ, List.zip_cons_cons, List.zip_nil_right, List.foldl_cons, List.foldl_nil, Option.bind_some, Option.bind_none, um_same, um_um, Bool.false_eq_true, reduceCtorEq, false_implies, true_implies, forall_const, true_and, and_true, and_self, Bool.not_true, Bool.not_false, implies_true, decide_eq_true_eq, decide_eq_false_iff_not, Bool.not_eq_true, not_true_eq_false, not_false_eq_true, Bool.not_eq_true', Bool.not_eq_false', D.onB, sizeLine_eq, Nat.reduceAdd, Nat.reduceLeDiff, Nat.zero_add, Nat.reduceLT, pl_bl, pl_i, pl_n, eqv_bl, eqv_ii, eqv_nn, ints_inj, exists_eq_left', exists_eq_left, beq_iff_eq, beq_eq_false_iff_ne, ne_eq, true_or, or_true, false_or, or_false, false_and, and_false, if_true, if_false, List.lookup_cons, beq_self_eq_true, b13_law_right, sp_law_root]
  refine ⟨hg, fun d M1 ⟨w, ts, x, y, s⟩ s1 => ?_⟩
  simp (config := { decide := false }) only [dMeth, dMakeK, pl_lint, pl_tint, eqv_lint, eqv_tint, decide_true, decide_false, dForJ, djT, djItems, djEnum, djZip, seqJ, dLCG, dLCG2, gMul, gMin1, gMax1, dEnum, dLC, dLCM, dYes, wipeD, dFld, fldOf, dSetF, putD, dMake, dMakeM, mkQ, mkQM, dProp, isOf, gIsC, gIn, gIn2, dDct, gSorted, asI, gRepr, dCallKw, pick, List.filterMap_cons, List.filterMap_nil, List.getElem?_nil, dSeq, dNext, dRet, dRetN, dIfS, dAsg, dgName, dgTup, dgCons, dgNil, dgSub, dPar, dAug, dDrop, dBreak, dCont, dNever, dOp, gI, gT, gPlus, gAdd, gEq, gNe, gIs, gIsNot, gIs2, gIsNot2, gIx, dV, dC, dB, dAnd, dOr, dNot, dAndV, dOrV, dNotV, dIf, dNeg, dChain, dNil, dCons, dTup, dLst, dLstM, dNoPart, dPart, dSl, dCB, dCall, gLen, gAbs, g2, gInt, gStr, gDivmod, gIsTy, gTuple, gList, gSum, gAll, gAny, dAppend, dItems, itemsOf, dRange1, dRange2, dFor, D.onB, D.tyn, D.isNon, asL, rsv, kb_di, kb_db, kb_ds, kb_dt, kb_dl, kb_ii, kb_bi, kb_ni, kb_si, kb_ti, kb_li, kb_ib, kb_bb, kb_nb, kb_sb, kb_tb, kb_lb, kb_is, kb_bs, kb_ns, kb_ss, kb_ts, kb_ls, kb_it, kb_bt, kb_nt, kb_st, kb_tt, kb_lt, startD, List.map_cons, List.map_nil, List.length_cons, List.length_nil, List.cons_append, List.nil_append, List.replicate, List.getElem?_cons_zero, List.getElem?_cons_succ, List.set_cons_zero, List.set_cons_succ, List.zip_cons_cons, List.zip_nil_right, List.foldl_cons, List.foldl_nil, Option.bind_some, Option.bind_none, um_same, um_um, Bool.false_eq_true, reduceCtorEq, false_implies, true_implies, forall_const, true_and, and_true, and_self, Bool.not_true, Bool.not_false, implies_true, decide_eq_true_eq, decide_eq_false_iff_not, Bool.not_eq_true, not_true_eq_false, not_false_eq_true, Bool.not_eq_true', Bool.not_eq_false', D.onB, sizeLine_eq, Nat.reduceAdd, Nat.reduceLeDiff, Nat.zero_add, Nat.reduceLT, pl_bl, pl_i, pl_n, eqv_bl, eqv_ii, eqv_nn, ints_inj, exists_eq_left', exists_eq_left, beq_iff_eq, beq_eq_false_iff_ne, ne_eq, true_or, or_true, false_or, or_false, false_and, and_false, if_true, if_false, List.lookup_cons, beq_self_eq_true, u1_1_law_right, sp_law_least]
  refine ⟨w, ts, 900, x, y, s.cf, s.ne, s.bd, by have := s.ln; omega, s.lg, ?_⟩
  simp (config := { decide := false }) only [dMeth, dMakeK, pl_lint, pl_tint, eqv_lint, eqv_tint, decide_true, decide_false, dForJ, djT, djItems, djEnum, djZip, seqJ, dLCG, dLCG2, gMul, gMin1, gMax1, dEnum, dLC, dLCM, dYes, wipeD, dFld, fldOf, dSetF, putD, dMake, dMakeM, mkQ, mkQM, dProp, isOf, gIsC, gIn, gIn2, dDct, gSorted, asI, gRepr, dCallKw, pick, List.filterMap_cons, List.filterMap_nil, List.getElem?_nil, dSeq, dNext, dRet, dRetN, dIfS, dAsg, dgName, dgTup, dgCons, dgNil, dgSub, dPar, dAug, dDrop, dBreak, dCont, dNever, dOp, gI, gT, gPlus, gAdd, gEq, gNe, gIs, gIsNot, gIs2, gIsNot2, gIx, dV, dC, dB, dAnd, dOr, dNot, dAndV, dOrV, dNotV, dIf, dNeg, dChain, dNil, dCons, dTup, dLst, dLstM, dNoPart, dPart, dSl, dCB, dCall, gLen, gAbs, g2, gInt, gStr, gDivmod, gIsTy, gTuple, gList, gSum, gAll, gAny, dAppend, dItems, itemsOf, dRange1, dRange2, dFor, D.onB, D.tyn, D.isNon, asL, rsv, kb_di, kb_db, kb_ds, kb_dt, kb_dl, kb_ii, kb_bi, kb_ni, kb_si, kb_ti, kb_li, kb_ib, kb_bb, kb_nb, kb_sb, kb_tb, kb_lb, kb_is, kb_bs, kb_ns, kb_ss, kb_ts, kb_ls, kb_it, kb_bt, kb_nt, kb_st, kb_tt, kb_lt, startD, List.map_cons, List.map_nil, List.length_cons, List.length_nil, List.cons_append, List.nil_append, List.replicate, List.getElem?_cons_zero, List.getElem?_cons_succ, List.set_cons_zero, List.set_cons_succ, List.zip_cons_cons, List.zip_nil_right, List.foldl_cons, List.foldl_nil, Option.bind_some, Option.bind_none, um_same, um_um, Bool.false_eq_true, reduceCtorEq, false_implies, true_implies, forall_const, true_and, and_true, and_self, Bool.not_true, Bool.not_false, implies_true, decide_eq_true_eq, decide_eq_false_iff_not, Bool.not_eq_true, not_true_eq_false, not_false_eq_true, Bool.not_eq_true', Bool.not_eq_false', D.onB, sizeLine_eq, Nat.reduceAdd, Nat.reduceLeDiff, Nat.zero_add, Nat.reduceLT, pl_bl, pl_i, pl_n, eqv_bl, eqv_ii, eqv_nn, ints_inj, exists_eq_left', exists_eq_left, beq_iff_eq, beq_eq_false_iff_ne, ne_eq, true_or, or_true, false_or, or_false, false_and, and_false, if_true, if_false, List.lookup_cons, beq_self_eq_true, u1_2_law_right, u1_3_law_right]
  refine fun p hp => ⟨by decide, ?_⟩
  have l4 : (rangeD 0 4).length = 4 := by unfold rangeD; simp
  refine for_by (fun i ρ M' => ∃ (fs : List (Int × Int)) (u v : Int) (z : Option D), ρ = [some (.ref g), x1, some (.int d), some (.int x), some (.int y), some (.int u), some (.int v), some (.ref p), z, x9, x10, x11, x12, x13, x14] ∧ M' = um M1 p (.lst (fs.map prD)) ∧ (∀ p ∈ fs, okP p) ∧ fs.length ≤ i ∧ 1 ≤ v ∧ v ≤ u ∧ u.natAbs < 2 ^ (600 + 700 * i) ∧ v.natAbs < 2 ^ (600 + 700 * i)) ⟨[], x, y, _, rfl, rfl, (fun _ h => by cases h), Nat.le_refl _, s.y1, y_le s, s.xb, s.yb⟩ ?_ ?_
  · rintro i dd ρ M' P hi ⟨fs, u, v, z, rfl, rfl, ho, hl, v1, vu, bu, bv⟩ hP
    obtain ⟨rfl, hi'⟩ := rangeD_get hi
    have hi4 : i < 4 := by rw [← l4]; exact (List.getElem?_eq_some_iff.mp hi).1
    simp (config := { decide := false }) only [dMeth, dMakeK, pl_lint, pl_tint, eqv_lint, eqv_tint, decide_true, decide_false, dForJ, djT, djItems, djEnum, djZip, seqJ, dLCG, dLCG2, gMul, gMin1, gMax1, dEnum, dLC, dLCM, dYes, wipeD, dFld, fldOf, dSetF, putD, dMake, dMakeM, mkQ, mkQM, dProp, isOf, gIsC, gIn, gIn2, dDct, gSorted, asI, gRepr, dCallKw, pick, List.filterMap_cons, List.filterMap_nil, List.getElem?_nil, dSeq, dNext, dRet, dRetN, dIfS, dAsg, dgName, dgTup, dgCons, dgNil, dgSub, dPar, dAug, dDrop, dBreak, dCont, dNever, dOp, gI, gT, gPlus, gAdd, gEq, gNe, gIs, gIsNot, gIs2, gIsNot2, gIx, dV, dC, dB, dAnd, dOr, dNot, dAndV, dOrV, dNotV, dIf, dNeg, dChain, dNil, dCons, dTup, dLst, dLstM, dNoPart, dPart, dSl, dCB, dCall, gLen, gAbs, g2, gInt, gStr, gDivmod, gIsTy, gTuple, gList, gSum, gAll, gAny, dAppend, dItems, itemsOf, dRange1, dRange2, dFor, D.onB, D.tyn, D.isNon, asL, rsv, kb_di, kb_db, kb_ds, kb_dt, kb_dl, kb_ii, kb_bi, kb_ni, kb_si, kb_ti, kb_li, kb_ib, kb_bb, kb_nb, kb_sb, kb_tb, kb_lb, kb_is, kb_bs, kb_ns, kb_ss, kb_ts, kb_ls, kb_it, kb_bt, kb_nt, kb_st, kb_tt, kb_lt, startD, List.map_cons, List.map_nil, List.length_cons, List.length_nil, List.cons_append, List.nil_append, List.replicate, List.getElem?_cons_zero, List.getElem?_cons_succ, List.set_cons_zero, List.set_cons_succ, List.zip_cons_cons, List.zip_nil_right, List.foldl_cons, List.foldl_nil, Option.bind_some, Option.bind_none, um_same, um_um, Bool.false_eq_true, reduceCtorEq, false_implies, true_implies, forall_const, true_and, and_true, and_self, Bool.not_true, Bool.not_false, implies_true, decide_eq_true_eq, decide_eq_false_iff_not, Bool.not_eq_true, not_true_eq_false, not_false_eq_true, Bool.not_eq_true', Bool.not_eq_false', D.onB, sizeLine_eq, Nat.reduceAdd, Nat.reduceLeDiff, Nat.zero_add, Nat.reduceLT, pl_bl, pl_i, pl_n, eqv_bl, eqv_ii, eqv_nn, ints_inj, exists_eq_left', exists_eq_left, beq_iff_eq, beq_eq_false_iff_ne, ne_eq, true_or, or_true, false_or, or_false, false_and, and_false, if_true, if_false, List.lookup_cons, beq_self_eq_true]
    refine b1_ok s (n := 600 + 700 * i) (by omega) ⟨v1, vu⟩ bu bv ho (by omega) hp fun fs2 u2 v2 o2 l2 a1 a2 a3 a4 => Wk.of (hP _ _ ⟨fs2, u2, v2, _, rfl, rfl, o2, by omega, a1, a2, ?_, ?_⟩)
    · rw [show 600 + 700 * (i + 1) = 600 + 700 * i + 700 by omega]; exact a3
    · rw [show 600 + 700 * (i + 1) = 600 + 700 * i + 700 by omega]; exact a4
  · rintro ρ M' ⟨fs, u, v, z, rfl, rfl, ho, hl, v1, vu, bu, bv⟩
    rw [l4] at hl
    have gw : Gw g M (um M1 p (.lst (fs.map prD))) := s1.gw.new hp
    exact u4_ok s ho hl (um_same _ _ _) (u5_ok s ho hl gw.1 fun z9 z10 z11 z12 z13 z14 M' gs => h _ _ _ _ _ _ _ _ _ _ _ _ _ _ (gw.tr gs.gw))
end
theorem pure_law_right (ds : List D) (M : Mp) (Q : DK) (E : XE') (h : sp_law_right ds M Q E) : t_law_right (fnW E) { nx := fun _ M' => Wk (Q .non) M', rt := fun d M' => Wk (Q d) M' } (startD N_law_right ds) M := by
  unfold sp_law_right at h
  split at h
  rotate_left
  · exact h.elim
  rename_i g
  obtain ⟨hg, h⟩ := h
  unfold t_law_right
  simp (config := { decide := false }) only [dMeth, dMakeK, pl_lint, pl_tint, eqv_lint, eqv_tint, decide_true, decide_false, dForJ, djT, djItems, djEnum, djZip, seqJ, dLCG, dLCG2, gMul, gMin1, gMax1, dEnum, dLC, dLCM, dYes, wipeD, dFld, fldOf, dSetF, putD, dMake, dMakeM, mkQ, mkQM, dProp, isOf, gIsC, gIn, gIn2, dDct, gSorted, asI, gRepr, dCallKw, pick, List.filterMap_cons, List.filterMap_nil, List.getElem?_nil, dSeq, dNext, dRet, dRetN, dIfS, dAsg, dgName, dgTup, dgCons, dgNil, dgSub, dPar, dAug, dDrop, dBreak, dCont, dNever, dOp, gI, gT, gPlus, gAdd, gEq, gNe, gIs, gIsNot, gIs2, gIsNot2, gIx, dV, dC, dB, dAnd, dOr, dNot, dAndV, dOrV, dNotV, dIf, dNeg, dChain, dNil, dCons, dTup, dLst, dLstM, dNoPart, dPart, dSl, dCB, dCall, gLen, gAbs, g2, gInt, gStr, gDivmod, gIsTy, gTuple, gList, gSum, gAll, gAny, dAppend, dItems, itemsOf, dRange1, dRange2, dFor, D.onB, D.tyn, D.isNon, asL, rsv, kb_di, kb_db, kb_ds, kb_dt, kb_dl, kb_ii, kb_bi, kb_ni, kb_si, kb_ti, kb_li, kb_ib, kb_bb, kb_nb, kb_sb, kb_tb, kb_lb, kb_is, kb_bs, kb_ns, kb_ss, kb_ts, kb_ls, kb_it, kb_bt, kb_nt, kb_st, kb_tt, kb_lt, startD, List.map_cons, List.map_nil, List.length_cons, List.length_nil, List.cons_append, List.nil_append, List.replicate, List.getElem?_cons_zero, List.getElem?_cons_succ, List.set_cons_zero, List.set_cons_succ, List.zip_cons_cons, List.zip_nil_right, List.foldl_cons, List.foldl_nil, Option.bind_some, Option.bind_none, um_same, um_um, Bool.false_eq_true, reduceCtorEq, false_implies, true_implies, forall_const, true_and, and_true, and_self, Bool.not_true, Bool.not_false, implies_true, decide_eq_true_eq, decide_eq_false_iff_not, Bool.not_eq_true, not_true_eq_false, not_false_eq_true, Bool.not_eq_true', Bool.not_eq_false', D.onB, sizeLine_eq, Nat.reduceAdd, Nat.reduceLeDiff, Nat.zero_add, Nat.reduceLT, pl_bl, pl_i, pl_n, eqv_bl, eqv_ii, eqv_nn, ints_inj, exists_eq_left', exists_eq_left, beq_iff_eq, beq_eq_false_iff_ne, ne_eq, true_or, or_true, false_or, or_false, false_and, and_false, if_true, if_false, List.lookup_cons, beq_self_eq_true]
  refine ⟨by decide, ?_⟩
  refine for_by (fun i ρ M' => ∃ x1 x2 x3 x4 x5 x6 x7 x8 x9 x10 x11 x12 x13 x14, ρ = [some (.ref g), x1, x2, x3, x4, x5, x6, x7, x8, x9, x10, x11, x12, x13, x14] ∧ Gw g M M') ⟨none, none, none, none, none, none, none, none, none, none, none, none, none, none, rfl, hg, fun _ _ _ e => e⟩ ?_ ?_
  · rintro i dd ρ M' P hi ⟨x1, x2, x3, x4, x5, x6, x7, x8, x9, x10, x11, x12, x13, x14, rfl, gw⟩ hP
    simp (config := { decide := false }) only [dMeth, dMakeK, pl_lint, pl_tint, eqv_lint, eqv_tint, decide_true, decide_false, dForJ, djT, djItems, djEnum, djZip, seqJ, dLCG, dLCG2, gMul, gMin1, gMax1, dEnum, dLC, dLCM, dYes, wipeD, dFld, fldOf, dSetF, putD, dMake, dMakeM, mkQ, mkQM, dProp, isOf, gIsC, gIn, gIn2, dDct, gSorted, asI, gRepr, dCallKw, pick, List.filterMap_cons, List.filterMap_nil, List.getElem?_nil, dSeq, dNext, dRet, dRetN, dIfS, dAsg, dgName, dgTup, dgCons, dgNil, dgSub, dPar, dAug, dDrop, dBreak, dCont, dNever, dOp, gI, gT, gPlus, gAdd, gEq, gNe, gIs, gIsNot, gIs2, gIsNot2, gIx, dV, dC, dB, dAnd, dOr, dNot, dAndV, dOrV, dNotV, dIf, dNeg, dChain, dNil, dCons, dTup, dLst, dLstM, dNoPart, dPart, dSl, dCB, dCall, gLen, gAbs, g2, gInt, gStr, gDivmod, gIsTy, gTuple, gList, gSum, gAll, gAny, dAppend, dItems, itemsOf, dRange1, dRange2, dFor, D.onB, D.tyn, D.isNon, asL, rsv, kb_di, kb_db, kb_ds, kb_dt, kb_dl, kb_ii, kb_bi, kb_ni, kb_si, kb_ti, kb_li, kb_ib, kb_bb, kb_nb, kb_sb, kb_tb, kb_lb, kb_is, kb_bs, kb_ns, kb_ss, kb_ts, kb_ls, kb_it, kb_bt, kb_nt, kb_st, kb_tt, kb_lt, startD, List.map_cons, List.map_nil, List.length_cons, List.length_nil, List.cons_append, List.nil_append, List.replicate, List.getElem?_cons_zero, List.getElem?_cons_succ, List.set_cons_zero, List.set_cons_succ, List.zip_cons_cons, List.zip_nil_right, List.foldl_cons, List.foldl_nil, Option.bind_some, Option.bind_none, um_same, um_um, Bool.false_eq_true, reduceCtorEq, false_implies, true_implies, forall_const, true_and, and_true, and_self, Bool.not_true, Bool.not_false, implies_true, decide_eq_true_eq, decide_eq_false_iff_not, Bool.not_eq_true, not_true_eq_false, not_false_eq_true, Bool.not_eq_true', Bool.not_eq_false', D.onB, sizeLine_eq, Nat.reduceAdd, Nat.reduceLeDiff, Nat.zero_add, Nat.reduceLT, pl_bl, pl_i, pl_n, eqv_bl, eqv_ii, eqv_nn, ints_inj, exists_eq_left', exists_eq_left, beq_iff_eq, beq_eq_false_iff_ne, ne_eq, true_or, or_true, false_or, or_false, false_and, and_false, if_true, if_false, List.lookup_cons, beq_self_eq_true]
    exact turn_ok gw.1 fun y1 y2 y3 y4 y5 y6 y7 y8 y9 y10 y11 y12 y13 M2 g2 => Wk.of (hP _ _ ⟨_, _, _, _, _, _, _, _, _, _, _, _, _, _, rfl, gw.tr g2⟩)
  · rintro ρ M' ⟨x1, x2, x3, x4, x5, x6, x7, x8, x9, x10, x11, x12, x13, x14, rfl, gw⟩
    simp (config := { decide := false }) only [dMeth, dMakeK, pl_lint, pl_tint, eqv_lint, eqv_tint, decide_true, decide_false, dForJ, djT, djItems, djEnum, djZip, seqJ, dLCG, dLCG2, gMul, gMin1, gMax1, dEnum, dLC, dLCM, dYes, wipeD, dFld, fldOf, dSetF, putD, dMake, dMakeM, mkQ, mkQM, dProp, isOf, gIsC, gIn, gIn2, dDct, gSorted, asI, gRepr, dCallKw, pick, List.filterMap_cons, List.filterMap_nil, List.getElem?_nil, dSeq, dNext, dRet, dRetN, dIfS, dAsg, dgName, dgTup, dgCons, dgNil, dgSub, dPar, dAug, dDrop, dBreak, dCont, dNever, dOp, gI, gT, gPlus, gAdd, gEq, gNe, gIs, gIsNot, gIs2, gIsNot2, gIx, dV, dC, dB, dAnd, dOr, dNot, dAndV, dOrV, dNotV, dIf, dNeg, dChain, dNil, dCons, dTup, dLst, dLstM, dNoPart, dPart, dSl, dCB, dCall, gLen, gAbs, g2, gInt, gStr, gDivmod, gIsTy, gTuple, gList, gSum, gAll, gAny, dAppend, dItems, itemsOf, dRange1, dRange2, dFor, D.onB, D.tyn, D.isNon, asL, rsv, kb_di, kb_db, kb_ds, kb_dt, kb_dl, kb_ii, kb_bi, kb_ni, kb_si, kb_ti, kb_li, kb_ib, kb_bb, kb_nb, kb_sb, kb_tb, kb_lb, kb_is, kb_bs, kb_ns, kb_ss, kb_ts, kb_ls, kb_it, kb_bt, kb_nt, kb_st, kb_tt, kb_lt, startD, List.map_cons, List.map_nil, List.length_cons, List.length_nil, List.cons_append, List.nil_append, List.replicate, List.getElem?_cons_zero, List.getElem?_cons_succ, List.set_cons_zero, List.set_cons_succ, List.zip_cons_cons, List.zip_nil_right, List.foldl_cons, List.foldl_nil, Option.bind_some, Option.bind_none, um_same, um_um, Bool.false_eq_true, reduceCtorEq, false_implies, true_implies, forall_const, true_and, and_true, and_self, Bool.not_true, Bool.not_false, implies_true, decide_eq_true_eq, decide_eq_false_iff_not, Bool.not_eq_true, not_true_eq_false, not_false_eq_true, Bool.not_eq_true', Bool.not_eq_false', D.onB, sizeLine_eq, Nat.reduceAdd, Nat.reduceLeDiff, Nat.zero_add, Nat.reduceLT, pl_bl, pl_i, pl_n, eqv_bl, eqv_ii, eqv_nn, ints_inj, exists_eq_left', exists_eq_left, beq_iff_eq, beq_eq_false_iff_ne, ne_eq, true_or, or_true, false_or, or_false, false_and, and_false, if_true, if_false, List.lookup_cons, beq_self_eq_true, r1_law_right]
    exact Wk.of (h _ gw)
theorem lcN_inv {i : Nat} {tt : TDb} {te : TD} {p : Addr} {ρ0 : Rho} {Q : Mp → Prop} (Inv : Nat → Mp → Prop) (n : Nat) : ∀ (items : List D) (k : Nat) (M : Mp), k + items.length = n → Inv k M →
    (∀ (j : Nat) (d : D) (M : Mp) (N : Mp → Prop), j < n → d ∈ items → Inv j M → (∀ M', Inv (j + 1) M' → N M') →
      tt (ρ0.set i (some d)) M fun b M3 => (b = true → te (ρ0.set i (some d)) M3 fun y M4 => ∃ acc, M4 p = some (.lst acc) ∧ acc.length < sizeLine ∧ N (um M4 p (.lst (acc ++ [y])))) ∧ (b = false → N M3)) →
    (∀ M, Inv n M → Q M) → lcN i tt te p ρ0 Q items M
  | [], k, M, hn, h0, h, hd => hd M (by rw [← hn]; simpa using h0)
  | d :: ds, k, M, hn, h0, h, hd => by
    unfold lcN
    rw [List.length_cons] at hn
    refine h k d M _ (by omega) (List.mem_cons_self ..) h0 fun M' h' => ?_
    exact lcN_inv Inv n ds (k + 1) M' (by omega) h' (fun j d M N q m => h j d M N q (List.mem_cons_of_mem _ m)) hd
theorem bls_true : ∀ n : Nat, bls? (List.replicate n (D.bl true)) = some (List.replicate n true)
  | 0 => rfl
  | n + 1 => by simp [List.replicate_succ, bls?, bls_true n]
abbrev N_law : List Str := ["_law_cells", "_law_k"]
abbrev sp_law : DSp := spLaw
theorem len_law : ∀ ds M Q E, sp_law ds M Q E → ds.length = 1 := fun ds M Q E h => by
  unfold sp_law spLaw at h; split at h <;> first | rfl | exact h.elim
theorem law_is : ∀ ds M Q E, spLaw ds M Q E → sp_law ds M Q E := fun _ _ _ _ h => h
def t_law (W : DW') : TDS :=
  dRet (dOp gEq (dLC [1] 1 (dRange1 (dCons (dCB (g2 max) (dCons (dC (.int 2)) (dCons (dCB (g2 min) (dCons (dCB gLen (dCons (dV 0) (dNil))) (dCons (dC (.int 5)) (dNil)))) (dNil)))) (dNil))) (dNot (dB (dCall sp_law_right noW (dCons (dCall sp_law_well noW (dCons (dCall sp_law_cell noW (dCons (dV 0) (dCons (dV 1) (dNil)))) (dNil))) (dNil))))) (dV 1)) (dLst (dNil)))
theorem pure_law (ds : List D) (M : Mp) (Q : DK) (E : XE') (h : sp_law ds M Q E) : t_law (fnW E) { nx := fun _ M' => Wk (Q .non) M', rt := fun d M' => Wk (Q d) M' } (startD N_law ds) M := by
  unfold sp_law spLaw at h
  split at h
  · rename_i ns
    obtain ⟨hl, h⟩ := h
    simp (config := { decide := false }) only [dMeth, dMakeK, pl_lint, pl_tint, eqv_lint, eqv_tint, decide_true, decide_false, dForJ, djT, djItems, djEnum, djZip, seqJ, dLCG, dLCG2, gMul, gMin1, gMax1, dEnum, dLC, dLCM, dYes, wipeD, dFld, fldOf, dSetF, putD, dMake, dMakeM, mkQ, mkQM, dProp, isOf, gIsC, gIn, gIn2, dDct, gSorted, asI, gRepr, dCallKw, pick, List.filterMap_cons, List.filterMap_nil, List.getElem?_nil, dSeq, dNext, dRet, dRetN, dIfS, dAsg, dgName, dgTup, dgCons, dgNil, dgSub, dPar, dAug, dDrop, dBreak, dCont, dNever, dOp, gI, gT, gPlus, gAdd, gEq, gNe, gIs, gIsNot, gIs2, gIsNot2, gIx, dV, dC, dB, dAnd, dOr, dNot, dAndV, dOrV, dNotV, dIf, dNeg, dChain, dNil, dCons, dTup, dLst, dLstM, dNoPart, dPart, dSl, dCB, dCall, gLen, gAbs, g2, gInt, gStr, gDivmod, gIsTy, gTuple, gList, gSum, gAll, gAny, dAppend, dItems, itemsOf, dRange1, dRange2, dFor, D.onB, D.tyn, D.isNon, asL, rsv, kb_di, kb_db, kb_ds, kb_dt, kb_dl, kb_ii, kb_bi, kb_ni, kb_si, kb_ti, kb_li, kb_ib, kb_bb, kb_nb, kb_sb, kb_tb, kb_lb, kb_is, kb_bs, kb_ns, kb_ss, kb_ts, kb_ls, kb_it, kb_bt, kb_nt, kb_st, kb_tt, kb_lt, startD, List.map_cons, List.map_nil, List.length_cons, List.length_nil, List.cons_append, List.nil_append, List.replicate, List.getElem?_cons_zero, List.getElem?_cons_succ, List.set_cons_zero, List.set_cons_succ, List.zip_cons_cons, List.zip_nil_right, List.foldl_cons, List.foldl_nil, Option.bind_some, Option.bind_none, um_same, um_um, Bool.false_eq_true, reduceCtorEq, false_implies, true_implies, forall_const, true_and, and_true, and_self, Bool.not_true, Bool.not_false, implies_true, decide_eq_true_eq, decide_eq_false_iff_not, Bool.not_eq_true, not_true_eq_false, not_false_eq_true, Bool.not_eq_true', Bool.not_eq_false', D.onB, sizeLine_eq, Nat.reduceAdd, Nat.reduceLeDiff, Nat.zero_add, Nat.reduceLT, t_law]
    refine ⟨⟨by omega, by omega⟩, fun p hp => ?_⟩
    refine lcN_inv (fun j M' => M' p = some (.lst []) ∧ ∀ a o, a ≠ p → M a = some o → M' a = some o) _ _ 0 _ (Nat.zero_add _) ⟨um_same _ _ _, fun a o n e => by rw [um_ne n]; exact e⟩ ?_ ?_
    · rintro j d M1 N hj hd ⟨e1, e2⟩ hN
      unfold rangeD at hj hd
      obtain ⟨v, hv, rfl⟩ := List.mem_map.mp hd
      have hv := List.mem_range.mp hv
      simp only [List.length_map, List.length_range] at hj
      simp (config := { decide := false }) only [dMeth, dMakeK, pl_lint, pl_tint, eqv_lint, eqv_tint, decide_true, decide_false, dForJ, djT, djItems, djEnum, djZip, seqJ, dLCG, dLCG2, gMul, gMin1, gMax1, dEnum, dLC, dLCM, dYes, wipeD, dFld, fldOf, dSetF, putD, dMake, dMakeM, mkQ, mkQM, dProp, isOf, gIsC, gIn, gIn2, dDct, gSorted, asI, gRepr, dCallKw, pick, List.filterMap_cons, List.filterMap_nil, List.getElem?_nil, dSeq, dNext, dRet, dRetN, dIfS, dAsg, dgName, dgTup, dgCons, dgNil, dgSub, dPar, dAug, dDrop, dBreak, dCont, dNever, dOp, gI, gT, gPlus, gAdd, gEq, gNe, gIs, gIsNot, gIs2, gIsNot2, gIx, dV, dC, dB, dAnd, dOr, dNot, dAndV, dOrV, dNotV, dIf, dNeg, dChain, dNil, dCons, dTup, dLst, dLstM, dNoPart, dPart, dSl, dCB, dCall, gLen, gAbs, g2, gInt, gStr, gDivmod, gIsTy, gTuple, gList, gSum, gAll, gAny, dAppend, dItems, itemsOf, dRange1, dRange2, dFor, D.onB, D.tyn, D.isNon, asL, rsv, kb_di, kb_db, kb_ds, kb_dt, kb_dl, kb_ii, kb_bi, kb_ni, kb_si, kb_ti, kb_li, kb_ib, kb_bb, kb_nb, kb_sb, kb_tb, kb_lb, kb_is, kb_bs, kb_ns, kb_ss, kb_ts, kb_ls, kb_it, kb_bt, kb_nt, kb_st, kb_tt, kb_lt, startD, List.map_cons, List.map_nil, List.length_cons, List.length_nil, List.cons_append, List.nil_append, List.replicate, List.getElem?_cons_zero, List.getElem?_cons_succ, List.set_cons_zero, List.set_cons_succ, List.zip_cons_cons, List.zip_nil_right, List.foldl_cons, List.foldl_nil, Option.bind_some, Option.bind_none, um_same, um_um, Bool.false_eq_true, reduceCtorEq, false_implies, true_implies, forall_const, true_and, and_true, and_self, Bool.not_true, Bool.not_false, implies_true, decide_eq_true_eq, decide_eq_false_iff_not, Bool.not_eq_true, not_true_eq_false, not_false_eq_true, Bool.not_eq_true', Bool.not_eq_false', D.onB, sizeLine_eq, Nat.reduceAdd, Nat.reduceLeDiff, Nat.zero_add, Nat.reduceLT, sp_law_cell, sp_law_well, sp_law_right]
      refine ⟨⟨by omega, by omega⟩, fun q M2 hq s2 => ⟨s2.gd, fun M3 g3 => ?_⟩⟩
      have npq : p ≠ q := fun z => by subst z; rw [hq] at e1; cases e1
      have e3 : M3 p = some (.lst []) := g3.2 p _ npq (by rw [s2.ne npq]; exact e1)
      refine hN _ ⟨e3, fun a o na e => ?_⟩
      have e4 := e2 a o na e
      have naq : a ≠ q := fun z => by subst z; rw [hq] at e4; cases e4
      exact g3.2 a o naq (by rw [s2.ne naq]; exact e4)
    · rintro M1 ⟨e1, e2⟩
      refine ⟨_, e1, ?_⟩
      refine ⟨⟨rfl, rfl⟩, ?_⟩
      rw [eqv_self (n := 12) (d := .lst []) rfl]
      refine ⟨M, fun a o e => ?_, h⟩
      have na : a ≠ p := fun z => by subst z; rw [hp] at e; cases e
      rw [dm_ne na]
      exact e2 a o na e
  · exact h.elim
/-! ### the text -/
def topS (i : Nat) : Stmt := PySem.Challenge.pw_smoothpairs_k83_whole_solutions_claimed.main.body.getD i (.Pass ⟨0, 0, 0, 0⟩)
def clsBody : Stmt → List Stmt
  | .ClassDef _ _ _ b _ _ _ _ _ _ _ => b
  | _ => []
def clsS (i j : Nat) : Stmt := (clsBody (topS i)).getD j (.Pass ⟨0, 0, 0, 0⟩)
abbrev s_law_dip : Stmt := topS 53
theorem sc_law_dip : FnScope N_law_dip ["_law_jar", "_law_many"] (defScope s_law_dip) := ⟨rfl, rfl, rfl, by decide +kernel, rfl, by decide +kernel, by decide +kernel⟩
abbrev s_law_is_int : Stmt := topS 56
theorem sc_law_is_int : FnScope N_law_is_int ["_law_thing", "_law_low", "_law_high"] (defScope s_law_is_int) := ⟨rfl, rfl, rfl, by decide +kernel, rfl, by decide +kernel, by decide +kernel⟩
abbrev s_law_floor : Stmt := topS 54
theorem sc_law_floor : FnScope N_law_floor ["_law_many"] (defScope s_law_floor) := ⟨rfl, rfl, rfl, by decide +kernel, rfl, by decide +kernel, by decide +kernel⟩
abbrev s_law_is_root : Stmt := topS 55
theorem sc_law_is_root : FnScope N_law_is_root ["_law_thing"] (defScope s_law_is_root) := ⟨rfl, rfl, rfl, by decide +kernel, rfl, by decide +kernel, by decide +kernel⟩
abbrev s_law_root : Stmt := topS 59
theorem sc_law_root : FnScope N_law_root ["_law_jar"] (defScope s_law_root) := ⟨rfl, rfl, rfl, by decide +kernel, rfl, by decide +kernel, by decide +kernel⟩
abbrev s_law_terms : Stmt := topS 57
theorem sc_law_terms : FnScope N_law_terms ["_law_d"] (defScope s_law_terms) := ⟨rfl, rfl, rfl, by decide +kernel, rfl, by decide +kernel, by decide +kernel⟩
abbrev s_law_least : Stmt := topS 58
theorem sc_law_least : FnScope N_law_least ["_law_d"] (defScope s_law_least) := ⟨rfl, rfl, rfl, by decide +kernel, rfl, by decide +kernel, by decide +kernel⟩
abbrev s_is_integer : Stmt := topS 12
theorem sc_is_integer : FnScope N_is_integer ["value"] (defScope s_is_integer) := ⟨rfl, rfl, rfl, by decide +kernel, rfl, by decide +kernel, by decide +kernel⟩
abbrev s_is_within : Stmt := topS 13
theorem sc_is_within : FnScope N_is_within ["value", "least", "most"] (defScope s_is_within) := ⟨rfl, rfl, rfl, by decide +kernel, rfl, by decide +kernel, by decide +kernel⟩
abbrev s_root_below : Stmt := topS 26
theorem sc_root_below : FnScope N_root_below ["number"] (defScope s_root_below) := ⟨rfl, rfl, rfl, by decide +kernel, rfl, by decide +kernel, by decide +kernel⟩
abbrev s_is_root : Stmt := topS 27
theorem sc_is_root : FnScope N_is_root ["value"] (defScope s_is_root) := ⟨rfl, rfl, rfl, by decide +kernel, rfl, by decide +kernel, by decide +kernel⟩
abbrev s_is_number : Stmt := topS 22
theorem sc_is_number : FnScope N_is_number ["value"] (defScope s_is_number) := ⟨rfl, rfl, rfl, by decide +kernel, rfl, by decide +kernel, by decide +kernel⟩
abbrev s_is_empty : Stmt := topS 44
theorem sc_is_empty : FnScope N_is_empty ["value"] (defScope s_is_empty) := ⟨rfl, rfl, rfl, by decide +kernel, rfl, by decide +kernel, by decide +kernel⟩
abbrev s_is_same : Stmt := topS 45
theorem sc_is_same : FnScope N_is_same ["value", "due"] (defScope s_is_same) := ⟨rfl, rfl, rfl, by decide +kernel, rfl, by decide +kernel, by decide +kernel⟩
abbrev s_fraction_of : Stmt := topS 28
theorem sc_fraction_of : FnScope N_fraction_of ["root"] (defScope s_fraction_of) := ⟨rfl, rfl, rfl, by decide +kernel, rfl, by decide +kernel, by decide +kernel⟩
abbrev s_least_of : Stmt := topS 29
theorem sc_least_of : FnScope N_least_of ["root"] (defScope s_least_of) := ⟨rfl, rfl, rfl, by decide +kernel, rfl, by decide +kernel, by decide +kernel⟩
abbrev s_root_shown : Stmt := topS 47
theorem sc_root_shown : FnScope N_root_shown ["claim", "certificate"] (defScope s_root_shown) := ⟨rfl, rfl, rfl, by decide +kernel, rfl, by decide +kernel, by decide +kernel⟩
abbrev s_read_number : Stmt := topS 14
theorem sc_read_number : FnScope N_read_number ["word"] (defScope s_read_number) := ⟨rfl, rfl, rfl, by decide +kernel, rfl, by decide +kernel, by decide +kernel⟩
abbrev s_is_prime : Stmt := topS 16
theorem sc_is_prime : FnScope N_is_prime ["value"] (defScope s_is_prime) := ⟨rfl, rfl, rfl, by decide +kernel, rfl, by decide +kernel, by decide +kernel⟩
abbrev s_wrong_prime : Stmt := topS 18
theorem sc_wrong_prime : FnScope N_wrong_prime ["primes"] (defScope s_wrong_prime) := ⟨rfl, rfl, rfl, by decide +kernel, rfl, by decide +kernel, by decide +kernel⟩
abbrev s_read_lot : Stmt := topS 19
theorem sc_read_lot : FnScope N_read_lot ["text"] (defScope s_read_lot) := ⟨rfl, rfl, rfl, by decide +kernel, rfl, by decide +kernel, by decide +kernel⟩
abbrev s_times_in : Stmt := topS 20
theorem sc_times_in : FnScope N_times_in ["number", "prime"] (defScope s_times_in) := ⟨rfl, rfl, rfl, by decide +kernel, rfl, by decide +kernel, by decide +kernel⟩
abbrev s_parts_of : Stmt := topS 21
theorem sc_parts_of : FnScope N_parts_of ["primes", "number"] (defScope s_parts_of) := ⟨rfl, rfl, rfl, by decide +kernel, rfl, by decide +kernel, by decide +kernel⟩
abbrev s_is_made : Stmt := topS 34
theorem sc_is_made : FnScope N_is_made ["primes", "number"] (defScope s_is_made) := ⟨rfl, rfl, rfl, by decide +kernel, rfl, by decide +kernel, by decide +kernel⟩
abbrev s_Lot_primes : Stmt := clsS 24 2
theorem sc_Lot_primes : FnScope N_Lot_primes ["self"] (defScope s_Lot_primes) := ⟨rfl, rfl, rfl, by decide +kernel, rfl, by decide +kernel, by decide +kernel⟩
abbrev s_is_factor : Stmt := topS 41
theorem sc_is_factor : FnScope N_is_factor ["lot", "value"] (defScope s_is_factor) := ⟨rfl, rfl, rfl, by decide +kernel, rfl, by decide +kernel, by decide +kernel⟩
abbrev s_common_part : Stmt := topS 40
theorem sc_common_part : FnScope N_common_part ["one", "other"] (defScope s_common_part) := ⟨rfl, rfl, rfl, by decide +kernel, rfl, by decide +kernel, by decide +kernel⟩
abbrev s_value_of : Stmt := topS 42
theorem sc_value_of : FnScope N_value_of ["row"] (defScope s_value_of) := ⟨rfl, rfl, rfl, by decide +kernel, rfl, by decide +kernel, by decide +kernel⟩
abbrev s_written_shown : Stmt := topS 48
theorem sc_written_shown : FnScope N_written_shown ["lot", "claim", "certificate"] (defScope s_written_shown) := ⟨rfl, rfl, rfl, by decide +kernel, rfl, by decide +kernel, by decide +kernel⟩
abbrev s_product_of : Stmt := topS 17
theorem sc_product_of : FnScope N_product_of ["primes"] (defScope s_product_of) := ⟨rfl, rfl, rfl, by decide +kernel, rfl, by decide +kernel, by decide +kernel⟩
abbrev s_Lot___init : Stmt := clsS 24 0
theorem sc_Lot___init : FnScope N_Lot___init ["self", "primes"] (defScope s_Lot___init) := ⟨rfl, rfl, rfl, by decide +kernel, rfl, by decide +kernel, by decide +kernel⟩
abbrev s_number_shown : Stmt := topS 46
theorem sc_number_shown : FnScope N_number_shown ["primes", "claim", "certificate"] (defScope s_number_shown) := ⟨rfl, rfl, rfl, by decide +kernel, rfl, by decide +kernel, by decide +kernel⟩
abbrev s_all_products : Stmt := topS 33
theorem sc_all_products : FnScope N_all_products ["primes"] (defScope s_all_products) := ⟨rfl, rfl, rfl, by decide +kernel, rfl, by decide +kernel, by decide +kernel⟩
abbrev s_products_of : Stmt := topS 37
theorem sc_products_of : FnScope N_products_of ["primes"] (defScope s_products_of) := ⟨rfl, rfl, rfl, by decide +kernel, rfl, by decide +kernel, by decide +kernel⟩
abbrev s_next_of : Stmt := topS 30
theorem sc_next_of : FnScope N_next_of ["root", "least", "pair"] (defScope s_next_of) := ⟨rfl, rfl, rfl, by decide +kernel, rfl, by decide +kernel, by decide +kernel⟩
abbrev s_rich_solutions : Stmt := topS 35
theorem sc_rich_solutions : FnScope N_rich_solutions ["primes", "root"] (defScope s_rich_solutions) := ⟨rfl, rfl, rfl, by decide +kernel, rfl, by decide +kernel, by decide +kernel⟩
abbrev s_pairs_by : Stmt := topS 36
theorem sc_pairs_by : FnScope N_pairs_by ["primes", "product"] (defScope s_pairs_by) := ⟨rfl, rfl, rfl, by decide +kernel, rfl, by decide +kernel, by decide +kernel⟩
abbrev s_all_pairs : Stmt := topS 38
theorem sc_all_pairs : FnScope N_all_pairs ["primes"] (defScope s_all_pairs) := ⟨rfl, rfl, rfl, by decide +kernel, rfl, by decide +kernel, by decide +kernel⟩
abbrev s_accepts : Stmt := topS 49
theorem sc_accepts : FnScope N_accepts ["claim", "certificate"] (defScope s_accepts) := ⟨rfl, rfl, rfl, by decide +kernel, rfl, by decide +kernel, by decide +kernel⟩
abbrev s_law_told : Stmt := topS 60
theorem sc_law_told : FnScope N_law_told ["_law_tale", "_law_paper"] (defScope s_law_told) := ⟨rfl, rfl, rfl, by decide +kernel, rfl, by decide +kernel, by decide +kernel⟩
abbrev s_law_right : Stmt := topS 61
theorem sc_law_right : FnScope N_law_right ["_law_jar"] (defScope s_law_right) := ⟨rfl, rfl, rfl, by decide +kernel, rfl, by decide +kernel, by decide +kernel⟩
abbrev s_law_well : Stmt := topS 52
theorem sc_law_well : FnScope N_law_well ["_law_cell_here"] (defScope s_law_well) := ⟨rfl, rfl, rfl, by decide +kernel, rfl, by decide +kernel, by decide +kernel⟩
abbrev s_law_cell : Stmt := topS 51
theorem sc_law_cell : FnScope N_law_cell ["_law_cells", "_law_k"] (defScope s_law_cell) := ⟨rfl, rfl, rfl, by decide +kernel, rfl, by decide +kernel, by decide +kernel⟩
abbrev s_law : Stmt := topS 62
theorem sc_law : FnScope N_law ["_law_cells"] (defScope s_law) := ⟨rfl, rfl, rfl, by decide +kernel, rfl, by decide +kernel, by decide +kernel⟩
structure Txt (K : PySem.W.Frag) (mg : Str → Option Value) : Prop where
  f_range : mg "range" = none
  f_max : mg "max" = none
  f_min : mg "min" = none
  f_len : mg "len" = none
  f_str : mg "str" = none
  f_repr : mg "repr" = none
  f_int : mg "int" = none
  f_divmod : mg "divmod" = none
  f_isinstance : mg "isinstance" = none
  f_bool : mg "bool" = none
  f_tuple : mg "tuple" = none
  i_MOST_ROOT : ∃ t, mg "MOST_ROOT" = some (.int 1000000 t)
  f_all : mg "all" = none
  f_zip : mg "zip" = none
  s_DIGITS : ∃ t, mg "DIGITS" = some (.str "0123456789" t)
  f_enumerate : mg "enumerate" = none
  i_MOST_PRODUCT : ∃ t, mg "MOST_PRODUCT" = some (.int 30030 t)
  d_Lot_row : FldN K mg "Lot" "row"
  d_Lot_whole : FldN K mg "Lot" "whole"
  f_sorted : mg "sorted" = none
  i_ENOUGH : ∃ t, mg "ENOUGH" = some (.int 12 t)
  f_abs : mg "abs" = none
section
variable {P : Program} {w : World} {K : PySem.W.Frag} {mg : Str → Option Value} {base : Heap}
theorem dd_law_dip (T : Txt K mg)  {f : Addr} {cdv : Value} {A : Around} {outer : List Env} {s : Shared} {H : Hp} {M : Mp} {E : XE'} (c : Cy (A.deeper (PyProof.Rows.envOfC "_law_dip" (defScope s_law_dip) s.heap.objs.size f cdv)) 0) :
    DSs (cxD P w K mg base N_law_dip "_law_dip" s_law_dip f cdv A outer s H M E) ⟨M, H⟩ (defBody s_law_dip) (t_law_dip (fnW E)) :=
  have S := sc_law_dip
  have tk := tk_fn (P := P) (w := w) (K := K) (mg := mg) (base := base) (N := N_law_dip) (qual := "_law_dip") (st := s_law_dip) (f := f) (cdv := cdv) (A := A) (outer := outer) (s := s) (H := H) (M := M) (E := E)
  (dss_cons (ds_asg (de_add (de_ix (dv 0) de_int) de_int) (dg_sub (dv 0) de_int))
  (dss_cons (ds_set (i := 2) S.nd rfl (.inl rfl) (de_mod (de_callTy c_int rfl T.f_int b_int (da_cons (de_add (de_ix (dv 0) de_int) (de_mulL de_int (de_ix (dv 0) de_int))) da_nil)) de_int))
  (dss_cons (ds_asg (de_mod (de_callTy c_int rfl T.f_int b_int (da_cons (de_add (de_add (de_mulL (dv 2) (dv 2)) (de_mulL de_int (dv 2))) de_int) da_nil)) de_int) (dg_sub (dv 0) de_int))
  (dss_cons (ds_if (dt_cmp (cd_eq c.hu) (de_ix (dv 0) de_int) de_int) (dss_one (ds_ret (de_mod (de_callTy c_int rfl T.f_int b_int (da_cons (de_div (de_ix (dv 0) de_int) de_int) da_nil)) (dv 1)))) dss_nil)
  (dss_cons (ds_asg (de_callB c_divmod rfl T.f_divmod b_divmod (da_cons (de_ix (dv 0) de_int) (da_cons (dv 1) da_nil))) (dg_tup rfl (dgs_cons (dg_name (i := 3) S.nd rfl (.inl rfl)) (dgs_cons (dg_name (i := 4) S.nd rfl (.inl rfl)) dgs_nil)) (ul_cons mt_name (ul_cons mt_name ul_nil))))
  (dss_cons (ds_asg (dv 3) (dg_sub (dv 0) de_int))
  (dss_one (ds_ret (dv 4)))))))))
theorem ok_law_dip (T : Txt K mg)  {f : Addr} {fd : FuncData} (F : FunP K "_law_dip" "_law_dip" s_law_dip f fd) : DFn P w K mg base 1 f fd ["_law_jar", "_law_many"] sp_law_dip :=
  dfn_of F sc_law_dip len_law_dip fun cdv A outer s H M ds Q E c h => ⟨_, dd_law_dip T  c, pure_law_dip ds M Q E h⟩
theorem dd_law_is_int (T : Txt K mg)  {f : Addr} {cdv : Value} {A : Around} {outer : List Env} {s : Shared} {H : Hp} {M : Mp} {E : XE'} (c : Cy (A.deeper (PyProof.Rows.envOfC "_law_is_int" (defScope s_law_is_int) s.heap.objs.size f cdv)) 0) :
    DSs (cxD P w K mg base N_law_is_int "_law_is_int" s_law_is_int f cdv A outer s H M E) ⟨M, H⟩ (defBody s_law_is_int) (t_law_is_int (fnW E)) :=
  have S := sc_law_is_int
  have tk := tk_fn (P := P) (w := w) (K := K) (mg := mg) (base := base) (N := N_law_is_int) (qual := "_law_is_int") (st := s_law_is_int) (f := f) (cdv := cdv) (A := A) (outer := outer) (s := s) (H := H) (M := M) (E := E)
  (dss_one (ds_ret (de_and (de_callB c_isTy rfl T.f_isinstance b_isinstance (da_cons (dv 0) (da_cons (de_ty rfl T.f_int b_int) da_nil))) (de_and (de_not (de_callB c_isTy rfl T.f_isinstance b_isinstance (da_cons (dv 0) (da_cons (de_ty rfl T.f_bool b_bool) da_nil)))) (de_one (de_chain cd_le cd_le (dv 1) (dv 0) (dv 2)))))))
theorem ok_law_is_int (T : Txt K mg)  {f : Addr} {fd : FuncData} (F : FunP K "_law_is_int" "_law_is_int" s_law_is_int f fd) : DFn P w K mg base 1 f fd ["_law_thing", "_law_low", "_law_high"] sp_law_is_int :=
  dfn_of F sc_law_is_int len_law_is_int fun cdv A outer s H M ds Q E c h => ⟨_, dd_law_is_int T  c, pure_law_is_int ds M Q E h⟩
theorem dd_law_floor (T : Txt K mg)  {f : Addr} {cdv : Value} {A : Around} {outer : List Env} {s : Shared} {H : Hp} {M : Mp} {E : XE'} (c : Cy (A.deeper (PyProof.Rows.envOfC "_law_floor" (defScope s_law_floor) s.heap.objs.size f cdv)) 0) :
    DSs (cxD P w K mg base N_law_floor "_law_floor" s_law_floor f cdv A outer s H M E) ⟨M, H⟩ (defBody s_law_floor) (t_law_floor (fnW E)) :=
  have S := sc_law_floor
  have tk := tk_fn (P := P) (w := w) (K := K) (mg := mg) (base := base) (N := N_law_floor) (qual := "_law_floor") (st := s_law_floor) (f := f) (cdv := cdv) (A := A) (outer := outer) (s := s) (H := H) (M := M) (E := E)
  (dss_cons (ds_asg (de_tup (da_cons de_int (da_cons de_int da_nil))) (dg_tup rfl (dgs_cons (dg_name (i := 1) S.nd rfl (.inl rfl)) (dgs_cons (dg_name (i := 2) S.nd rfl (.inl rfl)) dgs_nil)) (ul_cons mt_name (ul_cons mt_name ul_nil))))
  (dss_cons (ds_while (passes_of rfl) (dt_cmp cd_le (de_mulL (dv 2) (dv 2)) (dv 0)) (dss_one (ds_set (i := 2) S.nd rfl (.inl rfl) (de_mulL (dv 2) de_int))))
  (dss_cons (ds_while (passes_of rfl) (dt_cmp cd_gt (de_sub (dv 2) (dv 1)) de_int) (dss_cons (ds_set (i := 3) S.nd rfl (.inl rfl) (de_div (de_add (dv 1) (dv 2)) de_int))
  (dss_one (ds_asg (de_if (dt_cmp cd_le (de_mulL (dv 3) (dv 3)) (dv 0)) (de_tup (da_cons (dv 3) (da_cons (dv 2) da_nil))) (de_tup (da_cons (dv 1) (da_cons (dv 3) da_nil)))) (dg_tup rfl (dgs_cons (dg_name (i := 1) S.nd rfl (.inl rfl)) (dgs_cons (dg_name (i := 2) S.nd rfl (.inl rfl)) dgs_nil)) (ul_cons mt_name (ul_cons mt_name ul_nil)))))))
  (dss_one (ds_ret (dv 1))))))
theorem ok_law_floor (T : Txt K mg)  {f : Addr} {fd : FuncData} (F : FunP K "_law_floor" "_law_floor" s_law_floor f fd) : DFn P w K mg base 1 f fd ["_law_many"] sp_law_floor :=
  dfn_of F sc_law_floor len_law_floor fun cdv A outer s H M ds Q E c h => ⟨_, dd_law_floor T  c, pure_law_floor ds M Q E h⟩
theorem dd_law_is_root (T : Txt K mg) (G_law_is_int : GFn P w K mg base 1 "_law_is_int" sp_law_is_int) (G_law_floor : GFn P w K mg base 1 "_law_floor" sp_law_floor) {f : Addr} {cdv : Value} {A : Around} {outer : List Env} {s : Shared} {H : Hp} {M : Mp} {E : XE'} (c : Cy (A.deeper (PyProof.Rows.envOfC "_law_is_root" (defScope s_law_is_root) s.heap.objs.size f cdv)) 1) :
    DSs (cxD P w K mg base N_law_is_root "_law_is_root" s_law_is_root f cdv A outer s H M E) ⟨M, H⟩ (defBody s_law_is_root) (t_law_is_root (fnW E)) :=
  have S := sc_law_is_root
  have tk := tk_fn (P := P) (w := w) (K := K) (mg := mg) (base := base) (N := N_law_is_root) (qual := "_law_is_root") (st := s_law_is_root) (f := f) (cdv := cdv) (A := A) (outer := outer) (s := s) (H := H) (M := M) (E := E)
  (dss_one (ds_ret (de_and (de_call (G_law_is_int.mono (by decide)) c tk rfl (da_cons (dv 0) (da_cons de_int (da_cons (de_pow de_int de_int) da_nil)))) (de_one (de_cmp (cd_ne c.hu) (de_mulL (de_call (G_law_floor.mono (by decide)) c tk rfl (da_cons (dv 0) da_nil)) (de_call (G_law_floor.mono (by decide)) c tk rfl (da_cons (dv 0) da_nil))) (dv 0))))))
theorem ok_law_is_root (T : Txt K mg) (G_law_is_int : GFn P w K mg base 1 "_law_is_int" sp_law_is_int) (G_law_floor : GFn P w K mg base 1 "_law_floor" sp_law_floor) {f : Addr} {fd : FuncData} (F : FunP K "_law_is_root" "_law_is_root" s_law_is_root f fd) : DFn P w K mg base 2 f fd ["_law_thing"] sp_law_is_root :=
  dfn_of F sc_law_is_root len_law_is_root fun cdv A outer s H M ds Q E c h => ⟨_, dd_law_is_root T G_law_is_int G_law_floor c, pure_law_is_root ds M Q E h⟩
theorem dd_law_root (T : Txt K mg) (G_law_dip : GFn P w K mg base 1 "_law_dip" sp_law_dip) (G_law_is_root : GFn P w K mg base 2 "_law_is_root" sp_law_is_root) {f : Addr} {cdv : Value} {A : Around} {outer : List Env} {s : Shared} {H : Hp} {M : Mp} {E : XE'} (c : Cy (A.deeper (PyProof.Rows.envOfC "_law_root" (defScope s_law_root) s.heap.objs.size f cdv)) 2) :
    DSs (cxD P w K mg base N_law_root "_law_root" s_law_root f cdv A outer s H M E) ⟨M, H⟩ (defBody s_law_root) (t_law_root (fnW E)) :=
  have S := sc_law_root
  have tk := tk_fn (P := P) (w := w) (K := K) (mg := mg) (base := base) (N := N_law_root) (qual := "_law_root") (st := s_law_root) (f := f) (cdv := cdv) (A := A) (outer := outer) (s := s) (H := H) (M := M) (E := E)
  (dss_cons (ds_set (i := 1) S.nd rfl (.inl rfl) (de_add de_int (de_call (G_law_dip.mono (by decide)) c tk rfl (da_cons (dv 0) (da_cons de_int da_nil)))))
  (dss_cons (ds_set (i := 2) S.nd rfl (.inl rfl) (de_ix (de_lst (da_cons (de_add de_int (de_call (G_law_dip.mono (by decide)) c tk rfl (da_cons (dv 0) (da_cons de_int da_nil)))) (da_cons (de_add de_int (de_call (G_law_dip.mono (by decide)) c tk rfl (da_cons (dv 0) (da_cons de_int da_nil)))) (da_cons (de_sub (de_mulL (dv 1) (dv 1)) de_int) (da_cons (de_add (de_mulL (dv 1) (dv 1)) de_int) (da_cons (de_add (de_mulL (dv 1) (dv 1)) de_int) (da_cons (de_sub (de_mulL (dv 1) (dv 1)) de_int) da_nil))))))) (de_call (G_law_dip.mono (by decide)) c tk rfl (da_cons (dv 0) (da_cons de_int da_nil)))))
  (dss_one (ds_ret (de_if (dt_val (de_call (G_law_is_root.mono (by decide)) c tk rfl (da_cons (dv 2) da_nil))) (dv 2) (de_add (dv 2) de_int))))))
theorem ok_law_root (T : Txt K mg) (G_law_dip : GFn P w K mg base 1 "_law_dip" sp_law_dip) (G_law_is_root : GFn P w K mg base 2 "_law_is_root" sp_law_is_root) {f : Addr} {fd : FuncData} (F : FunP K "_law_root" "_law_root" s_law_root f fd) : DFn P w K mg base 3 f fd ["_law_jar"] sp_law_root :=
  dfn_of F sc_law_root len_law_root fun cdv A outer s H M ds Q E c h => ⟨_, dd_law_root T G_law_dip G_law_is_root c, pure_law_root ds M Q E h⟩
theorem dd_law_terms (T : Txt K mg) (G_law_floor : GFn P w K mg base 1 "_law_floor" sp_law_floor) {f : Addr} {cdv : Value} {A : Around} {outer : List Env} {s : Shared} {H : Hp} {M : Mp} {E : XE'} (c : Cy (A.deeper (PyProof.Rows.envOfC "_law_terms" (defScope s_law_terms) s.heap.objs.size f cdv)) 1) :
    DSs (cxD P w K mg base N_law_terms "_law_terms" s_law_terms f cdv A outer s H M E) ⟨M, H⟩ (defBody s_law_terms) (t_law_terms (fnW E)) :=
  have S := sc_law_terms
  have tk := tk_fn (P := P) (w := w) (K := K) (mg := mg) (base := base) (N := N_law_terms) (qual := "_law_terms") (st := s_law_terms) (f := f) (cdv := cdv) (A := A) (outer := outer) (s := s) (H := H) (M := M) (E := E)
  (dss_cons (ds_set (i := 1) S.nd rfl (.inl rfl) (de_call (G_law_floor.mono (by decide)) c tk rfl (da_cons (dv 0) da_nil)))
  (dss_cons (ds_asg (de_tup (da_cons de_int (da_cons de_int (da_cons (dv 1) (da_cons (de_lstM da_nil) da_nil))))) (dg_tup rfl (dgs_cons (dg_name (i := 2) S.nd rfl (.inl rfl)) (dgs_cons (dg_name (i := 3) S.nd rfl (.inl rfl)) (dgs_cons (dg_name (i := 4) S.nd rfl (.inl rfl)) (dgs_cons (dg_name (i := 5) S.nd rfl (.inl rfl)) dgs_nil)))) (ul_cons mt_name (ul_cons mt_name (ul_cons mt_name (ul_cons mt_name ul_nil))))))
  (dss_cons (ds_while (passes_of rfl) (dt_cmp (cd_ne c.hu) (dv 4) (de_mulL de_int (dv 1))) (dss_cons (ds_set (i := 2) S.nd rfl (.inl rfl) (de_sub (de_mulL (dv 3) (dv 4)) (dv 2)))
  (dss_cons (ds_set (i := 3) S.nd rfl (.inl rfl) (de_div (de_sub (dv 0) (de_mulL (dv 2) (dv 2))) (dv 3)))
  (dss_cons (ds_set (i := 4) S.nd rfl (.inl rfl) (de_div (de_add (dv 1) (dv 2)) (dv 3)))
  (dss_one (ds_expr (de_append (dv 5) (da_cons (dv 4) da_nil))))))))
  (dss_one (ds_ret (de_tup (da_cons (dv 1) (da_cons (de_callTy c_tuple rfl T.f_tuple b_tuple (da_cons (dv 5) da_nil)) da_nil))))))))
theorem ok_law_terms (T : Txt K mg) (G_law_floor : GFn P w K mg base 1 "_law_floor" sp_law_floor) {f : Addr} {fd : FuncData} (F : FunP K "_law_terms" "_law_terms" s_law_terms f fd) : DFn P w K mg base 2 f fd ["_law_d"] sp_law_terms :=
  dfn_of F sc_law_terms len_law_terms fun cdv A outer s H M ds Q E c h => ⟨_, dd_law_terms T G_law_floor c, pure_law_terms ds M Q E h⟩
theorem dd_law_least (T : Txt K mg) (G_law_terms : GFn P w K mg base 2 "_law_terms" sp_law_terms) {f : Addr} {cdv : Value} {A : Around} {outer : List Env} {s : Shared} {H : Hp} {M : Mp} {E : XE'} (c : Cy (A.deeper (PyProof.Rows.envOfC "_law_least" (defScope s_law_least) s.heap.objs.size f cdv)) 2) :
    DSs (cxD P w K mg base N_law_least "_law_least" s_law_least f cdv A outer s H M E) ⟨M, H⟩ (defBody s_law_least) (t_law_least (fnW E)) :=
  have S := sc_law_least
  have tk := tk_fn (P := P) (w := w) (K := K) (mg := mg) (base := base) (N := N_law_least) (qual := "_law_least") (st := s_law_least) (f := f) (cdv := cdv) (A := A) (outer := outer) (s := s) (H := H) (M := M) (E := E)
  (dss_cons (ds_asg (de_call (G_law_terms.mono (by decide)) c tk rfl (da_cons (dv 0) da_nil)) (dg_tup rfl (dgs_cons (dg_name (i := 1) S.nd rfl (.inl rfl)) (dgs_cons (dg_name (i := 2) S.nd rfl (.inl rfl)) dgs_nil)) (ul_cons mt_name (ul_cons mt_name ul_nil))))
  (dss_cons (ds_asg (de_tup (da_cons (dv 1) (da_cons de_int (da_cons de_int (da_cons de_int (da_cons de_int da_nil)))))) (dg_tup rfl (dgs_cons (dg_name (i := 3) S.nd rfl (.inl rfl)) (dgs_cons (dg_name (i := 4) S.nd rfl (.inl rfl)) (dgs_cons (dg_name (i := 5) S.nd rfl (.inl rfl)) (dgs_cons (dg_name (i := 6) S.nd rfl (.inl rfl)) (dgs_cons (dg_name (i := 7) S.nd rfl (.inl rfl)) dgs_nil))))) (ul_cons mt_name (ul_cons mt_name (ul_cons mt_name (ul_cons mt_name (ul_cons mt_name ul_nil)))))))
  (dss_cons (ds_while (passes_of rfl) (dt_cmp (cd_ne c.hu) (de_sub (de_mulL (dv 3) (dv 3)) (de_mulL (de_mulL (dv 0) (dv 5)) (dv 5))) de_int) (dss_cons (ds_set (i := 8) S.nd rfl (.inl rfl) (de_ix (dv 2) (de_mod (de_callTy c_int rfl T.f_int b_int (da_cons (dv 7) da_nil)) (de_callB c_len rfl T.f_len b_len (da_cons (dv 2) da_nil)))))
  (dss_cons (ds_par (i := 3) (j := 4) rfl S.nd rfl rfl (by decide) rfl rfl (da_cons (de_add (de_mulL (dv 8) (dv 3)) (dv 4)) (da_cons (dv 3) da_nil)) (by rfl))
  (dss_cons (ds_par (i := 5) (j := 6) rfl S.nd rfl rfl (by decide) rfl rfl (da_cons (de_add (de_mulL (dv 8) (dv 5)) (dv 6)) (da_cons (dv 5) da_nil)) (by rfl))
  (dss_one (ds_set (i := 7) S.nd rfl (.inl rfl) (de_add (dv 7) de_int)))))))
  (dss_one (ds_ret (de_tup (da_cons (dv 3) (da_cons (dv 5) da_nil))))))))
theorem ok_law_least (T : Txt K mg) (G_law_terms : GFn P w K mg base 2 "_law_terms" sp_law_terms) {f : Addr} {fd : FuncData} (F : FunP K "_law_least" "_law_least" s_law_least f fd) : DFn P w K mg base 3 f fd ["_law_d"] sp_law_least :=
  dfn_of F sc_law_least len_law_least fun cdv A outer s H M ds Q E c h => ⟨_, dd_law_least T G_law_terms c, pure_law_least ds M Q E h⟩
theorem dd_is_integer (T : Txt K mg)  {f : Addr} {cdv : Value} {A : Around} {outer : List Env} {s : Shared} {H : Hp} {M : Mp} {E : XE'} (c : Cy (A.deeper (PyProof.Rows.envOfC "is_integer" (defScope s_is_integer) s.heap.objs.size f cdv)) 0) :
    DSs (cxD P w K mg base N_is_integer "is_integer" s_is_integer f cdv A outer s H M E) ⟨M, H⟩ (defBody s_is_integer) (t_is_integer (fnW E)) :=
  have S := sc_is_integer
  have tk := tk_fn (P := P) (w := w) (K := K) (mg := mg) (base := base) (N := N_is_integer) (qual := "is_integer") (st := s_is_integer) (f := f) (cdv := cdv) (A := A) (outer := outer) (s := s) (H := H) (M := M) (E := E)
  (dss_one (ds_ret (de_and (de_callB c_isTy rfl T.f_isinstance b_isinstance (da_cons (dv 0) (da_cons (de_ty rfl T.f_int b_int) da_nil))) (de_one (de_not (de_callB c_isTy rfl T.f_isinstance b_isinstance (da_cons (dv 0) (da_cons (de_ty rfl T.f_bool b_bool) da_nil))))))))
theorem ok_is_integer (T : Txt K mg)  {f : Addr} {fd : FuncData} (F : FunP K "is_integer" "is_integer" s_is_integer f fd) : DFn P w K mg base 1 f fd ["value"] sp_is_integer :=
  dfn_of F sc_is_integer len_is_integer fun cdv A outer s H M ds Q E c h => ⟨_, dd_is_integer T  c, pure_is_integer ds M Q E h⟩
theorem dd_is_within (T : Txt K mg) (G_is_integer : GFn P w K mg base 1 "is_integer" sp_is_integer) {f : Addr} {cdv : Value} {A : Around} {outer : List Env} {s : Shared} {H : Hp} {M : Mp} {E : XE'} (c : Cy (A.deeper (PyProof.Rows.envOfC "is_within" (defScope s_is_within) s.heap.objs.size f cdv)) 1) :
    DSs (cxD P w K mg base N_is_within "is_within" s_is_within f cdv A outer s H M E) ⟨M, H⟩ (defBody s_is_within) (t_is_within (fnW E)) :=
  have S := sc_is_within
  have tk := tk_fn (P := P) (w := w) (K := K) (mg := mg) (base := base) (N := N_is_within) (qual := "is_within") (st := s_is_within) (f := f) (cdv := cdv) (A := A) (outer := outer) (s := s) (H := H) (M := M) (E := E)
  (dss_one (ds_ret (de_and (de_call (G_is_integer.mono (by decide)) c tk rfl (da_cons (dv 0) da_nil)) (de_one (de_chain cd_le cd_le (dv 1) (dv 0) (dv 2))))))
theorem ok_is_within (T : Txt K mg) (G_is_integer : GFn P w K mg base 1 "is_integer" sp_is_integer) {f : Addr} {fd : FuncData} (F : FunP K "is_within" "is_within" s_is_within f fd) : DFn P w K mg base 2 f fd ["value", "least", "most"] sp_is_within :=
  dfn_of F sc_is_within len_is_within fun cdv A outer s H M ds Q E c h => ⟨_, dd_is_within T G_is_integer c, pure_is_within ds M Q E h⟩
theorem dd_root_below (T : Txt K mg)  {f : Addr} {cdv : Value} {A : Around} {outer : List Env} {s : Shared} {H : Hp} {M : Mp} {E : XE'} (c : Cy (A.deeper (PyProof.Rows.envOfC "root_below" (defScope s_root_below) s.heap.objs.size f cdv)) 0) :
    DSs (cxD P w K mg base N_root_below "root_below" s_root_below f cdv A outer s H M E) ⟨M, H⟩ (defBody s_root_below) (t_root_below (fnW E)) :=
  have S := sc_root_below
  have tk := tk_fn (P := P) (w := w) (K := K) (mg := mg) (base := base) (N := N_root_below) (qual := "root_below") (st := s_root_below) (f := f) (cdv := cdv) (A := A) (outer := outer) (s := s) (H := H) (M := M) (E := E)
  (dss_cons (ds_par (i := 1) (j := 2) rfl S.nd rfl rfl (by decide) rfl rfl (da_cons de_int (da_cons (de_add (dv 0) de_int) da_nil)) (by rfl))
  (dss_cons (ds_while (passes_of rfl) (dt_cmp cd_gt (de_sub (dv 2) (dv 1)) de_int) (dss_cons (ds_set (i := 3) S.nd rfl (.inl rfl) (de_div (de_add (dv 1) (dv 2)) de_int))
  (dss_one (ds_if (dt_cmp cd_le (de_mulL (dv 3) (dv 3)) (dv 0)) (dss_one (ds_set (i := 1) S.nd rfl (.inl rfl) (dv 3))) (dss_one (ds_set (i := 2) S.nd rfl (.inl rfl) (dv 3)))))))
  (dss_one (ds_ret (dv 1)))))
theorem ok_root_below (T : Txt K mg)  {f : Addr} {fd : FuncData} (F : FunP K "root_below" "root_below" s_root_below f fd) : DFn P w K mg base 1 f fd ["number"] sp_root_below :=
  dfn_of F sc_root_below len_root_below fun cdv A outer s H M ds Q E c h => ⟨_, dd_root_below T  c, pure_root_below ds M Q E h⟩
theorem dd_is_root (T : Txt K mg) (G_is_within : GFn P w K mg base 2 "is_within" sp_is_within) (G_root_below : GFn P w K mg base 1 "root_below" sp_root_below) {f : Addr} {cdv : Value} {A : Around} {outer : List Env} {s : Shared} {H : Hp} {M : Mp} {E : XE'} (c : Cy (A.deeper (PyProof.Rows.envOfC "is_root" (defScope s_is_root) s.heap.objs.size f cdv)) 2) :
    DSs (cxD P w K mg base N_is_root "is_root" s_is_root f cdv A outer s H M E) ⟨M, H⟩ (defBody s_is_root) (t_is_root (fnW E)) :=
  have S := sc_is_root
  have tk := tk_fn (P := P) (w := w) (K := K) (mg := mg) (base := base) (N := N_is_root) (qual := "is_root") (st := s_is_root) (f := f) (cdv := cdv) (A := A) (outer := outer) (s := s) (H := H) (M := M) (E := E)
  (dss_cons (ds_if (dt_not (dt_val (de_call (G_is_within.mono (by decide)) c tk rfl (da_cons (dv 0) (da_cons de_int (da_cons (de_gI rfl T.i_MOST_ROOT) da_nil)))))) (dss_one (ds_ret de_bl)) dss_nil)
  (dss_cons (ds_set (i := 1) S.nd rfl (.inl rfl) (de_call (G_root_below.mono (by decide)) c tk rfl (da_cons (dv 0) da_nil)))
  (dss_one (ds_ret (de_cmp (cd_ne c.hu) (de_mulL (dv 1) (dv 1)) (dv 0))))))
theorem ok_is_root (T : Txt K mg) (G_is_within : GFn P w K mg base 2 "is_within" sp_is_within) (G_root_below : GFn P w K mg base 1 "root_below" sp_root_below) {f : Addr} {fd : FuncData} (F : FunP K "is_root" "is_root" s_is_root f fd) : DFn P w K mg base 3 f fd ["value"] sp_is_root :=
  dfn_of F sc_is_root len_is_root fun cdv A outer s H M ds Q E c h => ⟨_, dd_is_root T G_is_within G_root_below c, pure_is_root ds M Q E h⟩
theorem dd_is_number (T : Txt K mg) (G_is_integer : GFn P w K mg base 1 "is_integer" sp_is_integer) {f : Addr} {cdv : Value} {A : Around} {outer : List Env} {s : Shared} {H : Hp} {M : Mp} {E : XE'} (c : Cy (A.deeper (PyProof.Rows.envOfC "is_number" (defScope s_is_number) s.heap.objs.size f cdv)) 1) :
    DSs (cxD P w K mg base N_is_number "is_number" s_is_number f cdv A outer s H M E) ⟨M, H⟩ (defBody s_is_number) (t_is_number (fnW E)) :=
  have S := sc_is_number
  have tk := tk_fn (P := P) (w := w) (K := K) (mg := mg) (base := base) (N := N_is_number) (qual := "is_number") (st := s_is_number) (f := f) (cdv := cdv) (A := A) (outer := outer) (s := s) (H := H) (M := M) (E := E)
  (dss_one (ds_ret (de_and (de_call (G_is_integer.mono (by decide)) c tk rfl (da_cons (dv 0) da_nil)) (de_one (de_cmp cd_ge (dv 0) de_int)))))
theorem ok_is_number (T : Txt K mg) (G_is_integer : GFn P w K mg base 1 "is_integer" sp_is_integer) {f : Addr} {fd : FuncData} (F : FunP K "is_number" "is_number" s_is_number f fd) : DFn P w K mg base 2 f fd ["value"] sp_is_number :=
  dfn_of F sc_is_number len_is_number fun cdv A outer s H M ds Q E c h => ⟨_, dd_is_number T G_is_integer c, pure_is_number ds M Q E h⟩
theorem dd_is_empty (T : Txt K mg)  {f : Addr} {cdv : Value} {A : Around} {outer : List Env} {s : Shared} {H : Hp} {M : Mp} {E : XE'} (c : Cy (A.deeper (PyProof.Rows.envOfC "is_empty" (defScope s_is_empty) s.heap.objs.size f cdv)) 0) :
    DSs (cxD P w K mg base N_is_empty "is_empty" s_is_empty f cdv A outer s H M E) ⟨M, H⟩ (defBody s_is_empty) (t_is_empty (fnW E)) :=
  have S := sc_is_empty
  have tk := tk_fn (P := P) (w := w) (K := K) (mg := mg) (base := base) (N := N_is_empty) (qual := "is_empty") (st := s_is_empty) (f := f) (cdv := cdv) (A := A) (outer := outer) (s := s) (H := H) (M := M) (E := E)
  (dss_one (ds_ret (de_and (de_callB c_isTy rfl T.f_isinstance b_isinstance (da_cons (dv 0) (da_cons (de_ty rfl T.f_tuple b_tuple) da_nil))) (de_one (de_cmp (cd_eq c.hu) (de_callB c_len rfl T.f_len b_len (da_cons (dv 0) da_nil)) de_int)))))
theorem ok_is_empty (T : Txt K mg)  {f : Addr} {fd : FuncData} (F : FunP K "is_empty" "is_empty" s_is_empty f fd) : DFn P w K mg base 1 f fd ["value"] sp_is_empty :=
  dfn_of F sc_is_empty len_is_empty fun cdv A outer s H M ds Q E c h => ⟨_, dd_is_empty T  c, pure_is_empty ds M Q E h⟩
theorem dd_is_same (T : Txt K mg) (G_is_integer : GFn P w K mg base 1 "is_integer" sp_is_integer) {kk : Nat} {R : DSp} (G_R : GFn P w K mg base (kk + 1) "is_same" R) {f : Addr} {cdv : Value} {A : Around} {outer : List Env} {s : Shared} {H : Hp} {M : Mp} {E : XE'} (c : Cy (A.deeper (PyProof.Rows.envOfC "is_same" (defScope s_is_same) s.heap.objs.size f cdv)) (kk + 1)) :
    DSs (cxD P w K mg base N_is_same "is_same" s_is_same f cdv A outer s H M E) ⟨M, H⟩ (defBody s_is_same) (t_is_same R (fnW E)) :=
  have S := sc_is_same
  have tk := tk_fn (P := P) (w := w) (K := K) (mg := mg) (base := base) (N := N_is_same) (qual := "is_same") (st := s_is_same) (f := f) (cdv := cdv) (A := A) (outer := outer) (s := s) (H := H) (M := M) (E := E)
  (dss_cons (ds_if (dt_val (de_callB c_isTy rfl T.f_isinstance b_isinstance (da_cons (dv 1) (da_cons (de_ty rfl T.f_tuple b_tuple) da_nil)))) (dss_cons (ds_if (dw (dw_or (dt_not (dt_val (de_callB c_isTy rfl T.f_isinstance b_isinstance (da_cons (dv 0) (da_cons (de_ty rfl T.f_tuple b_tuple) da_nil))))) (dw_or1 (dt_cmp (cd_ne c.hu) (de_callB c_len rfl T.f_len b_len (da_cons (dv 0) da_nil)) (de_callB c_len rfl T.f_len b_len (da_cons (dv 1) da_nil)))))) (dss_one (ds_ret de_bl)) dss_nil)
  (dss_one (ds_ret (de_callB (c_all rfl) rfl T.f_all b_all (da_cons (de_lcG (own := [("one", 2), ("other", 3)]) (c := (CT.tup [2, 3])) rfl S.nd (dj_zip rfl T.f_zip (da_cons (dv 0) (da_cons (dv 1) da_nil))) (blkOk_by (own := [("one", 2), ("other", 3)]) (N := N_is_same) (sc := defScope s_is_same) (by decide +kernel)) (by decide) (fun _ _ _ _ _ => (pg_tup rfl (pgs_cons (pg_name (i := 2) S.nd rfl (Or.inl rfl)) (pgs_cons (pg_name (i := 3) S.nd rfl (Or.inl rfl)) pgs_nil)))) (fun _ _ _ _ _ => dtl_nil) (fun _ _ _ _ _ => (de_call (G_R.mono (Nat.le_refl _)) c tk_no rfl (da_cons (dv 2) (da_cons (dv 3) da_nil))))) da_nil))))) dss_nil)
  (dss_one (ds_ret (de_and (de_call (G_is_integer.mono (by omega)) c tk rfl (da_cons (dv 0) da_nil)) (de_one (de_cmp (cd_eq c.hu) (dv 0) (dv 1)))))))
theorem ok_is_same (T : Txt K mg) (G_is_integer : GFn P w K mg base 1 "is_integer" sp_is_integer) {f : Addr} {fd : FuncData} (F : FunP K "is_same" "is_same" s_is_same f fd) (hm : mg "is_same" = some (.ref f)) (b : Binds K fd ["value", "due"] []) : ∀ n : Nat, DFn P w K mg base (n + 1 + 1) f fd ["value", "due"] (sp_is_same n)
  | 0 => dfn_of F sc_is_same (len_is_same 0) fun cdv A outer s H M ds Q E c h => ⟨_, dd_is_same T G_is_integer (R := R_is_same 0) (kk := 0) ⟨f, fd, _, DFn.bot, hm, F.kp, b⟩ (c.mono (by omega)), pure_is_same 0 ds M Q E h⟩
  | n + 1 => dfn_of F sc_is_same (len_is_same (n + 1)) fun cdv A outer s H M ds Q E c h => ⟨_, dd_is_same T G_is_integer (R := R_is_same (n + 1)) (kk := n + 1) ⟨f, fd, _, (ok_is_same T G_is_integer F hm b n).mono (by omega), hm, F.kp, b⟩ (c.mono (by omega)), pure_is_same (n + 1) ds M Q E h⟩
theorem dd_fraction_of (T : Txt K mg) (G_root_below : GFn P w K mg base 1 "root_below" sp_root_below) {f : Addr} {cdv : Value} {A : Around} {outer : List Env} {s : Shared} {H : Hp} {M : Mp} {E : XE'} (c : Cy (A.deeper (PyProof.Rows.envOfC "fraction_of" (defScope s_fraction_of) s.heap.objs.size f cdv)) 1) :
    DSs (cxD P w K mg base N_fraction_of "fraction_of" s_fraction_of f cdv A outer s H M E) ⟨M, H⟩ (defBody s_fraction_of) (t_fraction_of (fnW E)) :=
  have S := sc_fraction_of
  have tk := tk_fn (P := P) (w := w) (K := K) (mg := mg) (base := base) (N := N_fraction_of) (qual := "fraction_of") (st := s_fraction_of) (f := f) (cdv := cdv) (A := A) (outer := outer) (s := s) (H := H) (M := M) (E := E)
  (dss_cons (ds_set (i := 1) S.nd rfl (.inl rfl) (de_call (G_root_below.mono (by decide)) c tk rfl (da_cons (dv 0) da_nil)))
  (dss_cons (ds_asg (de_tup (da_cons de_int (da_cons de_int (da_cons (dv 1) (da_cons (de_lstM da_nil) da_nil))))) (dg_tup rfl (dgs_cons (dg_name (i := 2) S.nd rfl (.inl rfl)) (dgs_cons (dg_name (i := 3) S.nd rfl (.inl rfl)) (dgs_cons (dg_name (i := 4) S.nd rfl (.inl rfl)) (dgs_cons (dg_name (i := 5) S.nd rfl (.inl rfl)) dgs_nil)))) (ul_cons mt_name (ul_cons mt_name (ul_cons mt_name (ul_cons mt_name ul_nil))))))
  (dss_cons (ds_while (passes_of rfl) (dt_cmp (cd_ne c.hu) (dv 4) (de_mulL de_int (dv 1))) (dss_cons (ds_set (i := 2) S.nd rfl (.inl rfl) (de_sub (de_mulL (dv 3) (dv 4)) (dv 2)))
  (dss_cons (ds_set (i := 3) S.nd rfl (.inl rfl) (de_div (de_sub (dv 0) (de_mulL (dv 2) (dv 2))) (dv 3)))
  (dss_cons (ds_set (i := 4) S.nd rfl (.inl rfl) (de_div (de_add (dv 1) (dv 2)) (dv 3)))
  (dss_one (ds_expr (de_append (dv 5) (da_cons (dv 4) da_nil))))))))
  (dss_one (ds_ret (de_tup (da_cons (dv 1) (da_cons (de_callTy c_tuple rfl T.f_tuple b_tuple (da_cons (dv 5) da_nil)) da_nil))))))))
theorem ok_fraction_of (T : Txt K mg) (G_root_below : GFn P w K mg base 1 "root_below" sp_root_below) {f : Addr} {fd : FuncData} (F : FunP K "fraction_of" "fraction_of" s_fraction_of f fd) : DFn P w K mg base 2 f fd ["root"] sp_fraction_of :=
  dfn_of F sc_fraction_of len_fraction_of fun cdv A outer s H M ds Q E c h => ⟨_, dd_fraction_of T G_root_below c, pure_fraction_of ds M Q E h⟩
theorem dd_least_of (T : Txt K mg) (G_fraction_of : GFn P w K mg base 2 "fraction_of" sp_fraction_of) {f : Addr} {cdv : Value} {A : Around} {outer : List Env} {s : Shared} {H : Hp} {M : Mp} {E : XE'} (c : Cy (A.deeper (PyProof.Rows.envOfC "least_of" (defScope s_least_of) s.heap.objs.size f cdv)) 2) :
    DSs (cxD P w K mg base N_least_of "least_of" s_least_of f cdv A outer s H M E) ⟨M, H⟩ (defBody s_least_of) (t_least_of (fnW E)) :=
  have S := sc_least_of
  have tk := tk_fn (P := P) (w := w) (K := K) (mg := mg) (base := base) (N := N_least_of) (qual := "least_of") (st := s_least_of) (f := f) (cdv := cdv) (A := A) (outer := outer) (s := s) (H := H) (M := M) (E := E)
  (dss_cons (ds_asg (de_call (G_fraction_of.mono (by decide)) c tk rfl (da_cons (dv 0) da_nil)) (dg_tup rfl (dgs_cons (dg_name (i := 1) S.nd rfl (.inl rfl)) (dgs_cons (dg_name (i := 2) S.nd rfl (.inl rfl)) dgs_nil)) (ul_cons mt_name (ul_cons mt_name ul_nil))))
  (dss_cons (ds_set (i := 3) S.nd rfl (.inl rfl) (de_if (dt_cmp (cd_eq c.hu) (de_mod (de_callB c_len rfl T.f_len b_len (da_cons (dv 2) da_nil)) de_int) de_int) (de_slice (dv 2) do_none (do_some (de_neg de_int))) (de_add (dv 2) (de_slice (dv 2) do_none (do_some (de_neg de_int))))))
  (dss_cons (ds_asg (de_tup (da_cons (dv 1) (da_cons de_int (da_cons de_int (da_cons de_int da_nil))))) (dg_tup rfl (dgs_cons (dg_name (i := 4) S.nd rfl (.inl rfl)) (dgs_cons (dg_name (i := 5) S.nd rfl (.inl rfl)) (dgs_cons (dg_name (i := 6) S.nd rfl (.inl rfl)) (dgs_cons (dg_name (i := 7) S.nd rfl (.inl rfl)) dgs_nil)))) (ul_cons mt_name (ul_cons mt_name (ul_cons mt_name (ul_cons mt_name ul_nil))))))
  (dss_cons (ds_for (passes_of rfl) rfl (di_items (dv 3)) (dg_name (i := 8) S.nd rfl (.inl rfl)) (dss_cons (ds_par (i := 4) (j := 5) rfl S.nd rfl rfl (by decide) rfl rfl (da_cons (de_add (de_mulL (dv 8) (dv 4)) (dv 5)) (da_cons (dv 4) da_nil)) (by rfl))
  (dss_one (ds_par (i := 6) (j := 7) rfl S.nd rfl rfl (by decide) rfl rfl (da_cons (de_add (de_mulL (dv 8) (dv 6)) (dv 7)) (da_cons (dv 6) da_nil)) (by rfl)))))
  (dss_one (ds_ret (de_tup (da_cons (dv 4) (da_cons (dv 6) da_nil)))))))))
theorem ok_least_of (T : Txt K mg) (G_fraction_of : GFn P w K mg base 2 "fraction_of" sp_fraction_of) {f : Addr} {fd : FuncData} (F : FunP K "least_of" "least_of" s_least_of f fd) : DFn P w K mg base 3 f fd ["root"] sp_least_of :=
  dfn_of F sc_least_of len_least_of fun cdv A outer s H M ds Q E c h => ⟨_, dd_least_of T G_fraction_of c, pure_least_of ds M Q E h⟩
theorem dd_root_shown (T : Txt K mg) (G_is_root : GFn P w K mg base 3 "is_root" sp_is_root) (G_is_number : GFn P w K mg base 2 "is_number" sp_is_number) (G_is_empty : GFn P w K mg base 1 "is_empty" sp_is_empty) (G_is_same : GFn P w K mg base 6 "is_same" (sp_is_same 4)) (G_fraction_of : GFn P w K mg base 2 "fraction_of" sp_fraction_of) (G_least_of : GFn P w K mg base 3 "least_of" sp_least_of) {f : Addr} {cdv : Value} {A : Around} {outer : List Env} {s : Shared} {H : Hp} {M : Mp} {E : XE'} (c : Cy (A.deeper (PyProof.Rows.envOfC "root_shown" (defScope s_root_shown) s.heap.objs.size f cdv)) 6) :
    DSs (cxD P w K mg base N_root_shown "root_shown" s_root_shown f cdv A outer s H M E) ⟨M, H⟩ (defBody s_root_shown) (t_root_shown (fnW E)) :=
  have S := sc_root_shown
  have tk := tk_fn (P := P) (w := w) (K := K) (mg := mg) (base := base) (N := N_root_shown) (qual := "root_shown") (st := s_root_shown) (f := f) (cdv := cdv) (A := A) (outer := outer) (s := s) (H := H) (M := M) (E := E)
  (dss_cons (ds_asg (de_slice (dv 0) (do_some de_int) do_none) (dg_tup rfl (dgs_cons (dg_name (i := 2) S.nd rfl (.inl rfl)) (dgs_cons (dg_name (i := 3) S.nd rfl (.inl rfl)) (dgs_cons (dg_name (i := 4) S.nd rfl (.inl rfl)) dgs_nil))) (ul_cons mt_name (ul_cons mt_name (ul_cons mt_name ul_nil)))))
  (dss_cons (ds_if (dw (dw_or (dt_not (dt_val (de_call (G_is_root.mono (by decide)) c tk rfl (da_cons (dv 2) da_nil)))) (dw_or (dt_not (dt_val (de_call (G_is_number.mono (by decide)) c tk rfl (da_cons (dv 3) da_nil)))) (dw_or1 (dt_not (dt_val (de_call (G_is_number.mono (by decide)) c tk rfl (da_cons (dv 4) da_nil)))))))) (dss_one (ds_ret de_bl)) dss_nil)
  (dss_cons (ds_if (dt_cmp (cd_eq c.hu) (de_ix (dv 0) de_int) de_str) (dss_one (ds_ret (de_and (de_call (G_is_empty.mono (by decide)) c tk rfl (da_cons (dv 1) da_nil)) (de_one (de_cmp (cd_eq c.hu) (de_sub (de_mulL (dv 3) (dv 3)) (de_mulL (de_mulL (dv 2) (dv 4)) (dv 4))) de_int))))) dss_nil)
  (dss_one (ds_ret (de_and (de_cmp (cd_eq c.hu) (de_ix (dv 0) de_int) de_str) (de_and (de_call (G_is_same.mono (by decide)) c tk rfl (da_cons (dv 1) (da_cons (de_call (G_fraction_of.mono (by decide)) c tk rfl (da_cons (dv 2) da_nil)) da_nil))) (de_one (de_cmp (cd_eq c.hu) (de_tup (da_cons (dv 3) (da_cons (dv 4) da_nil))) (de_call (G_least_of.mono (by decide)) c tk rfl (da_cons (dv 2) da_nil)))))))))))
theorem ok_root_shown (T : Txt K mg) (G_is_root : GFn P w K mg base 3 "is_root" sp_is_root) (G_is_number : GFn P w K mg base 2 "is_number" sp_is_number) (G_is_empty : GFn P w K mg base 1 "is_empty" sp_is_empty) (G_is_same : GFn P w K mg base 6 "is_same" (sp_is_same 4)) (G_fraction_of : GFn P w K mg base 2 "fraction_of" sp_fraction_of) (G_least_of : GFn P w K mg base 3 "least_of" sp_least_of) {f : Addr} {fd : FuncData} (F : FunP K "root_shown" "root_shown" s_root_shown f fd) : DFn P w K mg base 7 f fd ["claim", "certificate"] sp_root_shown :=
  dfn_of F sc_root_shown len_root_shown fun cdv A outer s H M ds Q E c h => ⟨_, dd_root_shown T G_is_root G_is_number G_is_empty G_is_same G_fraction_of G_least_of c, pure_root_shown ds M Q E h⟩
theorem dd_read_number (T : Txt K mg)  {f : Addr} {cdv : Value} {A : Around} {outer : List Env} {s : Shared} {H : Hp} {M : Mp} {E : XE'} (c : Cy (A.deeper (PyProof.Rows.envOfC "read_number" (defScope s_read_number) s.heap.objs.size f cdv)) 0) :
    DSs (cxD P w K mg base N_read_number "read_number" s_read_number f cdv A outer s H M E) ⟨M, H⟩ (defBody s_read_number) (t_read_number (fnW E)) :=
  have S := sc_read_number
  have tk := tk_fn (P := P) (w := w) (K := K) (mg := mg) (base := base) (N := N_read_number) (qual := "read_number") (st := s_read_number) (f := f) (cdv := cdv) (A := A) (outer := outer) (s := s) (H := H) (M := M) (E := E)
  (dss_cons (ds_if (dw (dw_or (dt_cmp (cd_eq c.hu) (dv 0) de_str) (dw_or (dt_cmp cd_gt (de_callB c_len rfl T.f_len b_len (da_cons (dv 0) da_nil)) de_int) (dw_or1 (dt_not (dt_val (de_callB (c_all rfl) rfl T.f_all b_all (da_cons (de_lc (own := [("sign", 2)]) (i := 2) rfl S.nd (di_items (dv 0)) (blkOk_by (own := [("sign", 2)]) (N := N_read_number) (sc := defScope s_read_number) (by decide +kernel)) (by decide) (fun _ _ _ _ _ => pg_name (i := 2) S.nd rfl (Or.inl rfl)) (fun _ _ _ _ _ => dtl_nil) (fun _ _ _ _ _ => (de_cmp (cd_in2 c.hu65) (dv 2) (de_gS rfl T.s_DIGITS)))) da_nil)))))))) (dss_one (ds_ret de_non)) dss_nil)
  (dss_cons (ds_set (i := 1) S.nd rfl (.inl rfl) (de_callTy c_int rfl T.f_int b_int (da_cons (dv 0) da_nil)))
  (dss_one (ds_ret (de_if (dt_cmp (cd_eq c.hu) (de_callTy c_str rfl T.f_str b_str (da_cons (dv 1) da_nil)) (dv 0)) (dv 1) de_non)))))
theorem ok_read_number (T : Txt K mg)  {f : Addr} {fd : FuncData} (F : FunP K "read_number" "read_number" s_read_number f fd) : DFn P w K mg base 1 f fd ["word"] sp_read_number :=
  dfn_of F sc_read_number len_read_number fun cdv A outer s H M ds Q E c h => ⟨_, dd_read_number T  c, pure_read_number ds M Q E h⟩
theorem dd_is_prime (T : Txt K mg) (G_is_integer : GFn P w K mg base 1 "is_integer" sp_is_integer) {f : Addr} {cdv : Value} {A : Around} {outer : List Env} {s : Shared} {H : Hp} {M : Mp} {E : XE'} (c : Cy (A.deeper (PyProof.Rows.envOfC "is_prime" (defScope s_is_prime) s.heap.objs.size f cdv)) 1) :
    DSs (cxD P w K mg base N_is_prime "is_prime" s_is_prime f cdv A outer s H M E) ⟨M, H⟩ (defBody s_is_prime) (t_is_prime (fnW E)) :=
  have S := sc_is_prime
  have tk := tk_fn (P := P) (w := w) (K := K) (mg := mg) (base := base) (N := N_is_prime) (qual := "is_prime") (st := s_is_prime) (f := f) (cdv := cdv) (A := A) (outer := outer) (s := s) (H := H) (M := M) (E := E)
  (dss_cons (ds_if (dw (dw_or (dt_not (dt_val (de_call (G_is_integer.mono (by decide)) c tk rfl (da_cons (dv 0) da_nil)))) (dw_or (dt_cmp cd_lt (dv 0) de_int) (dw_or1 (dt_cmp cd_gt (dv 0) (de_gI rfl T.i_MOST_PRODUCT)))))) (dss_one (ds_ret de_bl)) dss_nil)
  (dss_cons (ds_set (i := 1) S.nd rfl (.inl rfl) de_int)
  (dss_cons (ds_while (passes_of rfl) (dt_cmp cd_le (de_mulL (dv 1) (dv 1)) (dv 0)) (dss_cons (ds_if (dt_cmp (cd_eq c.hu) (de_mod (dv 0) (dv 1)) de_int) (dss_one (ds_ret de_bl)) dss_nil)
  (dss_one (ds_aug (i := 1) ia_add.1 ia_add.2 S.nd rfl (.inl rfl) de_int))))
  (dss_one (ds_ret de_bl)))))
theorem ok_is_prime (T : Txt K mg) (G_is_integer : GFn P w K mg base 1 "is_integer" sp_is_integer) {f : Addr} {fd : FuncData} (F : FunP K "is_prime" "is_prime" s_is_prime f fd) : DFn P w K mg base 2 f fd ["value"] sp_is_prime :=
  dfn_of F sc_is_prime len_is_prime fun cdv A outer s H M ds Q E c h => ⟨_, dd_is_prime T G_is_integer c, pure_is_prime ds M Q E h⟩
theorem dd_wrong_prime (T : Txt K mg) (G_is_prime : GFn P w K mg base 2 "is_prime" sp_is_prime) {f : Addr} {cdv : Value} {A : Around} {outer : List Env} {s : Shared} {H : Hp} {M : Mp} {E : XE'} (c : Cy (A.deeper (PyProof.Rows.envOfC "wrong_prime" (defScope s_wrong_prime) s.heap.objs.size f cdv)) 2) :
    DSs (cxD P w K mg base N_wrong_prime "wrong_prime" s_wrong_prime f cdv A outer s H M E) ⟨M, H⟩ (defBody s_wrong_prime) (t_wrong_prime (fnW E)) :=
  have S := sc_wrong_prime
  have tk := tk_fn (P := P) (w := w) (K := K) (mg := mg) (base := base) (N := N_wrong_prime) (qual := "wrong_prime") (st := s_wrong_prime) (f := f) (cdv := cdv) (A := A) (outer := outer) (s := s) (H := H) (M := M) (E := E)
  (dss_cons (ds_if (dw (dw_or (dt_not (dt_val (de_callB c_isTy rfl T.f_isinstance b_isinstance (da_cons (dv 0) (da_cons (de_ty rfl T.f_tuple b_tuple) da_nil))))) (dw_or1 (dt_cmp (cd_eq c.hu) (de_callB c_len rfl T.f_len b_len (da_cons (dv 0) da_nil)) de_int)))) (dss_one (ds_ret (de_tup (da_cons de_non da_nil)))) dss_nil)
  (dss_cons (ds_asg (de_tup (da_cons de_int (da_cons de_int da_nil))) (dg_tup rfl (dgs_cons (dg_name (i := 1) S.nd rfl (.inl rfl)) (dgs_cons (dg_name (i := 2) S.nd rfl (.inl rfl)) dgs_nil)) (ul_cons mt_name (ul_cons mt_name ul_nil))))
  (dss_cons (ds_for (passes_of rfl) rfl (di_enum rfl T.f_enumerate (da_cons (dv 0) da_nil)) (dg_tup rfl (dgs_cons (dg_name (i := 3) S.nd rfl (.inl rfl)) (dgs_cons (dg_name (i := 4) S.nd rfl (.inl rfl)) dgs_nil)) (ul_cons mt_name (ul_cons mt_name ul_nil))) (dss_cons (ds_if (dw (dw_or (dt_not (dt_val (de_call (G_is_prime.mono (by decide)) c tk rfl (da_cons (dv 4) da_nil)))) (dw_or (dt_cmp cd_le (dv 4) (dv 1)) (dw_or1 (dt_cmp cd_gt (de_mulL (dv 2) (dv 4)) (de_gI rfl T.i_MOST_PRODUCT)))))) (dss_one (ds_ret (de_tup (da_cons (dv 3) da_nil)))) dss_nil)
  (dss_one (ds_par (i := 1) (j := 2) rfl S.nd rfl rfl (by decide) rfl rfl (da_cons (dv 4) (da_cons (de_mulL (dv 2) (dv 4)) da_nil)) (by rfl)))))
  (dss_one (ds_ret (de_tup da_nil))))))
theorem ok_wrong_prime (T : Txt K mg) (G_is_prime : GFn P w K mg base 2 "is_prime" sp_is_prime) {f : Addr} {fd : FuncData} (F : FunP K "wrong_prime" "wrong_prime" s_wrong_prime f fd) : DFn P w K mg base 3 f fd ["primes"] sp_wrong_prime :=
  dfn_of F sc_wrong_prime len_wrong_prime fun cdv A outer s H M ds Q E c h => ⟨_, dd_wrong_prime T G_is_prime c, pure_wrong_prime ds M Q E h⟩
theorem dd_read_lot (T : Txt K mg) (G_read_number : GFn P w K mg base 1 "read_number" sp_read_number) (G_wrong_prime : GFn P w K mg base 3 "wrong_prime" sp_wrong_prime) {f : Addr} {cdv : Value} {A : Around} {outer : List Env} {s : Shared} {H : Hp} {M : Mp} {E : XE'} (c : Cy (A.deeper (PyProof.Rows.envOfC "read_lot" (defScope s_read_lot) s.heap.objs.size f cdv)) 3) :
    DSs (cxD P w K mg base N_read_lot "read_lot" s_read_lot f cdv A outer s H M E) ⟨M, H⟩ (defBody s_read_lot) (t_read_lot (fnW E)) :=
  have S := sc_read_lot
  have tk := tk_fn (P := P) (w := w) (K := K) (mg := mg) (base := base) (N := N_read_lot) (qual := "read_lot") (st := s_read_lot) (f := f) (cdv := cdv) (A := A) (outer := outer) (s := s) (H := H) (M := M) (E := E)
  (dss_cons (ds_if (dt_not (dt_val (de_callB c_isTy rfl T.f_isinstance b_isinstance (da_cons (dv 0) (da_cons (de_ty rfl T.f_str b_str) da_nil))))) (dss_one (ds_ret de_non)) dss_nil)
  (dss_cons (ds_set (i := 1) S.nd rfl (.inl rfl) (de_callTy c_tuple rfl T.f_tuple b_tuple (da_cons (de_lc (own := [("word", 2)]) (i := 2) rfl S.nd (di_items de_no) (blkOk_by (own := [("word", 2)]) (N := N_read_lot) (sc := defScope s_read_lot) (by decide +kernel)) (by decide) (fun _ _ _ _ _ => pg_name (i := 2) S.nd rfl (Or.inl rfl)) (fun _ _ _ _ _ => dtl_nil) (fun _ _ _ _ _ => (de_call (G_read_number.mono (by decide)) c tk_no rfl (da_cons (dv 2) da_nil)))) da_nil)))
  (dss_one (ds_ret (de_if (dt_cmp (cd_eq c.hu) (de_call (G_wrong_prime.mono (by decide)) c tk rfl (da_cons (dv 1) da_nil)) (de_tup da_nil)) (dv 1) de_non)))))
theorem ok_read_lot (T : Txt K mg) (G_read_number : GFn P w K mg base 1 "read_number" sp_read_number) (G_wrong_prime : GFn P w K mg base 3 "wrong_prime" sp_wrong_prime) {f : Addr} {fd : FuncData} (F : FunP K "read_lot" "read_lot" s_read_lot f fd) : DFn P w K mg base 4 f fd ["text"] sp_read_lot :=
  dfn_of F sc_read_lot len_read_lot fun cdv A outer s H M ds Q E c h => ⟨_, dd_read_lot T G_read_number G_wrong_prime c, pure_read_lot ds M Q E h⟩
theorem dd_times_in (T : Txt K mg)  {f : Addr} {cdv : Value} {A : Around} {outer : List Env} {s : Shared} {H : Hp} {M : Mp} {E : XE'} (c : Cy (A.deeper (PyProof.Rows.envOfC "times_in" (defScope s_times_in) s.heap.objs.size f cdv)) 0) :
    DSs (cxD P w K mg base N_times_in "times_in" s_times_in f cdv A outer s H M E) ⟨M, H⟩ (defBody s_times_in) (t_times_in (fnW E)) :=
  have S := sc_times_in
  have tk := tk_fn (P := P) (w := w) (K := K) (mg := mg) (base := base) (N := N_times_in) (qual := "times_in") (st := s_times_in) (f := f) (cdv := cdv) (A := A) (outer := outer) (s := s) (H := H) (M := M) (E := E)
  (dss_cons (ds_set (i := 2) S.nd rfl (.inl rfl) de_int)
  (dss_cons (ds_while (passes_of rfl) (dt_cmp (cd_eq c.hu) (de_mod (dv 0) (dv 1)) de_int) (dss_one (ds_par (i := 0) (j := 2) rfl S.nd rfl rfl (by decide) rfl rfl (da_cons (de_div (dv 0) (dv 1)) (da_cons (de_add (dv 2) de_int) da_nil)) (by rfl))))
  (dss_one (ds_ret (de_tup (da_cons (dv 2) (da_cons (dv 0) da_nil)))))))
theorem ok_times_in (T : Txt K mg)  {f : Addr} {fd : FuncData} (F : FunP K "times_in" "times_in" s_times_in f fd) : DFn P w K mg base 1 f fd ["number", "prime"] sp_times_in :=
  dfn_of F sc_times_in len_times_in fun cdv A outer s H M ds Q E c h => ⟨_, dd_times_in T  c, pure_times_in ds M Q E h⟩
theorem dd_parts_of (T : Txt K mg) (G_times_in : GFn P w K mg base 1 "times_in" sp_times_in) {f : Addr} {cdv : Value} {A : Around} {outer : List Env} {s : Shared} {H : Hp} {M : Mp} {E : XE'} (c : Cy (A.deeper (PyProof.Rows.envOfC "parts_of" (defScope s_parts_of) s.heap.objs.size f cdv)) 1) :
    DSs (cxD P w K mg base N_parts_of "parts_of" s_parts_of f cdv A outer s H M E) ⟨M, H⟩ (defBody s_parts_of) (t_parts_of (fnW E)) :=
  have S := sc_parts_of
  have tk := tk_fn (P := P) (w := w) (K := K) (mg := mg) (base := base) (N := N_parts_of) (qual := "parts_of") (st := s_parts_of) (f := f) (cdv := cdv) (A := A) (outer := outer) (s := s) (H := H) (M := M) (E := E)
  (dss_cons (ds_set (i := 2) S.nd rfl (.inl rfl) (de_lstM da_nil))
  (dss_cons (ds_for (passes_of rfl) rfl (di_items (dv 0)) (dg_name (i := 3) S.nd rfl (.inl rfl)) (dss_cons (ds_asg (de_call (G_times_in.mono (by decide)) c tk rfl (da_cons (dv 1) (da_cons (dv 3) da_nil))) (dg_tup rfl (dgs_cons (dg_name (i := 4) S.nd rfl (.inl rfl)) (dgs_cons (dg_name (i := 1) S.nd rfl (.inl rfl)) dgs_nil)) (ul_cons mt_name (ul_cons mt_name ul_nil))))
  (dss_one (ds_expr (de_append (dv 2) (da_cons (dv 4) da_nil))))))
  (dss_one (ds_ret (de_tup (da_cons (de_callTy c_tuple rfl T.f_tuple b_tuple (da_cons (dv 2) da_nil)) (da_cons (dv 1) da_nil)))))))
theorem ok_parts_of (T : Txt K mg) (G_times_in : GFn P w K mg base 1 "times_in" sp_times_in) {f : Addr} {fd : FuncData} (F : FunP K "parts_of" "parts_of" s_parts_of f fd) : DFn P w K mg base 2 f fd ["primes", "number"] sp_parts_of :=
  dfn_of F sc_parts_of len_parts_of fun cdv A outer s H M ds Q E c h => ⟨_, dd_parts_of T G_times_in c, pure_parts_of ds M Q E h⟩
theorem dd_is_made (T : Txt K mg) (G_parts_of : GFn P w K mg base 2 "parts_of" sp_parts_of) {f : Addr} {cdv : Value} {A : Around} {outer : List Env} {s : Shared} {H : Hp} {M : Mp} {E : XE'} (c : Cy (A.deeper (PyProof.Rows.envOfC "is_made" (defScope s_is_made) s.heap.objs.size f cdv)) 2) :
    DSs (cxD P w K mg base N_is_made "is_made" s_is_made f cdv A outer s H M E) ⟨M, H⟩ (defBody s_is_made) (t_is_made (fnW E)) :=
  have S := sc_is_made
  have tk := tk_fn (P := P) (w := w) (K := K) (mg := mg) (base := base) (N := N_is_made) (qual := "is_made") (st := s_is_made) (f := f) (cdv := cdv) (A := A) (outer := outer) (s := s) (H := H) (M := M) (E := E)
  (dss_one (ds_ret (de_cmp (cd_eq c.hu) (de_ix (de_call (G_parts_of.mono (by decide)) c tk rfl (da_cons (dv 0) (da_cons (dv 1) da_nil))) de_int) de_int)))
theorem ok_is_made (T : Txt K mg) (G_parts_of : GFn P w K mg base 2 "parts_of" sp_parts_of) {f : Addr} {fd : FuncData} (F : FunP K "is_made" "is_made" s_is_made f fd) : DFn P w K mg base 3 f fd ["primes", "number"] sp_is_made :=
  dfn_of F sc_is_made len_is_made fun cdv A outer s H M ds Q E c h => ⟨_, dd_is_made T G_parts_of c, pure_is_made ds M Q E h⟩
theorem dd_Lot_primes (T : Txt K mg)  {f : Addr} {cdv : Value} {A : Around} {outer : List Env} {s : Shared} {H : Hp} {M : Mp} {E : XE'} (c : Cy (A.deeper (PyProof.Rows.envOfC "Lot.primes" (defScope s_Lot_primes) s.heap.objs.size f cdv)) 0) :
    DSs (cxD P w K mg base N_Lot_primes "Lot.primes" s_Lot_primes f cdv A outer s H M E) ⟨M, H⟩ (defBody s_Lot_primes) (t_Lot_primes (fnW E)) :=
  have S := sc_Lot_primes
  have tk := tk_fn (P := P) (w := w) (K := K) (mg := mg) (base := base) (N := N_Lot_primes) (qual := "Lot.primes") (st := s_Lot_primes) (f := f) (cdv := cdv) (A := A) (outer := outer) (s := s) (H := H) (M := M) (E := E)
  (dss_one (ds_ret (de_fld T.d_Lot_row (dv 0))))
theorem ok_Lot_primes (T : Txt K mg)  {f : Addr} {fd : FuncData} (F : FunP K "primes" "Lot.primes" s_Lot_primes f fd) : DFn P w K mg base 1 f fd ["self"] sp_Lot_primes :=
  dfn_of F sc_Lot_primes len_Lot_primes fun cdv A outer s H M ds Q E c h => ⟨_, dd_Lot_primes T  c, pure_Lot_primes ds M Q E h⟩
theorem dd_is_factor (T : Txt K mg) (G_is_number : GFn P w K mg base 2 "is_number" sp_is_number) (G_is_made : GFn P w K mg base 3 "is_made" sp_is_made) (G_Lot_primes : GProp P w K mg base 1 "Lot" "primes" sp_Lot_primes) {f : Addr} {cdv : Value} {A : Around} {outer : List Env} {s : Shared} {H : Hp} {M : Mp} {E : XE'} (c : Cy (A.deeper (PyProof.Rows.envOfC "is_factor" (defScope s_is_factor) s.heap.objs.size f cdv)) 3) :
    DSs (cxD P w K mg base N_is_factor "is_factor" s_is_factor f cdv A outer s H M E) ⟨M, H⟩ (defBody s_is_factor) (t_is_factor (fnW E)) :=
  have S := sc_is_factor
  have tk := tk_fn (P := P) (w := w) (K := K) (mg := mg) (base := base) (N := N_is_factor) (qual := "is_factor") (st := s_is_factor) (f := f) (cdv := cdv) (A := A) (outer := outer) (s := s) (H := H) (M := M) (E := E)
  (dss_cons (ds_if (dw (dw_or (dt_not (dt_val (de_callB c_isTy rfl T.f_isinstance b_isinstance (da_cons (dv 1) (da_cons (de_ty rfl T.f_tuple b_tuple) da_nil))))) (dw_or (dt_cmp (cd_ne c.hu) (de_callB c_len rfl T.f_len b_len (da_cons (dv 1) da_nil)) de_int) (dw_or (dt_not (dt_val (de_call (G_is_number.mono (by decide)) c tk rfl (da_cons (de_ix (dv 1) de_int) da_nil)))) (dw_or1 (dt_cmp (cd_notin2 c.hu65) (de_ix (dv 1) de_int) (de_tup (da_cons de_int (da_cons (de_neg de_int) da_nil))))))))) (dss_one (ds_ret de_bl)) dss_nil)
  (dss_one (ds_ret (de_and (de_not (de_callB c_isTy rfl T.f_isinstance b_isinstance (da_cons (de_ix (dv 1) de_int) (da_cons (de_ty rfl T.f_bool b_bool) da_nil)))) (de_and (de_call (G_is_made.mono (by decide)) c tk rfl (da_cons (de_prop (G_Lot_primes.mono (by decide)) c (dv 0)) (da_cons (de_ix (dv 1) de_int) da_nil))) (de_one (de_call (G_is_made.mono (by decide)) c tk rfl (da_cons (de_prop (G_Lot_primes.mono (by decide)) c (dv 0)) (da_cons (de_add (de_ix (dv 1) de_int) de_int) da_nil)))))))))
theorem ok_is_factor (T : Txt K mg) (G_is_number : GFn P w K mg base 2 "is_number" sp_is_number) (G_is_made : GFn P w K mg base 3 "is_made" sp_is_made) (G_Lot_primes : GProp P w K mg base 1 "Lot" "primes" sp_Lot_primes) {f : Addr} {fd : FuncData} (F : FunP K "is_factor" "is_factor" s_is_factor f fd) : DFn P w K mg base 4 f fd ["lot", "value"] sp_is_factor :=
  dfn_of F sc_is_factor len_is_factor fun cdv A outer s H M ds Q E c h => ⟨_, dd_is_factor T G_is_number G_is_made G_Lot_primes c, pure_is_factor ds M Q E h⟩
theorem dd_common_part (T : Txt K mg)  {f : Addr} {cdv : Value} {A : Around} {outer : List Env} {s : Shared} {H : Hp} {M : Mp} {E : XE'} (c : Cy (A.deeper (PyProof.Rows.envOfC "common_part" (defScope s_common_part) s.heap.objs.size f cdv)) 0) :
    DSs (cxD P w K mg base N_common_part "common_part" s_common_part f cdv A outer s H M E) ⟨M, H⟩ (defBody s_common_part) (t_common_part (fnW E)) :=
  have S := sc_common_part
  have tk := tk_fn (P := P) (w := w) (K := K) (mg := mg) (base := base) (N := N_common_part) (qual := "common_part") (st := s_common_part) (f := f) (cdv := cdv) (A := A) (outer := outer) (s := s) (H := H) (M := M) (E := E)
  (dss_cons (ds_while (passes_of rfl) (dt_cmp (cd_ne c.hu) (dv 1) de_int) (dss_one (ds_par (i := 0) (j := 1) rfl S.nd rfl rfl (by decide) rfl rfl (da_cons (dv 1) (da_cons (de_mod (dv 0) (dv 1)) da_nil)) (by rfl))))
  (dss_one (ds_ret (dv 0))))
theorem ok_common_part (T : Txt K mg)  {f : Addr} {fd : FuncData} (F : FunP K "common_part" "common_part" s_common_part f fd) : DFn P w K mg base 1 f fd ["one", "other"] sp_common_part :=
  dfn_of F sc_common_part len_common_part fun cdv A outer s H M ds Q E c h => ⟨_, dd_common_part T  c, pure_common_part ds M Q E h⟩
theorem dd_value_of (T : Txt K mg) (G_common_part : GFn P w K mg base 1 "common_part" sp_common_part) {f : Addr} {cdv : Value} {A : Around} {outer : List Env} {s : Shared} {H : Hp} {M : Mp} {E : XE'} (c : Cy (A.deeper (PyProof.Rows.envOfC "value_of" (defScope s_value_of) s.heap.objs.size f cdv)) 1) :
    DSs (cxD P w K mg base N_value_of "value_of" s_value_of f cdv A outer s H M E) ⟨M, H⟩ (defBody s_value_of) (t_value_of (fnW E)) :=
  have S := sc_value_of
  have tk := tk_fn (P := P) (w := w) (K := K) (mg := mg) (base := base) (N := N_value_of) (qual := "value_of") (st := s_value_of) (f := f) (cdv := cdv) (A := A) (outer := outer) (s := s) (H := H) (M := M) (E := E)
  (dss_cons (ds_asg (de_tup (da_cons de_int (da_cons de_int da_nil))) (dg_tup rfl (dgs_cons (dg_name (i := 1) S.nd rfl (.inl rfl)) (dgs_cons (dg_name (i := 2) S.nd rfl (.inl rfl)) dgs_nil)) (ul_cons mt_name (ul_cons mt_name ul_nil))))
  (dss_cons (ds_for (passes_of rfl) rfl (di_items (dv 0)) (dg_tup rfl (dgs_cons (dg_name (i := 3) S.nd rfl (.inl rfl)) (dgs_cons (dg_name (i := 4) S.nd rfl (.inl rfl)) dgs_nil)) (ul_cons mt_name (ul_cons mt_name ul_nil))) (dss_cons (ds_asg (de_if (dt_cmp (cd_eq c.hu) (dv 4) de_int) (de_tup (da_cons (de_add (dv 3) de_int) (da_cons (dv 3) da_nil))) (de_tup (da_cons (dv 3) (da_cons (de_add (dv 3) de_int) da_nil)))) (dg_tup rfl (dgs_cons (dg_name (i := 5) S.nd rfl (.inl rfl)) (dgs_cons (dg_name (i := 6) S.nd rfl (.inl rfl)) dgs_nil)) (ul_cons mt_name (ul_cons mt_name ul_nil))))
  (dss_cons (ds_par (i := 1) (j := 2) rfl S.nd rfl rfl (by decide) rfl rfl (da_cons (de_mulL (dv 1) (dv 5)) (da_cons (de_mulL (dv 2) (dv 6)) da_nil)) (by rfl))
  (dss_cons (ds_set (i := 7) S.nd rfl (.inl rfl) (de_call (G_common_part.mono (by decide)) c tk rfl (da_cons (dv 1) (da_cons (dv 2) da_nil))))
  (dss_one (ds_par (i := 1) (j := 2) rfl S.nd rfl rfl (by decide) rfl rfl (da_cons (de_div (dv 1) (dv 7)) (da_cons (de_div (dv 2) (dv 7)) da_nil)) (by rfl)))))))
  (dss_one (ds_ret (de_tup (da_cons (dv 1) (da_cons (dv 2) da_nil)))))))
theorem ok_value_of (T : Txt K mg) (G_common_part : GFn P w K mg base 1 "common_part" sp_common_part) {f : Addr} {fd : FuncData} (F : FunP K "value_of" "value_of" s_value_of f fd) : DFn P w K mg base 2 f fd ["row"] sp_value_of :=
  dfn_of F sc_value_of len_value_of fun cdv A outer s H M ds Q E c h => ⟨_, dd_value_of T G_common_part c, pure_value_of ds M Q E h⟩
theorem dd_written_shown (T : Txt K mg) (G_is_number : GFn P w K mg base 2 "is_number" sp_is_number) (G_is_made : GFn P w K mg base 3 "is_made" sp_is_made) (G_Lot_primes : GProp P w K mg base 1 "Lot" "primes" sp_Lot_primes) (G_is_factor : GFn P w K mg base 4 "is_factor" sp_is_factor) (G_value_of : GFn P w K mg base 2 "value_of" sp_value_of) {f : Addr} {cdv : Value} {A : Around} {outer : List Env} {s : Shared} {H : Hp} {M : Mp} {E : XE'} (c : Cy (A.deeper (PyProof.Rows.envOfC "written_shown" (defScope s_written_shown) s.heap.objs.size f cdv)) 4) :
    DSs (cxD P w K mg base N_written_shown "written_shown" s_written_shown f cdv A outer s H M E) ⟨M, H⟩ (defBody s_written_shown) (t_written_shown (fnW E)) :=
  have S := sc_written_shown
  have tk := tk_fn (P := P) (w := w) (K := K) (mg := mg) (base := base) (N := N_written_shown) (qual := "written_shown") (st := s_written_shown) (f := f) (cdv := cdv) (A := A) (outer := outer) (s := s) (H := H) (M := M) (E := E)
  (dss_cons (ds_asg (de_slice (dv 1) (do_some de_int) do_none) (dg_tup rfl (dgs_cons (dg_name (i := 3) S.nd rfl (.inl rfl)) (dgs_cons (dg_name (i := 4) S.nd rfl (.inl rfl)) dgs_nil)) (ul_cons mt_name (ul_cons mt_name ul_nil))))
  (dss_cons (ds_if (dw (dw_or (dt_not (dt_val (de_call (G_is_number.mono (by decide)) c tk rfl (da_cons (dv 3) da_nil)))) (dw_or (dt_not (dt_val (de_call (G_is_number.mono (by decide)) c tk rfl (da_cons (dv 4) da_nil)))) (dw_or1 (dt_not (dt_val (de_callB c_isTy rfl T.f_isinstance b_isinstance (da_cons (dv 2) (da_cons (de_ty rfl T.f_tuple b_tuple) da_nil))))))))) (dss_one (ds_ret de_bl)) dss_nil)
  (dss_cons (ds_if (dw (dw_or (dt_not (dt_val (de_call (G_is_made.mono (by decide)) c tk rfl (da_cons (de_prop (G_Lot_primes.mono (by decide)) c (dv 0)) (da_cons (dv 3) da_nil))))) (dw_or1 (dt_not (dt_val (de_call (G_is_made.mono (by decide)) c tk rfl (da_cons (de_prop (G_Lot_primes.mono (by decide)) c (dv 0)) (da_cons (dv 4) da_nil)))))))) (dss_one (ds_ret de_bl)) dss_nil)
  (dss_cons (ds_if (dt_not (dt_val (de_callB (c_all rfl) rfl T.f_all b_all (da_cons (de_lc (own := [("factor", 7)]) (i := 7) rfl S.nd (di_items (dv 2)) (blkOk_by (own := [("factor", 7)]) (N := N_written_shown) (sc := defScope s_written_shown) (by decide +kernel)) (by decide) (fun _ _ _ _ _ => pg_name (i := 7) S.nd rfl (Or.inl rfl)) (fun _ _ _ _ _ => dtl_nil) (fun _ _ _ _ _ => (de_call (G_is_factor.mono (by decide)) c tk_no rfl (da_cons (dv 0) (da_cons (dv 7) da_nil))))) da_nil)))) (dss_one (ds_ret de_bl)) dss_nil)
  (dss_cons (ds_asg (de_call (G_value_of.mono (by decide)) c tk rfl (da_cons (dv 2) da_nil)) (dg_tup rfl (dgs_cons (dg_name (i := 5) S.nd rfl (.inl rfl)) (dgs_cons (dg_name (i := 6) S.nd rfl (.inl rfl)) dgs_nil)) (ul_cons mt_name (ul_cons mt_name ul_nil))))
  (dss_one (ds_ret (de_cmp (cd_eq c.hu) (de_mulL (dv 5) (dv 4)) (de_mulL (dv 6) (dv 3))))))))))
theorem ok_written_shown (T : Txt K mg) (G_is_number : GFn P w K mg base 2 "is_number" sp_is_number) (G_is_made : GFn P w K mg base 3 "is_made" sp_is_made) (G_Lot_primes : GProp P w K mg base 1 "Lot" "primes" sp_Lot_primes) (G_is_factor : GFn P w K mg base 4 "is_factor" sp_is_factor) (G_value_of : GFn P w K mg base 2 "value_of" sp_value_of) {f : Addr} {fd : FuncData} (F : FunP K "written_shown" "written_shown" s_written_shown f fd) : DFn P w K mg base 5 f fd ["lot", "claim", "certificate"] sp_written_shown :=
  dfn_of F sc_written_shown len_written_shown fun cdv A outer s H M ds Q E c h => ⟨_, dd_written_shown T G_is_number G_is_made G_Lot_primes G_is_factor G_value_of c, pure_written_shown ds M Q E h⟩
theorem dd_product_of (T : Txt K mg)  {f : Addr} {cdv : Value} {A : Around} {outer : List Env} {s : Shared} {H : Hp} {M : Mp} {E : XE'} (c : Cy (A.deeper (PyProof.Rows.envOfC "product_of" (defScope s_product_of) s.heap.objs.size f cdv)) 0) :
    DSs (cxD P w K mg base N_product_of "product_of" s_product_of f cdv A outer s H M E) ⟨M, H⟩ (defBody s_product_of) (t_product_of (fnW E)) :=
  have S := sc_product_of
  have tk := tk_fn (P := P) (w := w) (K := K) (mg := mg) (base := base) (N := N_product_of) (qual := "product_of") (st := s_product_of) (f := f) (cdv := cdv) (A := A) (outer := outer) (s := s) (H := H) (M := M) (E := E)
  (dss_cons (ds_set (i := 1) S.nd rfl (.inl rfl) de_int)
  (dss_cons (ds_for (passes_of rfl) rfl (di_items (dv 0)) (dg_name (i := 2) S.nd rfl (.inl rfl)) (dss_one (ds_aug (i := 1) ia_mul.1 ia_mul.2 S.nd rfl (.inl rfl) (dv 2))))
  (dss_one (ds_ret (dv 1)))))
theorem ok_product_of (T : Txt K mg)  {f : Addr} {fd : FuncData} (F : FunP K "product_of" "product_of" s_product_of f fd) : DFn P w K mg base 1 f fd ["primes"] sp_product_of :=
  dfn_of F sc_product_of len_product_of fun cdv A outer s H M ds Q E c h => ⟨_, dd_product_of T  c, pure_product_of ds M Q E h⟩
theorem dd_Lot___init (T : Txt K mg) (G_wrong_prime : GFn P w K mg base 3 "wrong_prime" sp_wrong_prime) (G_product_of : GFn P w K mg base 1 "product_of" sp_product_of) {f : Addr} {cdv : Value} {A : Around} {outer : List Env} {s : Shared} {H : Hp} {M : Mp} {E : XE'} (c : Cy (A.deeper (PyProof.Rows.envOfC "Lot.__init__" (defScope s_Lot___init) s.heap.objs.size f cdv)) 3) :
    DSs (cxD P w K mg base N_Lot___init "Lot.__init__" s_Lot___init f cdv A outer s H M E) ⟨M, H⟩ (defBody s_Lot___init) (t_Lot___init (fnW E)) :=
  have S := sc_Lot___init
  have tk := tk_fn (P := P) (w := w) (K := K) (mg := mg) (base := base) (N := N_Lot___init) (qual := "Lot.__init__") (st := s_Lot___init) (f := f) (cdv := cdv) (A := A) (outer := outer) (s := s) (H := H) (M := M) (E := E)
  (dss_cons (ds_set (i := 2) S.nd rfl (.inl rfl) (de_call (G_wrong_prime.mono (by decide)) c tk rfl (da_cons (dv 1) da_nil)))
  (dss_cons (ds_if (dt_cmp (cd_ne c.hu) (dv 2) (de_tup da_nil)) (dss_one ds_never) dss_nil)
  (dss_cons (ds_setF T.d_Lot_row (dv 1) (dv 0))
  (dss_one (ds_setF T.d_Lot_whole (de_call (G_product_of.mono (by decide)) c tk rfl (da_cons (dv 1) da_nil)) (dv 0))))))
theorem ok_Lot___init (T : Txt K mg) (G_wrong_prime : GFn P w K mg base 3 "wrong_prime" sp_wrong_prime) (G_product_of : GFn P w K mg base 1 "product_of" sp_product_of) {f : Addr} {fd : FuncData} (F : FunP K "__init__" "Lot.__init__" s_Lot___init f fd) : DFn P w K mg base 4 f fd ["self", "primes"] sp_Lot___init :=
  dfn_of F sc_Lot___init len_Lot___init fun cdv A outer s H M ds Q E c h => ⟨_, dd_Lot___init T G_wrong_prime G_product_of c, pure_Lot___init ds M Q E h⟩
theorem dd_number_shown (T : Txt K mg) (G_is_number : GFn P w K mg base 2 "is_number" sp_is_number) (G_parts_of : GFn P w K mg base 2 "parts_of" sp_parts_of) (G_is_same : GFn P w K mg base 6 "is_same" (sp_is_same 4)) {f : Addr} {cdv : Value} {A : Around} {outer : List Env} {s : Shared} {H : Hp} {M : Mp} {E : XE'} (c : Cy (A.deeper (PyProof.Rows.envOfC "number_shown" (defScope s_number_shown) s.heap.objs.size f cdv)) 6) :
    DSs (cxD P w K mg base N_number_shown "number_shown" s_number_shown f cdv A outer s H M E) ⟨M, H⟩ (defBody s_number_shown) (t_number_shown (fnW E)) :=
  have S := sc_number_shown
  have tk := tk_fn (P := P) (w := w) (K := K) (mg := mg) (base := base) (N := N_number_shown) (qual := "number_shown") (st := s_number_shown) (f := f) (cdv := cdv) (A := A) (outer := outer) (s := s) (H := H) (M := M) (E := E)
  (dss_cons (ds_if (dt_not (dt_val (de_call (G_is_number.mono (by decide)) c tk rfl (da_cons (de_ix (dv 1) de_int) da_nil)))) (dss_one (ds_ret de_bl)) dss_nil)
  (dss_cons (ds_par (i := 3) (j := 4) rfl S.nd rfl rfl (by decide) rfl rfl (da_cons (de_call (G_parts_of.mono (by decide)) c tk rfl (da_cons (dv 0) (da_cons (de_ix (dv 1) de_int) da_nil))) (da_cons (de_call (G_parts_of.mono (by decide)) c tk rfl (da_cons (dv 0) (da_cons (de_add (de_ix (dv 1) de_int) de_int) da_nil))) da_nil)) (by rfl))
  (dss_cons (ds_if (dt_cmp (cd_eq c.hu) (de_ix (dv 1) de_int) de_str) (dss_one (ds_ret (de_and (de_cmp (cd_eq c.hu) (de_ix (dv 3) de_int) de_int) (de_and (de_cmp (cd_eq c.hu) (de_ix (dv 4) de_int) de_int) (de_one (de_call (G_is_same.mono (by decide)) c tk rfl (da_cons (dv 2) (da_cons (de_tup (da_cons (de_ix (dv 3) de_int) (da_cons (de_ix (dv 4) de_int) da_nil))) da_nil)))))))) dss_nil)
  (dss_one (ds_ret (de_and (de_or (de_cmp cd_gt (de_ix (dv 3) de_int) de_int) (de_one (de_cmp cd_gt (de_ix (dv 4) de_int) de_int))) (de_one (de_call (G_is_same.mono (by decide)) c tk rfl (da_cons (dv 2) (da_cons (de_tup (da_cons (de_ix (dv 3) de_int) (da_cons (de_ix (dv 4) de_int) da_nil))) da_nil))))))))))
theorem ok_number_shown (T : Txt K mg) (G_is_number : GFn P w K mg base 2 "is_number" sp_is_number) (G_parts_of : GFn P w K mg base 2 "parts_of" sp_parts_of) (G_is_same : GFn P w K mg base 6 "is_same" (sp_is_same 4)) {f : Addr} {fd : FuncData} (F : FunP K "number_shown" "number_shown" s_number_shown f fd) : DFn P w K mg base 7 f fd ["primes", "claim", "certificate"] sp_number_shown :=
  dfn_of F sc_number_shown len_number_shown fun cdv A outer s H M ds Q E c h => ⟨_, dd_number_shown T G_is_number G_parts_of G_is_same c, pure_number_shown ds M Q E h⟩
theorem dd_all_products (T : Txt K mg)  {f : Addr} {cdv : Value} {A : Around} {outer : List Env} {s : Shared} {H : Hp} {M : Mp} {E : XE'} (c : Cy (A.deeper (PyProof.Rows.envOfC "all_products" (defScope s_all_products) s.heap.objs.size f cdv)) 0) :
    DSs (cxD P w K mg base N_all_products "all_products" s_all_products f cdv A outer s H M E) ⟨M, H⟩ (defBody s_all_products) (t_all_products (fnW E)) :=
  have S := sc_all_products
  have tk := tk_fn (P := P) (w := w) (K := K) (mg := mg) (base := base) (N := N_all_products) (qual := "all_products") (st := s_all_products) (f := f) (cdv := cdv) (A := A) (outer := outer) (s := s) (H := H) (M := M) (E := E)
  (dss_cons (ds_set (i := 1) S.nd rfl (.inl rfl) (de_lst (da_cons de_int da_nil)))
  (dss_cons (ds_for (passes_of rfl) rfl (di_items (dv 0)) (dg_name (i := 2) S.nd rfl (.inr rfl)) (dss_one (ds_set (i := 1) S.nd rfl (.inl rfl) (de_add (dv 1) (de_lc (own := [("product", 3)]) (i := 3) rfl S.nd (di_items (dv 1)) (blkOk_by (own := [("product", 3)]) (N := N_all_products) (sc := defScope s_all_products) (by decide +kernel)) (by decide) (fun _ _ _ _ _ => pg_name (i := 3) S.nd rfl (Or.inl rfl)) (fun _ _ _ _ _ => dtl_nil) (fun _ _ _ _ _ => (de_mulL (dv 3) (dv 2))))))))
  (dss_one (ds_ret (de_callB c_sorted rfl T.f_sorted b_sorted (da_cons (dv 1) da_nil))))))
theorem ok_all_products (T : Txt K mg)  {f : Addr} {fd : FuncData} (F : FunP K "all_products" "all_products" s_all_products f fd) : DFn P w K mg base 1 f fd ["primes"] sp_all_products :=
  dfn_of F sc_all_products len_all_products fun cdv A outer s H M ds Q E c h => ⟨_, dd_all_products T  c, pure_all_products ds M Q E h⟩
theorem dd_products_of (T : Txt K mg) (G_all_products : GFn P w K mg base 1 "all_products" sp_all_products) {f : Addr} {cdv : Value} {A : Around} {outer : List Env} {s : Shared} {H : Hp} {M : Mp} {E : XE'} (c : Cy (A.deeper (PyProof.Rows.envOfC "products_of" (defScope s_products_of) s.heap.objs.size f cdv)) 1) :
    DSs (cxD P w K mg base N_products_of "products_of" s_products_of f cdv A outer s H M E) ⟨M, H⟩ (defBody s_products_of) (t_products_of (fnW E)) :=
  have S := sc_products_of
  have tk := tk_fn (P := P) (w := w) (K := K) (mg := mg) (base := base) (N := N_products_of) (qual := "products_of") (st := s_products_of) (f := f) (cdv := cdv) (A := A) (outer := outer) (s := s) (H := H) (M := M) (E := E)
  (dss_one (ds_ret (de_lc (own := [("product", 1)]) (i := 1) rfl S.nd (di_items (de_call (G_all_products.mono (by decide)) c tk rfl (da_cons (dv 0) da_nil))) (blkOk_by (own := [("product", 1)]) (N := N_products_of) (sc := defScope s_products_of) (by decide +kernel)) (by decide) (fun _ _ _ _ _ => pg_name (i := 1) S.nd rfl (Or.inl rfl)) (fun _ _ _ _ _ => (dtl_one (dt_cmp (cd_ne c.hu) (dv 1) de_int))) (fun _ _ _ _ _ => (dv 1)))))
theorem ok_products_of (T : Txt K mg) (G_all_products : GFn P w K mg base 1 "all_products" sp_all_products) {f : Addr} {fd : FuncData} (F : FunP K "products_of" "products_of" s_products_of f fd) : DFn P w K mg base 2 f fd ["primes"] sp_products_of :=
  dfn_of F sc_products_of len_products_of fun cdv A outer s H M ds Q E c h => ⟨_, dd_products_of T G_all_products c, pure_products_of ds M Q E h⟩
theorem dd_next_of (T : Txt K mg)  {f : Addr} {cdv : Value} {A : Around} {outer : List Env} {s : Shared} {H : Hp} {M : Mp} {E : XE'} (c : Cy (A.deeper (PyProof.Rows.envOfC "next_of" (defScope s_next_of) s.heap.objs.size f cdv)) 0) :
    DSs (cxD P w K mg base N_next_of "next_of" s_next_of f cdv A outer s H M E) ⟨M, H⟩ (defBody s_next_of) (t_next_of (fnW E)) :=
  have S := sc_next_of
  have tk := tk_fn (P := P) (w := w) (K := K) (mg := mg) (base := base) (N := N_next_of) (qual := "next_of") (st := s_next_of) (f := f) (cdv := cdv) (A := A) (outer := outer) (s := s) (H := H) (M := M) (E := E)
  (dss_cons (ds_asg (dv 1) (dg_tup rfl (dgs_cons (dg_name (i := 3) S.nd rfl (.inl rfl)) (dgs_cons (dg_name (i := 4) S.nd rfl (.inl rfl)) dgs_nil)) (ul_cons mt_name (ul_cons mt_name ul_nil))))
  (dss_cons (ds_asg (dv 2) (dg_tup rfl (dgs_cons (dg_name (i := 5) S.nd rfl (.inl rfl)) (dgs_cons (dg_name (i := 6) S.nd rfl (.inl rfl)) dgs_nil)) (ul_cons mt_name (ul_cons mt_name ul_nil))))
  (dss_one (ds_ret (de_tup (da_cons (de_add (de_mulL (dv 3) (dv 5)) (de_mulL (de_mulL (dv 0) (dv 4)) (dv 6))) (da_cons (de_add (de_mulL (dv 3) (dv 6)) (de_mulL (dv 4) (dv 5))) da_nil)))))))
theorem ok_next_of (T : Txt K mg)  {f : Addr} {fd : FuncData} (F : FunP K "next_of" "next_of" s_next_of f fd) : DFn P w K mg base 1 f fd ["root", "least", "pair"] sp_next_of :=
  dfn_of F sc_next_of len_next_of fun cdv A outer s H M ds Q E c h => ⟨_, dd_next_of T  c, pure_next_of ds M Q E h⟩
theorem dd_rich_solutions (T : Txt K mg) (G_least_of : GFn P w K mg base 3 "least_of" sp_least_of) (G_is_made : GFn P w K mg base 3 "is_made" sp_is_made) (G_next_of : GFn P w K mg base 1 "next_of" sp_next_of) {f : Addr} {cdv : Value} {A : Around} {outer : List Env} {s : Shared} {H : Hp} {M : Mp} {E : XE'} (c : Cy (A.deeper (PyProof.Rows.envOfC "rich_solutions" (defScope s_rich_solutions) s.heap.objs.size f cdv)) 3) :
    DSs (cxD P w K mg base N_rich_solutions "rich_solutions" s_rich_solutions f cdv A outer s H M E) ⟨M, H⟩ (defBody s_rich_solutions) (t_rich_solutions (fnW E)) :=
  have S := sc_rich_solutions
  have tk := tk_fn (P := P) (w := w) (K := K) (mg := mg) (base := base) (N := N_rich_solutions) (qual := "rich_solutions") (st := s_rich_solutions) (f := f) (cdv := cdv) (A := A) (outer := outer) (s := s) (H := H) (M := M) (E := E)
  (dss_cons (ds_set (i := 2) S.nd rfl (.inl rfl) (de_call (G_least_of.mono (by decide)) c tk rfl (da_cons (dv 1) da_nil)))
  (dss_cons (ds_if (dt_not (dt_val (de_call (G_is_made.mono (by decide)) c tk rfl (da_cons (dv 0) (da_cons (de_ix (dv 2) de_int) da_nil))))) (dss_one (ds_ret (de_lst da_nil))) dss_nil)
  (dss_cons (ds_par (i := 3) (j := 4) rfl S.nd rfl rfl (by decide) rfl rfl (da_cons (de_lstM da_nil) (da_cons (dv 2) da_nil)) (by rfl))
  (dss_cons (ds_for (passes_of rfl) rfl (di_range1 rfl T.f_range (da_cons (de_callB (c_max rfl) rfl T.f_max b_max (da_cons (de_gI rfl T.i_ENOUGH) (da_cons (de_add (de_ix (dv 0) (de_neg de_int)) de_int) da_nil))) da_nil)) (dg_name (i := 5) S.nd rfl (.inl rfl)) (dss_cons (ds_if (dt_val (de_call (G_is_made.mono (by decide)) c tk rfl (da_cons (dv 0) (da_cons (de_ix (dv 4) de_int) da_nil)))) (dss_one (ds_expr (de_append (dv 3) (da_cons (dv 4) da_nil)))) dss_nil)
  (dss_one (ds_set (i := 4) S.nd rfl (.inl rfl) (de_call (G_next_of.mono (by decide)) c tk rfl (da_cons (dv 1) (da_cons (dv 2) (da_cons (dv 4) da_nil))))))))
  (dss_settle 3 (dss_one (ds_ret (dv 3))))))))
theorem ok_rich_solutions (T : Txt K mg) (G_least_of : GFn P w K mg base 3 "least_of" sp_least_of) (G_is_made : GFn P w K mg base 3 "is_made" sp_is_made) (G_next_of : GFn P w K mg base 1 "next_of" sp_next_of) {f : Addr} {fd : FuncData} (F : FunP K "rich_solutions" "rich_solutions" s_rich_solutions f fd) : DFn P w K mg base 4 f fd ["primes", "root"] sp_rich_solutions :=
  dfn_of F sc_rich_solutions len_rich_solutions fun cdv A outer s H M ds Q E c h => ⟨_, dd_rich_solutions T G_least_of G_is_made G_next_of c, pure_rich_solutions ds M Q E h⟩
theorem dd_pairs_by (T : Txt K mg) (G_rich_solutions : GFn P w K mg base 4 "rich_solutions" sp_rich_solutions) {f : Addr} {cdv : Value} {A : Around} {outer : List Env} {s : Shared} {H : Hp} {M : Mp} {E : XE'} (c : Cy (A.deeper (PyProof.Rows.envOfC "pairs_by" (defScope s_pairs_by) s.heap.objs.size f cdv)) 4) :
    DSs (cxD P w K mg base N_pairs_by "pairs_by" s_pairs_by f cdv A outer s H M E) ⟨M, H⟩ (defBody s_pairs_by) (t_pairs_by (fnW E)) :=
  have S := sc_pairs_by
  have tk := tk_fn (P := P) (w := w) (K := K) (mg := mg) (base := base) (N := N_pairs_by) (qual := "pairs_by") (st := s_pairs_by) (f := f) (cdv := cdv) (A := A) (outer := outer) (s := s) (H := H) (M := M) (E := E)
  (dss_one (ds_ret (de_if (dt_cmp (cd_eq c.hu) (de_ix (dv 0) de_int) de_int) (de_lcG (own := [("x", 2), ("y", 3)]) (c := (CT.tup [2, 3])) rfl S.nd (dj_items (de_call (G_rich_solutions.mono (by decide)) c tk rfl (da_cons (dv 0) (da_cons (de_mulL de_int (dv 1)) da_nil)))) (blkOk_by (own := [("x", 2), ("y", 3)]) (N := N_pairs_by) (sc := defScope s_pairs_by) (by decide +kernel)) (by decide) (fun _ _ _ _ _ => (pg_tup rfl (pgs_cons (pg_name (i := 2) S.nd rfl (Or.inl rfl)) (pgs_cons (pg_name (i := 3) S.nd rfl (Or.inl rfl)) pgs_nil)))) (fun _ _ _ _ _ => dtl_nil) (fun _ _ _ _ _ => (de_div (de_sub (dv 2) de_int) de_int))) (de_lst da_nil))))
theorem ok_pairs_by (T : Txt K mg) (G_rich_solutions : GFn P w K mg base 4 "rich_solutions" sp_rich_solutions) {f : Addr} {fd : FuncData} (F : FunP K "pairs_by" "pairs_by" s_pairs_by f fd) : DFn P w K mg base 5 f fd ["primes", "product"] sp_pairs_by :=
  dfn_of F sc_pairs_by len_pairs_by fun cdv A outer s H M ds Q E c h => ⟨_, dd_pairs_by T G_rich_solutions c, pure_pairs_by ds M Q E h⟩
theorem dd_all_pairs (T : Txt K mg) (G_products_of : GFn P w K mg base 2 "products_of" sp_products_of) (G_pairs_by : GFn P w K mg base 5 "pairs_by" sp_pairs_by) {f : Addr} {cdv : Value} {A : Around} {outer : List Env} {s : Shared} {H : Hp} {M : Mp} {E : XE'} (c : Cy (A.deeper (PyProof.Rows.envOfC "all_pairs" (defScope s_all_pairs) s.heap.objs.size f cdv)) 5) :
    DSs (cxD P w K mg base N_all_pairs "all_pairs" s_all_pairs f cdv A outer s H M E) ⟨M, H⟩ (defBody s_all_pairs) (t_all_pairs (fnW E)) :=
  have S := sc_all_pairs
  have tk := tk_fn (P := P) (w := w) (K := K) (mg := mg) (base := base) (N := N_all_pairs) (qual := "all_pairs") (st := s_all_pairs) (f := f) (cdv := cdv) (A := A) (outer := outer) (s := s) (H := H) (M := M) (E := E)
  (dss_cons (ds_set (i := 1) S.nd rfl (.inl rfl) (de_lst da_nil))
  (dss_cons (ds_for (passes_of rfl) rfl (di_items (de_call (G_products_of.mono (by decide)) c tk rfl (da_cons (dv 0) da_nil))) (dg_name (i := 2) S.nd rfl (.inl rfl)) (dss_one (ds_set (i := 1) S.nd rfl (.inl rfl) (de_add (dv 1) (de_call (G_pairs_by.mono (by decide)) c tk rfl (da_cons (dv 0) (da_cons (dv 2) da_nil)))))))
  (dss_one (ds_ret (de_callTy c_tuple rfl T.f_tuple b_tuple (da_cons (de_callB c_sorted rfl T.f_sorted b_sorted (da_cons (dv 1) da_nil)) da_nil))))))
theorem ok_all_pairs (T : Txt K mg) (G_products_of : GFn P w K mg base 2 "products_of" sp_products_of) (G_pairs_by : GFn P w K mg base 5 "pairs_by" sp_pairs_by) {f : Addr} {fd : FuncData} (F : FunP K "all_pairs" "all_pairs" s_all_pairs f fd) : DFn P w K mg base 6 f fd ["primes"] sp_all_pairs :=
  dfn_of F sc_all_pairs len_all_pairs fun cdv A outer s H M ds Q E c h => ⟨_, dd_all_pairs T G_products_of G_pairs_by c, pure_all_pairs ds M Q E h⟩
theorem dd_accepts (T : Txt K mg) (G_root_shown : GFn P w K mg base 7 "root_shown" sp_root_shown) (G_read_lot : GFn P w K mg base 4 "read_lot" sp_read_lot) (G_written_shown : GFn P w K mg base 5 "written_shown" sp_written_shown) (G_Lot___init : GMk P w K mg base 4 "Lot" ["self", "primes"] sp_Lot___init) (G_number_shown : GFn P w K mg base 7 "number_shown" sp_number_shown) (G_is_empty : GFn P w K mg base 1 "is_empty" sp_is_empty) (G_is_same : GFn P w K mg base 6 "is_same" (sp_is_same 4)) (G_all_pairs : GFn P w K mg base 6 "all_pairs" sp_all_pairs) {f : Addr} {cdv : Value} {A : Around} {outer : List Env} {s : Shared} {H : Hp} {M : Mp} {E : XE'} (c : Cy (A.deeper (PyProof.Rows.envOfC "accepts" (defScope s_accepts) s.heap.objs.size f cdv)) 7) :
    DSs (cxD P w K mg base N_accepts "accepts" s_accepts f cdv A outer s H M E) ⟨M, H⟩ (defBody s_accepts) (t_accepts (fnW E)) :=
  have S := sc_accepts
  have tk := tk_fn (P := P) (w := w) (K := K) (mg := mg) (base := base) (N := N_accepts) (qual := "accepts") (st := s_accepts) (f := f) (cdv := cdv) (A := A) (outer := outer) (s := s) (H := H) (M := M) (E := E)
  (dss_cons (ds_if (dw (dw_or (dt_not (dt_val (de_callB c_isTy rfl T.f_isinstance b_isinstance (da_cons (dv 0) (da_cons (de_ty rfl T.f_tuple b_tuple) da_nil))))) (dw_or1 (dt_cmp (cd_notin2 c.hu65) (de_callB c_len rfl T.f_len b_len (da_cons (dv 0) da_nil)) (de_tup (da_cons de_int (da_cons de_int da_nil))))))) (dss_one (ds_ret de_bl)) dss_nil)
  (dss_cons (ds_if (dw (dw_and (dt_cmp (cd_eq c.hu) (de_callB c_len rfl T.f_len b_len (da_cons (dv 0) da_nil)) de_int) (dw_and1 (dt_cmp (cd_ne c.hu) (de_ix (dv 0) de_int) de_str)))) (dss_one (ds_ret (de_call (G_root_shown.mono (by decide)) c tk rfl (da_cons (dv 0) (da_cons (dv 1) da_nil))))) dss_nil)
  (dss_cons (ds_set (i := 2) S.nd rfl (.inl rfl) (de_call (G_read_lot.mono (by decide)) c tk rfl (da_cons (de_ix (dv 0) de_int) da_nil)))
  (dss_cons (ds_if (dt_cmp cd_is2 (dv 2) de_non) (dss_one (ds_ret de_bl)) dss_nil)
  (dss_cons (ds_if (dt_cmp (cd_eq c.hu) (de_callB c_len rfl T.f_len b_len (da_cons (dv 0) da_nil)) de_int) (dss_one (ds_ret (de_call (G_written_shown.mono (by decide)) c tk rfl (da_cons (de_make (G_Lot___init.mono (by decide)) c tk rfl (da_cons (dv 2) da_nil)) (da_cons (dv 0) (da_cons (dv 1) da_nil)))))) dss_nil)
  (dss_cons (ds_if (dt_cmp (cd_in2 c.hu65) (de_ix (dv 0) de_int) (de_tup (da_cons de_str (da_cons de_str da_nil)))) (dss_one (ds_ret (de_call (G_number_shown.mono (by decide)) c tk rfl (da_cons (dv 2) (da_cons (dv 0) (da_cons (dv 1) da_nil)))))) dss_nil)
  (dss_one (ds_ret (de_and (de_cmp (cd_eq c.hu) (de_ix (dv 0) de_int) de_str) (de_and (de_call (G_is_empty.mono (by decide)) c tk rfl (da_cons (dv 1) da_nil)) (de_one (de_call (G_is_same.mono (by decide)) c tk rfl (da_cons (de_ix (dv 0) de_int) (da_cons (de_call (G_all_pairs.mono (by decide)) c tk rfl (da_cons (dv 2) da_nil)) da_nil))))))))))))))
theorem ok_accepts (T : Txt K mg) (G_root_shown : GFn P w K mg base 7 "root_shown" sp_root_shown) (G_read_lot : GFn P w K mg base 4 "read_lot" sp_read_lot) (G_written_shown : GFn P w K mg base 5 "written_shown" sp_written_shown) (G_Lot___init : GMk P w K mg base 4 "Lot" ["self", "primes"] sp_Lot___init) (G_number_shown : GFn P w K mg base 7 "number_shown" sp_number_shown) (G_is_empty : GFn P w K mg base 1 "is_empty" sp_is_empty) (G_is_same : GFn P w K mg base 6 "is_same" (sp_is_same 4)) (G_all_pairs : GFn P w K mg base 6 "all_pairs" sp_all_pairs) {f : Addr} {fd : FuncData} (F : FunP K "accepts" "accepts" s_accepts f fd) : DFn P w K mg base 8 f fd ["claim", "certificate"] sp_accepts :=
  dfn_of F sc_accepts len_accepts fun cdv A outer s H M ds Q E c h => ⟨_, dd_accepts T G_root_shown G_read_lot G_written_shown G_Lot___init G_number_shown G_is_empty G_is_same G_all_pairs c, pure_accepts ds M Q E h⟩
theorem dd_law_told (T : Txt K mg) (G_accepts : GFn P w K mg base 8 "accepts" sp_accepts) (Gk0_accepts : GFnK P w K mg base 8 "accepts" 0 ["certificate", "claim"] [1, 0] sp_accepts) {f : Addr} {cdv : Value} {A : Around} {outer : List Env} {s : Shared} {H : Hp} {M : Mp} {E : XE'} (c : Cy (A.deeper (PyProof.Rows.envOfC "_law_told" (defScope s_law_told) s.heap.objs.size f cdv)) 8) :
    DSs (cxD P w K mg base N_law_told "_law_told" s_law_told f cdv A outer s H M E) ⟨M, H⟩ (defBody s_law_told) (t_law_told (fnW E)) :=
  have S := sc_law_told
  have tk := tk_fn (P := P) (w := w) (K := K) (mg := mg) (base := base) (N := N_law_told) (qual := "_law_told") (st := s_law_told) (f := f) (cdv := cdv) (A := A) (outer := outer) (s := s) (H := H) (M := M) (E := E)
  (dss_one (ds_ret (de_lst (da_cons (de_call (G_accepts.mono (by decide)) c tk rfl (da_cons (dv 0) (da_cons (dv 1) da_nil))) (da_cons (de_callK0 (ks := ["certificate", "claim"]) (Gk0_accepts.mono (by decide)) c tk rfl (dk_cons (dv 1) (dk_cons (dv 0) dk_nil))) da_nil)))))
theorem ok_law_told (T : Txt K mg) (G_accepts : GFn P w K mg base 8 "accepts" sp_accepts) (Gk0_accepts : GFnK P w K mg base 8 "accepts" 0 ["certificate", "claim"] [1, 0] sp_accepts) {f : Addr} {fd : FuncData} (F : FunP K "_law_told" "_law_told" s_law_told f fd) : DFn P w K mg base 9 f fd ["_law_tale", "_law_paper"] sp_law_told :=
  dfn_of F sc_law_told len_law_told fun cdv A outer s H M ds Q E c h => ⟨_, dd_law_told T G_accepts Gk0_accepts c, pure_law_told ds M Q E h⟩
theorem dd_law_right (T : Txt K mg) (G_law_root : GFn P w K mg base 3 "_law_root" sp_law_root) (G_law_least : GFn P w K mg base 3 "_law_least" sp_law_least) (G_law_dip : GFn P w K mg base 1 "_law_dip" sp_law_dip) (G_law_is_int : GFn P w K mg base 1 "_law_is_int" sp_law_is_int) (G_law_told : GFn P w K mg base 9 "_law_told" sp_law_told) (G_law_terms : GFn P w K mg base 2 "_law_terms" sp_law_terms) (G_accepts : GFn P w K mg base 8 "accepts" sp_accepts) {f : Addr} {cdv : Value} {A : Around} {outer : List Env} {s : Shared} {H : Hp} {M : Mp} {E : XE'} (c : Cy (A.deeper (PyProof.Rows.envOfC "_law_right" (defScope s_law_right) s.heap.objs.size f cdv)) 9) :
    DSs (cxD P w K mg base N_law_right "_law_right" s_law_right f cdv A outer s H M E) ⟨M, H⟩ (defBody s_law_right) (t_law_right (fnW E)) :=
  have S := sc_law_right
  have tk := tk_fn (P := P) (w := w) (K := K) (mg := mg) (base := base) (N := N_law_right) (qual := "_law_right") (st := s_law_right) (f := f) (cdv := cdv) (A := A) (outer := outer) (s := s) (H := H) (M := M) (E := E)
  (dss_cons (ds_for (passes_of rfl) rfl (di_range1 rfl T.f_range (da_cons de_int da_nil)) (dg_name (i := 1) S.nd rfl (.inl rfl)) (dss_cons (ds_set (i := 2) S.nd rfl (.inl rfl) (de_call (G_law_root.mono (by decide)) c tk rfl (da_cons (dv 0) da_nil)))
  (dss_cons (ds_asg (de_call (G_law_least.mono (by decide)) c tk rfl (da_cons (dv 2) da_nil)) (dg_tup rfl (dgs_cons (dg_name (i := 3) S.nd rfl (.inl rfl)) (dgs_cons (dg_name (i := 4) S.nd rfl (.inl rfl)) dgs_nil)) (ul_cons mt_name (ul_cons mt_name ul_nil))))
  (dss_cons (ds_par3 (i := 5) (j := 6) (l := 7) rfl S.nd rfl rfl rfl (by decide) (by decide) (by decide) rfl rfl rfl (da_cons (dv 3) (da_cons (dv 4) (da_cons (de_lstM da_nil) da_nil))) (by rfl))
  (dss_cons (ds_for (passes_of rfl) rfl (di_range1 rfl T.f_range (da_cons de_int da_nil)) (dg_name (i := 8) S.nd rfl (.inl rfl)) (dss_cons (ds_if (dt_cmp cd_lt (dv 5) (de_mulL (de_pow de_int de_int) (de_pow de_int de_int))) (dss_one (ds_expr (de_append (dv 7) (da_cons (de_tup (da_cons (dv 5) (da_cons (dv 6) da_nil))) da_nil)))) dss_nil)
  (dss_one (ds_par (i := 5) (j := 6) rfl S.nd rfl rfl (by decide) rfl rfl (da_cons (de_add (de_mulL (dv 3) (dv 5)) (de_mulL (de_mulL (dv 2) (dv 4)) (dv 6))) (da_cons (de_add (de_mulL (dv 3) (dv 6)) (de_mulL (dv 4) (dv 5))) da_nil)) (by rfl)))))
  (dss_cons (ds_set (i := 9) S.nd rfl (.inl rfl) (de_add (de_add (de_add (dv 7) (de_lcG (own := [("_law_a", 10), ("_law_b", 11)]) (c := (CT.tup [10, 11])) rfl S.nd (dj_items (dv 7)) (blkOk_by (own := [("_law_a", 10), ("_law_b", 11)]) (N := N_law_right) (sc := defScope s_law_right) (by decide +kernel)) (by decide) (fun _ _ _ _ _ => (pg_tup rfl (pgs_cons (pg_name (i := 10) S.nd rfl (Or.inl rfl)) (pgs_cons (pg_name (i := 11) S.nd rfl (Or.inl rfl)) pgs_nil)))) (fun _ _ _ _ _ => dtl_nil) (fun _ _ _ _ _ => (de_tup (da_cons (de_add (dv 10) de_int) (da_cons (dv 11) da_nil)))))) (de_lcG (own := [("_law_a", 10), ("_law_b", 11)]) (c := (CT.tup [10, 11])) rfl S.nd (dj_items (dv 7)) (blkOk_by (own := [("_law_a", 10), ("_law_b", 11)]) (N := N_law_right) (sc := defScope s_law_right) (by decide +kernel)) (by decide) (fun _ _ _ _ _ => (pg_tup rfl (pgs_cons (pg_name (i := 10) S.nd rfl (Or.inl rfl)) (pgs_cons (pg_name (i := 11) S.nd rfl (Or.inl rfl)) pgs_nil)))) (fun _ _ _ _ _ => dtl_nil) (fun _ _ _ _ _ => (de_tup (da_cons (dv 10) (da_cons (de_add (dv 11) de_int) da_nil)))))) (de_lcG (own := [("_law_a", 10), ("_law_b", 11)]) (c := (CT.tup [10, 11])) rfl S.nd (dj_items (dv 7)) (blkOk_by (own := [("_law_a", 10), ("_law_b", 11)]) (N := N_law_right) (sc := defScope s_law_right) (by decide +kernel)) (by decide) (fun _ _ _ _ _ => (pg_tup rfl (pgs_cons (pg_name (i := 10) S.nd rfl (Or.inl rfl)) (pgs_cons (pg_name (i := 11) S.nd rfl (Or.inl rfl)) pgs_nil)))) (fun _ _ _ _ _ => dtl_nil) (fun _ _ _ _ _ => (de_tup (da_cons (dv 11) (da_cons (dv 10) da_nil)))))))
  (dss_cons (ds_set (i := 9) S.nd rfl (.inl rfl) (de_add (dv 9) (de_lst (da_cons (de_tup (da_cons de_int (da_cons de_int da_nil))) (da_cons (de_tup (da_cons (de_sub de_int (dv 3)) (da_cons (dv 4) da_nil))) (da_cons (de_tup (da_cons (dv 3) (da_cons (de_sub de_int (dv 4)) da_nil))) (da_cons (de_tup (da_cons de_bl (da_cons (dv 4) da_nil))) (da_cons (de_tup (da_cons (dv 3) (da_cons de_non da_nil))) (da_cons (de_tup (da_cons (de_callTy c_str rfl T.f_str b_str (da_cons (dv 3) da_nil)) (da_cons (de_callTy c_str rfl T.f_str b_str (da_cons (dv 4) da_nil)) da_nil))) (da_cons (de_tup (da_cons (de_tup (da_cons (dv 3) da_nil)) (da_cons (de_tup (da_cons (dv 4) da_nil)) da_nil))) (da_cons (de_tup (da_cons de_int (da_cons de_int da_nil))) da_nil)))))))))))
  (dss_cons (ds_for (passes_of rfl) rfl (di_items (de_add (dv 9) (de_lst (da_cons (de_tup (da_cons (de_add de_int (de_call (G_law_dip.mono (by decide)) c tk rfl (da_cons (dv 0) (da_cons (de_pow de_int de_int) da_nil)))) (da_cons (de_add de_int (de_call (G_law_dip.mono (by decide)) c tk rfl (da_cons (dv 0) (da_cons (de_pow de_int de_int) da_nil)))) da_nil))) da_nil)))) (dg_tup rfl (dgs_cons (dg_name (i := 10) S.nd rfl (.inl rfl)) (dgs_cons (dg_name (i := 11) S.nd rfl (.inl rfl)) dgs_nil)) (ul_cons mt_name (ul_cons mt_name ul_nil))) (dss_cons (ds_set (i := 12) S.nd rfl (.inl rfl) (de_and (de_call (G_law_is_int.mono (by decide)) c tk rfl (da_cons (dv 10) (da_cons de_int (da_cons (de_mulL (de_pow de_int de_int) (de_pow de_int de_int)) da_nil)))) (de_one (de_call (G_law_is_int.mono (by decide)) c tk rfl (da_cons (dv 11) (da_cons de_int (da_cons (de_mulL (de_pow de_int de_int) (de_pow de_int de_int)) da_nil)))))))
  (dss_cons (ds_set (i := 12) S.nd rfl (.inl rfl) (de_and (dv 12) (de_one (de_cmp (cd_eq c.hu) (de_sub (de_mulL (dv 10) (dv 10)) (de_mulL (de_mulL (dv 2) (dv 11)) (dv 11))) de_int))))
  (dss_one (ds_if (dt_cmp (cd_ne c.hu) (de_callB (c_repr c.gd c.hu) rfl T.f_repr b_repr (da_cons (de_call (G_law_told.mono (by decide)) c tk rfl (da_cons (de_tup (da_cons de_str (da_cons (dv 2) (da_cons (dv 10) (da_cons (dv 11) da_nil))))) (da_cons (de_tup da_nil) da_nil))) da_nil)) (de_callB (c_repr c.gd c.hu) rfl T.f_repr b_repr (da_cons (de_lst (da_cons (dv 12) (da_cons (dv 12) da_nil))) da_nil))) (dss_one (ds_ret de_bl)) dss_nil)))))
  (dss_cons (ds_for (passes_of rfl) rfl (di_items (de_lst (da_cons de_non (da_cons (de_lst da_nil) (da_cons de_int (da_cons de_str (da_cons (de_tup (da_cons de_int da_nil)) (da_cons (de_tup (da_cons (de_tup da_nil) da_nil)) (da_cons de_dct (da_cons de_bl (da_cons (de_call (G_law_terms.mono (by decide)) c tk rfl (da_cons (dv 2) da_nil)) da_nil))))))))))) (dg_name (i := 13) S.nd rfl (.inl rfl)) (dss_one (ds_if (dt_cmp cd_isnot2 (de_call (G_accepts.mono (by decide)) c tk rfl (da_cons (de_tup (da_cons de_str (da_cons (dv 2) (da_cons (dv 3) (da_cons (dv 4) da_nil))))) (da_cons (dv 13) da_nil))) de_bl) (dss_one (ds_ret de_bl)) dss_nil)))
  (dss_one (ds_for (passes_of rfl) rfl (di_items (de_lst (da_cons de_int (da_cons de_int (da_cons de_int (da_cons (de_neg (dv 2)) (da_cons de_bl (da_cons de_non (da_cons (de_callTy c_str rfl T.f_str b_str (da_cons (dv 2) da_nil)) (da_cons (de_tup (da_cons (dv 2) da_nil)) (da_cons (de_add (de_pow de_int de_int) de_int) (da_cons (de_mulL (dv 2) (dv 2)) da_nil)))))))))))) (dg_name (i := 14) S.nd rfl (.inl rfl)) (dss_one (ds_if (dt_cmp cd_isnot2 (de_call (G_accepts.mono (by decide)) c tk rfl (da_cons (de_tup (da_cons de_str (da_cons (dv 14) (da_cons (dv 3) (da_cons (dv 4) da_nil))))) (da_cons (de_tup da_nil) da_nil))) de_bl) (dss_one (ds_ret de_bl)) dss_nil)))))))))))))
  (dss_one (ds_ret de_bl)))
theorem ok_law_right (T : Txt K mg) (G_law_root : GFn P w K mg base 3 "_law_root" sp_law_root) (G_law_least : GFn P w K mg base 3 "_law_least" sp_law_least) (G_law_dip : GFn P w K mg base 1 "_law_dip" sp_law_dip) (G_law_is_int : GFn P w K mg base 1 "_law_is_int" sp_law_is_int) (G_law_told : GFn P w K mg base 9 "_law_told" sp_law_told) (G_law_terms : GFn P w K mg base 2 "_law_terms" sp_law_terms) (G_accepts : GFn P w K mg base 8 "accepts" sp_accepts) {f : Addr} {fd : FuncData} (F : FunP K "_law_right" "_law_right" s_law_right f fd) : DFn P w K mg base 10 f fd ["_law_jar"] sp_law_right :=
  dfn_of F sc_law_right len_law_right fun cdv A outer s H M ds Q E c h => ⟨_, dd_law_right T G_law_root G_law_least G_law_dip G_law_is_int G_law_told G_law_terms G_accepts c, pure_law_right ds M Q E h⟩
theorem dd_law_well (T : Txt K mg)  {f : Addr} {cdv : Value} {A : Around} {outer : List Env} {s : Shared} {H : Hp} {M : Mp} {E : XE'} (c : Cy (A.deeper (PyProof.Rows.envOfC "_law_well" (defScope s_law_well) s.heap.objs.size f cdv)) 0) :
    DSs (cxD P w K mg base N_law_well "_law_well" s_law_well f cdv A outer s H M E) ⟨M, H⟩ (defBody s_law_well) (t_law_well (fnW E)) :=
  have S := sc_law_well
  have tk := tk_fn (P := P) (w := w) (K := K) (mg := mg) (base := base) (N := N_law_well) (qual := "_law_well") (st := s_law_well) (f := f) (cdv := cdv) (A := A) (outer := outer) (s := s) (H := H) (M := M) (E := E)
  (dss_one (ds_ret (de_lstM (da_cons (de_if (dw (dw_or (dt_cmp cd_lt (dv 0) de_int) (dw_or1 (dt_cmp cd_ge (dv 0) (de_pow de_int de_int))))) (de_callB c_abs rfl T.f_abs b_abs (da_cons (dv 0) da_nil)) de_int) (da_cons (de_mod (de_callTy c_int rfl T.f_int b_int (da_cons (dv 0) da_nil)) de_int) (da_cons de_int da_nil))))))
theorem ok_law_well (T : Txt K mg)  {f : Addr} {fd : FuncData} (F : FunP K "_law_well" "_law_well" s_law_well f fd) : DFn P w K mg base 1 f fd ["_law_cell_here"] sp_law_well :=
  dfn_of F sc_law_well len_law_well fun cdv A outer s H M ds Q E c h => ⟨_, dd_law_well T  c, pure_law_well ds M Q E h⟩
theorem dd_law_cell (T : Txt K mg)  {f : Addr} {cdv : Value} {A : Around} {outer : List Env} {s : Shared} {H : Hp} {M : Mp} {E : XE'} (c : Cy (A.deeper (PyProof.Rows.envOfC "_law_cell" (defScope s_law_cell) s.heap.objs.size f cdv)) 0) :
    DSs (cxD P w K mg base N_law_cell "_law_cell" s_law_cell f cdv A outer s H M E) ⟨M, H⟩ (defBody s_law_cell) (t_law_cell (fnW E)) :=
  have S := sc_law_cell
  have tk := tk_fn (P := P) (w := w) (K := K) (mg := mg) (base := base) (N := N_law_cell) (qual := "_law_cell") (st := s_law_cell) (f := f) (cdv := cdv) (A := A) (outer := outer) (s := s) (H := H) (M := M) (E := E)
  (dss_cons (ds_if (dt_cmp cd_lt (dv 1) (de_callB c_len rfl T.f_len b_len (da_cons (dv 0) da_nil))) (dss_one (ds_ret (de_ix (dv 0) (dv 1)))) dss_nil)
  (dss_cons (ds_set (i := 2) S.nd rfl (.inl rfl) (de_add de_int (de_mulL de_int (dv 1))))
  (dss_cons (ds_for (passes_of rfl) rfl (di_items (de_slice (dv 0) do_none (do_some de_int))) (dg_name (i := 3) S.nd rfl (.inl rfl)) (dss_one (ds_set (i := 2) S.nd rfl (.inl rfl) (de_mod (de_callTy c_int rfl T.f_int b_int (da_cons (de_add (de_add (de_mulL (dv 2) de_int) (de_mulL (dv 3) de_int)) (dv 1)) da_nil)) de_int))))
  (dss_one (ds_ret (dv 2))))))
theorem ok_law_cell (T : Txt K mg)  {f : Addr} {fd : FuncData} (F : FunP K "_law_cell" "_law_cell" s_law_cell f fd) : DFn P w K mg base 1 f fd ["_law_cells", "_law_k"] sp_law_cell :=
  dfn_of F sc_law_cell len_law_cell fun cdv A outer s H M ds Q E c h => ⟨_, dd_law_cell T  c, pure_law_cell ds M Q E h⟩
theorem dd_law (T : Txt K mg) (G_law_right : GFn P w K mg base 10 "_law_right" sp_law_right) (G_law_well : GFn P w K mg base 1 "_law_well" sp_law_well) (G_law_cell : GFn P w K mg base 1 "_law_cell" sp_law_cell) {f : Addr} {cdv : Value} {A : Around} {outer : List Env} {s : Shared} {H : Hp} {M : Mp} {E : XE'} (c : Cy (A.deeper (PyProof.Rows.envOfC "law" (defScope s_law) s.heap.objs.size f cdv)) 10) :
    DSs (cxD P w K mg base N_law "law" s_law f cdv A outer s H M E) ⟨M, H⟩ (defBody s_law) (t_law (fnW E)) :=
  have S := sc_law
  have tk := tk_fn (P := P) (w := w) (K := K) (mg := mg) (base := base) (N := N_law) (qual := "law") (st := s_law) (f := f) (cdv := cdv) (A := A) (outer := outer) (s := s) (H := H) (M := M) (E := E)
  (dss_one (ds_ret (de_cmp (cd_eq c.hu) (de_lc (own := [("_law_k", 1)]) (i := 1) rfl S.nd (di_range1 rfl T.f_range (da_cons (de_callB (c_max rfl) rfl T.f_max b_max (da_cons de_int (da_cons (de_callB (c_min rfl) rfl T.f_min b_min (da_cons (de_callB c_len rfl T.f_len b_len (da_cons (dv 0) da_nil)) (da_cons de_int da_nil))) da_nil))) da_nil)) (blkOk_by (own := [("_law_k", 1)]) (N := N_law) (sc := defScope s_law) (by decide +kernel)) (by decide) (fun _ _ _ _ _ => pg_name (i := 1) S.nd rfl (Or.inl rfl)) (fun _ _ _ _ _ => (dtl_one (dt_not (dt_val (de_call (G_law_right.mono (by decide)) c tk_no rfl (da_cons (de_call (G_law_well.mono (by decide)) c tk_no rfl (da_cons (de_call (G_law_cell.mono (by decide)) c tk_no rfl (da_cons (dv 0) (da_cons (dv 1) da_nil))) da_nil)) da_nil)))))) (fun _ _ _ _ _ => (dv 1))) (de_lst da_nil))))
theorem ok_law (T : Txt K mg) (G_law_right : GFn P w K mg base 10 "_law_right" sp_law_right) (G_law_well : GFn P w K mg base 1 "_law_well" sp_law_well) (G_law_cell : GFn P w K mg base 1 "_law_cell" sp_law_cell) {f : Addr} {fd : FuncData} (F : FunP K "law" "law" s_law f fd) : DFn P w K mg base 11 f fd ["_law_cells"] sp_law :=
  dfn_of F sc_law len_law fun cdv A outer s H M ds Q E c h => ⟨_, dd_law T G_law_right G_law_well G_law_cell c, pure_law ds M Q E h⟩
end
/-! ### the head -/
def df_law_dip : DefA := ⟨.glo "_law_dip", "_law_dip", "_law_dip", defArgs s_law_dip, defBody s_law_dip, defScope s_law_dip⟩
def df_law_is_int : DefA := ⟨.glo "_law_is_int", "_law_is_int", "_law_is_int", defArgs s_law_is_int, defBody s_law_is_int, defScope s_law_is_int⟩
def df_law_floor : DefA := ⟨.glo "_law_floor", "_law_floor", "_law_floor", defArgs s_law_floor, defBody s_law_floor, defScope s_law_floor⟩
def df_law_is_root : DefA := ⟨.glo "_law_is_root", "_law_is_root", "_law_is_root", defArgs s_law_is_root, defBody s_law_is_root, defScope s_law_is_root⟩
def df_law_root : DefA := ⟨.glo "_law_root", "_law_root", "_law_root", defArgs s_law_root, defBody s_law_root, defScope s_law_root⟩
def df_law_terms : DefA := ⟨.glo "_law_terms", "_law_terms", "_law_terms", defArgs s_law_terms, defBody s_law_terms, defScope s_law_terms⟩
def df_law_least : DefA := ⟨.glo "_law_least", "_law_least", "_law_least", defArgs s_law_least, defBody s_law_least, defScope s_law_least⟩
def df_is_integer : DefA := ⟨.glo "is_integer", "is_integer", "is_integer", defArgs s_is_integer, defBody s_is_integer, defScope s_is_integer⟩
def df_is_within : DefA := ⟨.glo "is_within", "is_within", "is_within", defArgs s_is_within, defBody s_is_within, defScope s_is_within⟩
def df_root_below : DefA := ⟨.glo "root_below", "root_below", "root_below", defArgs s_root_below, defBody s_root_below, defScope s_root_below⟩
def df_is_root : DefA := ⟨.glo "is_root", "is_root", "is_root", defArgs s_is_root, defBody s_is_root, defScope s_is_root⟩
def df_is_number : DefA := ⟨.glo "is_number", "is_number", "is_number", defArgs s_is_number, defBody s_is_number, defScope s_is_number⟩
def df_is_empty : DefA := ⟨.glo "is_empty", "is_empty", "is_empty", defArgs s_is_empty, defBody s_is_empty, defScope s_is_empty⟩
def df_is_same : DefA := ⟨.glo "is_same", "is_same", "is_same", defArgs s_is_same, defBody s_is_same, defScope s_is_same⟩
def df_fraction_of : DefA := ⟨.glo "fraction_of", "fraction_of", "fraction_of", defArgs s_fraction_of, defBody s_fraction_of, defScope s_fraction_of⟩
def df_least_of : DefA := ⟨.glo "least_of", "least_of", "least_of", defArgs s_least_of, defBody s_least_of, defScope s_least_of⟩
def df_root_shown : DefA := ⟨.glo "root_shown", "root_shown", "root_shown", defArgs s_root_shown, defBody s_root_shown, defScope s_root_shown⟩
def df_read_number : DefA := ⟨.glo "read_number", "read_number", "read_number", defArgs s_read_number, defBody s_read_number, defScope s_read_number⟩
def df_is_prime : DefA := ⟨.glo "is_prime", "is_prime", "is_prime", defArgs s_is_prime, defBody s_is_prime, defScope s_is_prime⟩
def df_wrong_prime : DefA := ⟨.glo "wrong_prime", "wrong_prime", "wrong_prime", defArgs s_wrong_prime, defBody s_wrong_prime, defScope s_wrong_prime⟩
def df_read_lot : DefA := ⟨.glo "read_lot", "read_lot", "read_lot", defArgs s_read_lot, defBody s_read_lot, defScope s_read_lot⟩
def df_times_in : DefA := ⟨.glo "times_in", "times_in", "times_in", defArgs s_times_in, defBody s_times_in, defScope s_times_in⟩
def df_parts_of : DefA := ⟨.glo "parts_of", "parts_of", "parts_of", defArgs s_parts_of, defBody s_parts_of, defScope s_parts_of⟩
def df_is_made : DefA := ⟨.glo "is_made", "is_made", "is_made", defArgs s_is_made, defBody s_is_made, defScope s_is_made⟩
def df_Lot_primes : DefA := ⟨.get "Lot" "primes", "primes", "Lot.primes", defArgs s_Lot_primes, defBody s_Lot_primes, defScope s_Lot_primes⟩
def df_is_factor : DefA := ⟨.glo "is_factor", "is_factor", "is_factor", defArgs s_is_factor, defBody s_is_factor, defScope s_is_factor⟩
def df_common_part : DefA := ⟨.glo "common_part", "common_part", "common_part", defArgs s_common_part, defBody s_common_part, defScope s_common_part⟩
def df_value_of : DefA := ⟨.glo "value_of", "value_of", "value_of", defArgs s_value_of, defBody s_value_of, defScope s_value_of⟩
def df_written_shown : DefA := ⟨.glo "written_shown", "written_shown", "written_shown", defArgs s_written_shown, defBody s_written_shown, defScope s_written_shown⟩
def df_product_of : DefA := ⟨.glo "product_of", "product_of", "product_of", defArgs s_product_of, defBody s_product_of, defScope s_product_of⟩
def df_Lot___init : DefA := ⟨.fn "Lot" "__init__", "__init__", "Lot.__init__", defArgs s_Lot___init, defBody s_Lot___init, defScope s_Lot___init⟩
def df_number_shown : DefA := ⟨.glo "number_shown", "number_shown", "number_shown", defArgs s_number_shown, defBody s_number_shown, defScope s_number_shown⟩
def df_all_products : DefA := ⟨.glo "all_products", "all_products", "all_products", defArgs s_all_products, defBody s_all_products, defScope s_all_products⟩
def df_products_of : DefA := ⟨.glo "products_of", "products_of", "products_of", defArgs s_products_of, defBody s_products_of, defScope s_products_of⟩
def df_next_of : DefA := ⟨.glo "next_of", "next_of", "next_of", defArgs s_next_of, defBody s_next_of, defScope s_next_of⟩
def df_rich_solutions : DefA := ⟨.glo "rich_solutions", "rich_solutions", "rich_solutions", defArgs s_rich_solutions, defBody s_rich_solutions, defScope s_rich_solutions⟩
def df_pairs_by : DefA := ⟨.glo "pairs_by", "pairs_by", "pairs_by", defArgs s_pairs_by, defBody s_pairs_by, defScope s_pairs_by⟩
def df_all_pairs : DefA := ⟨.glo "all_pairs", "all_pairs", "all_pairs", defArgs s_all_pairs, defBody s_all_pairs, defScope s_all_pairs⟩
def df_accepts : DefA := ⟨.glo "accepts", "accepts", "accepts", defArgs s_accepts, defBody s_accepts, defScope s_accepts⟩
def df_law_told : DefA := ⟨.glo "_law_told", "_law_told", "_law_told", defArgs s_law_told, defBody s_law_told, defScope s_law_told⟩
def df_law_right : DefA := ⟨.glo "_law_right", "_law_right", "_law_right", defArgs s_law_right, defBody s_law_right, defScope s_law_right⟩
def df_law_well : DefA := ⟨.glo "_law_well", "_law_well", "_law_well", defArgs s_law_well, defBody s_law_well, defScope s_law_well⟩
def df_law_cell : DefA := ⟨.glo "_law_cell", "_law_cell", "_law_cell", defArgs s_law_cell, defBody s_law_cell, defScope s_law_cell⟩
def df_law : DefA := ⟨.glo "law", "law", "law", defArgs s_law, defBody s_law, defScope s_law⟩
def fnL : List DefA := [df_law_dip, df_law_is_int, df_law_floor, df_law_is_root, df_law_root, df_law_terms, df_law_least, df_is_integer, df_is_within, df_root_below, df_is_root, df_is_number, df_is_empty, df_is_same, df_fraction_of, df_least_of, df_root_shown, df_read_number, df_is_prime, df_wrong_prime, df_read_lot, df_times_in, df_parts_of, df_is_made, df_Lot_primes, df_is_factor, df_common_part, df_value_of, df_written_shown, df_product_of, df_Lot___init, df_number_shown, df_all_products, df_products_of, df_next_of, df_rich_solutions, df_pairs_by, df_all_pairs, df_accepts, df_law_told, df_law_right, df_law_well, df_law_cell, df_law]
def faL : List Fx := [.fa (.free "range"), .fa (.free "max"), .fa (.free "min"), .fa (.free "len"), .fa (.free "str"), .fa (.free "repr"), .fa (.free "int"), .fa (.free "divmod"), .fa (.free "isinstance"), .fa (.free "bool"), .fa (.free "tuple"), .fa (.int "MOST_ROOT" 1000000), .fa (.free "all"), .fa (.free "zip"), .fa (.str "DIGITS" "0123456789"), .fa (.free "enumerate"), .fa (.int "MOST_PRODUCT" 30030), .fa (.glo "Lot"), .ins "Lot", .fa (.noat "Lot" "row"), .fa (.noat "Lot" "whole"), .fa (.free "sorted"), .fa (.int "ENOUGH" 12), .fa (.free "abs"), .fa (.glo "law"), .fa (.glo "_law_dip"), .fa (.glo "_law_is_int"), .fa (.glo "_law_floor"), .fa (.glo "_law_is_root"), .fa (.glo "_law_root"), .fa (.glo "_law_terms"), .fa (.glo "_law_least"), .fa (.glo "is_integer"), .fa (.glo "is_within"), .fa (.glo "root_below"), .fa (.glo "is_root"), .fa (.glo "is_number"), .fa (.glo "is_empty"), .fa (.glo "is_same"), .fa (.glo "fraction_of"), .fa (.glo "least_of"), .fa (.glo "root_shown"), .fa (.glo "read_number"), .fa (.glo "is_prime"), .fa (.glo "wrong_prime"), .fa (.glo "read_lot"), .fa (.glo "times_in"), .fa (.glo "parts_of"), .fa (.glo "is_made"), .prop "Lot" "primes", .fa (.glo "is_factor"), .fa (.glo "common_part"), .fa (.glo "value_of"), .fa (.glo "written_shown"), .fa (.glo "product_of"), .fa (.mkr "Lot"), .fa (.glo "number_shown"), .fa (.glo "all_products"), .fa (.glo "products_of"), .fa (.glo "next_of"), .fa (.glo "rich_solutions"), .fa (.glo "pairs_by"), .fa (.glo "all_pairs"), .fa (.glo "accepts"), .fa (.glo "_law_told"), .fa (.glo "_law_right"), .fa (.glo "_law_well"), .fa (.glo "_law_cell")]
abbrev LRow : PySem.W.OpenRow := PySem.W.OpenLaw.row PySem.Challenge.rw_smoothpairs_k83_whole_solutions_claimed
abbrev hkk : PySem.W.Hook := hookA 7 faL fnL
def obb (s : PySem.W.SharedT) : He.AlD := obsAG 7 faL fnL (HandSHeadRun.getT s)
theorem obb_eq (s : PySem.W.SharedT) : obb s = hkk.obs s.abs := obsAG_eq (HandSHeadRun.getT_eq s)
def looseL : List Str := [("_wall" : Str), ("WrongValue" : Str), ("InvalidText" : Str), ("InvalidNumber" : Str), ("InvalidPrimes" : Str), ("NoAnswer" : Str), ("NotRich" : Str), ("MOST_PRODUCT" : Str), ("MOST_ROOT" : Str), ("DIGITS" : Str), ("is_integer" : Str), ("is_within" : Str), ("read_number" : Str), ("is_prime" : Str), ("product_of" : Str), ("wrong_prime" : Str), ("read_lot" : Str), ("times_in" : Str), ("parts_of" : Str), ("is_number" : Str), ("check_number" : Str), ("Lot" : Str), ("root_below" : Str), ("is_root" : Str), ("fraction_of" : Str), ("least_of" : Str), ("next_of" : Str), ("ENOUGH" : Str), ("all_products" : Str), ("is_made" : Str), ("rich_solutions" : Str), ("pairs_by" : Str), ("products_of" : Str), ("all_pairs" : Str), ("common_part" : Str), ("is_factor" : Str), ("value_of" : Str), ("is_empty" : Str), ("is_same" : Str), ("number_shown" : Str), ("root_shown" : Str), ("written_shown" : Str), ("accepts" : Str), ("_law_cell" : Str), ("_law_well" : Str), ("_law_dip" : Str), ("_law_floor" : Str), ("_law_is_root" : Str), ("_law_is_int" : Str), ("_law_terms" : Str), ("_law_least" : Str), ("_law_root" : Str), ("_law_told" : Str), ("_law_right" : Str)]
set_option maxHeartbeats 0 in
theorem runW (w : World) : HandSHeadRun.RunEq LRow (PySem.W.view LRow.prog [62]) hkk obb 4000 looseL w := by
  intro os
  kernel_rfl
theorem facts {P : Program} {w : World} {K : PySem.W.Frag} {h : Heap} {mg : Str → Option Value} {f : Addr} (X : K.In h) (G : h.Ns mainGlobals mg) (hfa : mg ("law" : Str) = some (.ref f)) (c : SaysA faL fnL K) :
    ∃ fd : FuncData, (∀ (s : Shared) (v : Value), BindsTo s fd ⟨[v], []⟩ [("_law_cells", v)]) ∧ ∀ base : Heap, K.In base → base.Ns mainGlobals mg → DFn P w K mg base 11 f fd ["_law_cells"] sp_law := by
  obtain ⟨fd_law_dip, F_law_dip⟩ := c.def_ 0 (d := df_law_dip) rfl
  obtain ⟨fd_law_is_int, F_law_is_int⟩ := c.def_ 1 (d := df_law_is_int) rfl
  obtain ⟨fd_law_floor, F_law_floor⟩ := c.def_ 2 (d := df_law_floor) rfl
  obtain ⟨fd_law_is_root, F_law_is_root⟩ := c.def_ 3 (d := df_law_is_root) rfl
  obtain ⟨fd_law_root, F_law_root⟩ := c.def_ 4 (d := df_law_root) rfl
  obtain ⟨fd_law_terms, F_law_terms⟩ := c.def_ 5 (d := df_law_terms) rfl
  obtain ⟨fd_law_least, F_law_least⟩ := c.def_ 6 (d := df_law_least) rfl
  obtain ⟨fd_is_integer, F_is_integer⟩ := c.def_ 7 (d := df_is_integer) rfl
  obtain ⟨fd_is_within, F_is_within⟩ := c.def_ 8 (d := df_is_within) rfl
  obtain ⟨fd_root_below, F_root_below⟩ := c.def_ 9 (d := df_root_below) rfl
  obtain ⟨fd_is_root, F_is_root⟩ := c.def_ 10 (d := df_is_root) rfl
  obtain ⟨fd_is_number, F_is_number⟩ := c.def_ 11 (d := df_is_number) rfl
  obtain ⟨fd_is_empty, F_is_empty⟩ := c.def_ 12 (d := df_is_empty) rfl
  obtain ⟨fd_is_same, F_is_same⟩ := c.def_ 13 (d := df_is_same) rfl
  obtain ⟨fd_fraction_of, F_fraction_of⟩ := c.def_ 14 (d := df_fraction_of) rfl
  obtain ⟨fd_least_of, F_least_of⟩ := c.def_ 15 (d := df_least_of) rfl
  obtain ⟨fd_root_shown, F_root_shown⟩ := c.def_ 16 (d := df_root_shown) rfl
  obtain ⟨fd_read_number, F_read_number⟩ := c.def_ 17 (d := df_read_number) rfl
  obtain ⟨fd_is_prime, F_is_prime⟩ := c.def_ 18 (d := df_is_prime) rfl
  obtain ⟨fd_wrong_prime, F_wrong_prime⟩ := c.def_ 19 (d := df_wrong_prime) rfl
  obtain ⟨fd_read_lot, F_read_lot⟩ := c.def_ 20 (d := df_read_lot) rfl
  obtain ⟨fd_times_in, F_times_in⟩ := c.def_ 21 (d := df_times_in) rfl
  obtain ⟨fd_parts_of, F_parts_of⟩ := c.def_ 22 (d := df_parts_of) rfl
  obtain ⟨fd_is_made, F_is_made⟩ := c.def_ 23 (d := df_is_made) rfl
  obtain ⟨fd_Lot_primes, F_Lot_primes⟩ := c.def_ 24 (d := df_Lot_primes) rfl
  obtain ⟨fd_is_factor, F_is_factor⟩ := c.def_ 25 (d := df_is_factor) rfl
  obtain ⟨fd_common_part, F_common_part⟩ := c.def_ 26 (d := df_common_part) rfl
  obtain ⟨fd_value_of, F_value_of⟩ := c.def_ 27 (d := df_value_of) rfl
  obtain ⟨fd_written_shown, F_written_shown⟩ := c.def_ 28 (d := df_written_shown) rfl
  obtain ⟨fd_product_of, F_product_of⟩ := c.def_ 29 (d := df_product_of) rfl
  obtain ⟨fd_Lot___init, F_Lot___init⟩ := c.def_ 30 (d := df_Lot___init) rfl
  obtain ⟨fd_number_shown, F_number_shown⟩ := c.def_ 31 (d := df_number_shown) rfl
  obtain ⟨fd_all_products, F_all_products⟩ := c.def_ 32 (d := df_all_products) rfl
  obtain ⟨fd_products_of, F_products_of⟩ := c.def_ 33 (d := df_products_of) rfl
  obtain ⟨fd_next_of, F_next_of⟩ := c.def_ 34 (d := df_next_of) rfl
  obtain ⟨fd_rich_solutions, F_rich_solutions⟩ := c.def_ 35 (d := df_rich_solutions) rfl
  obtain ⟨fd_pairs_by, F_pairs_by⟩ := c.def_ 36 (d := df_pairs_by) rfl
  obtain ⟨fd_all_pairs, F_all_pairs⟩ := c.def_ 37 (d := df_all_pairs) rfl
  obtain ⟨fd_accepts, F_accepts⟩ := c.def_ 38 (d := df_accepts) rfl
  obtain ⟨fd_law_told, F_law_told⟩ := c.def_ 39 (d := df_law_told) rfl
  obtain ⟨fd_law_right, F_law_right⟩ := c.def_ 40 (d := df_law_right) rfl
  obtain ⟨fd_law_well, F_law_well⟩ := c.def_ 41 (d := df_law_well) rfl
  obtain ⟨fd_law_cell, F_law_cell⟩ := c.def_ 42 (d := df_law_cell) rfl
  obtain ⟨fd_law, F_law⟩ := c.def_ 43 (d := df_law) rfl
  have T : Txt K mg := ⟨He.free_ok X G (fa_ok (c.fact 0 (f := .fa (.free "range")) rfl)), He.free_ok X G (fa_ok (c.fact 1 (f := .fa (.free "max")) rfl)), He.free_ok X G (fa_ok (c.fact 2 (f := .fa (.free "min")) rfl)), He.free_ok X G (fa_ok (c.fact 3 (f := .fa (.free "len")) rfl)), He.free_ok X G (fa_ok (c.fact 4 (f := .fa (.free "str")) rfl)), He.free_ok X G (fa_ok (c.fact 5 (f := .fa (.free "repr")) rfl)), He.free_ok X G (fa_ok (c.fact 6 (f := .fa (.free "int")) rfl)), He.free_ok X G (fa_ok (c.fact 7 (f := .fa (.free "divmod")) rfl)), He.free_ok X G (fa_ok (c.fact 8 (f := .fa (.free "isinstance")) rfl)), He.free_ok X G (fa_ok (c.fact 9 (f := .fa (.free "bool")) rfl)), He.free_ok X G (fa_ok (c.fact 10 (f := .fa (.free "tuple")) rfl)), He.int_ok X G (fa_ok (c.fact 11 (f := .fa (.int "MOST_ROOT" 1000000)) rfl)), He.free_ok X G (fa_ok (c.fact 12 (f := .fa (.free "all")) rfl)), He.free_ok X G (fa_ok (c.fact 13 (f := .fa (.free "zip")) rfl)), He.str_ok X G (fa_ok (c.fact 14 (f := .fa (.str "DIGITS" "0123456789")) rfl)), He.free_ok X G (fa_ok (c.fact 15 (f := .fa (.free "enumerate")) rfl)), He.int_ok X G (fa_ok (c.fact 16 (f := .fa (.int "MOST_PRODUCT" 30030)) rfl)), fld_n X G (c.fact 17 (f := .fa (.glo "Lot")) rfl) (c.fact 18 (f := .ins "Lot") rfl) (c.fact 19 (f := .fa (.noat "Lot" "row")) rfl), fld_n X G (c.fact 17 (f := .fa (.glo "Lot")) rfl) (c.fact 18 (f := .ins "Lot") rfl) (c.fact 20 (f := .fa (.noat "Lot" "whole")) rfl), He.free_ok X G (fa_ok (c.fact 21 (f := .fa (.free "sorted")) rfl)), He.int_ok X G (fa_ok (c.fact 22 (f := .fa (.int "ENOUGH" 12)) rfl)), He.free_ok X G (fa_ok (c.fact 23 (f := .fa (.free "abs")) rfl))⟩
  have e := hfa.symm.trans (He.glo_ok X G (fa_ok (c.fact 24 (f := .fa (.glo "law")) rfl)))
  cases e
  have b_law_dip := FunD.bindsN (ps := ["_law_jar", "_law_many"]) F_law_dip fun _ _ _ _ _ _ us hl => match us, hl with | [_, _], _ => rfl
  have b_law_is_int := FunD.bindsN (ps := ["_law_thing", "_law_low", "_law_high"]) F_law_is_int fun _ _ _ _ _ _ us hl => match us, hl with | [_, _, _], _ => rfl
  have b_law_floor := FunD.bindsN (ps := ["_law_many"]) F_law_floor fun _ _ _ _ _ _ us hl => match us, hl with | [_], _ => rfl
  have b_law_is_root := FunD.bindsN (ps := ["_law_thing"]) F_law_is_root fun _ _ _ _ _ _ us hl => match us, hl with | [_], _ => rfl
  have b_law_root := FunD.bindsN (ps := ["_law_jar"]) F_law_root fun _ _ _ _ _ _ us hl => match us, hl with | [_], _ => rfl
  have b_law_terms := FunD.bindsN (ps := ["_law_d"]) F_law_terms fun _ _ _ _ _ _ us hl => match us, hl with | [_], _ => rfl
  have b_law_least := FunD.bindsN (ps := ["_law_d"]) F_law_least fun _ _ _ _ _ _ us hl => match us, hl with | [_], _ => rfl
  have b_is_integer := FunD.bindsN (ps := ["value"]) F_is_integer fun _ _ _ _ _ _ us hl => match us, hl with | [_], _ => rfl
  have b_is_within := FunD.bindsN (ps := ["value", "least", "most"]) F_is_within fun _ _ _ _ _ _ us hl => match us, hl with | [_, _, _], _ => rfl
  have b_root_below := FunD.bindsN (ps := ["number"]) F_root_below fun _ _ _ _ _ _ us hl => match us, hl with | [_], _ => rfl
  have b_is_root := FunD.bindsN (ps := ["value"]) F_is_root fun _ _ _ _ _ _ us hl => match us, hl with | [_], _ => rfl
  have b_is_number := FunD.bindsN (ps := ["value"]) F_is_number fun _ _ _ _ _ _ us hl => match us, hl with | [_], _ => rfl
  have b_is_empty := FunD.bindsN (ps := ["value"]) F_is_empty fun _ _ _ _ _ _ us hl => match us, hl with | [_], _ => rfl
  have b_is_same := FunD.bindsN (ps := ["value", "due"]) F_is_same fun _ _ _ _ _ _ us hl => match us, hl with | [_, _], _ => rfl
  have b_fraction_of := FunD.bindsN (ps := ["root"]) F_fraction_of fun _ _ _ _ _ _ us hl => match us, hl with | [_], _ => rfl
  have b_least_of := FunD.bindsN (ps := ["root"]) F_least_of fun _ _ _ _ _ _ us hl => match us, hl with | [_], _ => rfl
  have b_root_shown := FunD.bindsN (ps := ["claim", "certificate"]) F_root_shown fun _ _ _ _ _ _ us hl => match us, hl with | [_, _], _ => rfl
  have b_read_number := FunD.bindsN (ps := ["word"]) F_read_number fun _ _ _ _ _ _ us hl => match us, hl with | [_], _ => rfl
  have b_is_prime := FunD.bindsN (ps := ["value"]) F_is_prime fun _ _ _ _ _ _ us hl => match us, hl with | [_], _ => rfl
  have b_wrong_prime := FunD.bindsN (ps := ["primes"]) F_wrong_prime fun _ _ _ _ _ _ us hl => match us, hl with | [_], _ => rfl
  have b_read_lot := FunD.bindsN (ps := ["text"]) F_read_lot fun _ _ _ _ _ _ us hl => match us, hl with | [_], _ => rfl
  have b_times_in := FunD.bindsN (ps := ["number", "prime"]) F_times_in fun _ _ _ _ _ _ us hl => match us, hl with | [_, _], _ => rfl
  have b_parts_of := FunD.bindsN (ps := ["primes", "number"]) F_parts_of fun _ _ _ _ _ _ us hl => match us, hl with | [_, _], _ => rfl
  have b_is_made := FunD.bindsN (ps := ["primes", "number"]) F_is_made fun _ _ _ _ _ _ us hl => match us, hl with | [_, _], _ => rfl
  have b_Lot_primes := FunD.bindsN (ps := ["self"]) F_Lot_primes fun _ _ _ _ _ _ us hl => match us, hl with | [_], _ => rfl
  have b_is_factor := FunD.bindsN (ps := ["lot", "value"]) F_is_factor fun _ _ _ _ _ _ us hl => match us, hl with | [_, _], _ => rfl
  have b_common_part := FunD.bindsN (ps := ["one", "other"]) F_common_part fun _ _ _ _ _ _ us hl => match us, hl with | [_, _], _ => rfl
  have b_value_of := FunD.bindsN (ps := ["row"]) F_value_of fun _ _ _ _ _ _ us hl => match us, hl with | [_], _ => rfl
  have b_written_shown := FunD.bindsN (ps := ["lot", "claim", "certificate"]) F_written_shown fun _ _ _ _ _ _ us hl => match us, hl with | [_, _, _], _ => rfl
  have b_product_of := FunD.bindsN (ps := ["primes"]) F_product_of fun _ _ _ _ _ _ us hl => match us, hl with | [_], _ => rfl
  have b_Lot___init := FunD.bindsN (ps := ["self", "primes"]) F_Lot___init fun _ _ _ _ _ _ us hl => match us, hl with | [_, _], _ => rfl
  have b_number_shown := FunD.bindsN (ps := ["primes", "claim", "certificate"]) F_number_shown fun _ _ _ _ _ _ us hl => match us, hl with | [_, _, _], _ => rfl
  have b_all_products := FunD.bindsN (ps := ["primes"]) F_all_products fun _ _ _ _ _ _ us hl => match us, hl with | [_], _ => rfl
  have b_products_of := FunD.bindsN (ps := ["primes"]) F_products_of fun _ _ _ _ _ _ us hl => match us, hl with | [_], _ => rfl
  have b_next_of := FunD.bindsN (ps := ["root", "least", "pair"]) F_next_of fun _ _ _ _ _ _ us hl => match us, hl with | [_, _, _], _ => rfl
  have b_rich_solutions := FunD.bindsN (ps := ["primes", "root"]) F_rich_solutions fun _ _ _ _ _ _ us hl => match us, hl with | [_, _], _ => rfl
  have b_pairs_by := FunD.bindsN (ps := ["primes", "product"]) F_pairs_by fun _ _ _ _ _ _ us hl => match us, hl with | [_, _], _ => rfl
  have b_all_pairs := FunD.bindsN (ps := ["primes"]) F_all_pairs fun _ _ _ _ _ _ us hl => match us, hl with | [_], _ => rfl
  have b_accepts := FunD.bindsN (ps := ["claim", "certificate"]) F_accepts fun _ _ _ _ _ _ us hl => match us, hl with | [_, _], _ => rfl
  have b_law_told := FunD.bindsN (ps := ["_law_tale", "_law_paper"]) F_law_told fun _ _ _ _ _ _ us hl => match us, hl with | [_, _], _ => rfl
  have b_law_right := FunD.bindsN (ps := ["_law_jar"]) F_law_right fun _ _ _ _ _ _ us hl => match us, hl with | [_], _ => rfl
  have b_law_well := FunD.bindsN (ps := ["_law_cell_here"]) F_law_well fun _ _ _ _ _ _ us hl => match us, hl with | [_], _ => rfl
  have b_law_cell := FunD.bindsN (ps := ["_law_cells", "_law_k"]) F_law_cell fun _ _ _ _ _ _ us hl => match us, hl with | [_, _], _ => rfl
  have b_law := FunD.bindsN (ps := ["_law_cells"]) F_law fun _ _ _ _ _ _ us hl => match us, hl with | [_], _ => rfl
  have kGk0_accepts : KwB K fd_accepts ["claim", "certificate"] 0 ["certificate", "claim"] [1, 0] := FunD.kw F_accepts fun _ _ _ _ _ _ us ws h1 h2 => match us, ws, h1, h2 with | [], [_, _], _, _ => rfl
  refine ⟨fd_law, fun s v => FunD.bindsA (ps := ["_law_cells"]) F_law (fun _ _ _ _ _ _ us hl => match us, hl with | [_], _ => rfl) s [v] rfl, fun base _ _ => ?_⟩
  have D_law_dip := ok_law_dip (P := P) (w := w) (base := base) T  F_law_dip
  have G_law_dip : GFn P w K mg base 1 "_law_dip" sp_law_dip := ⟨_, _, _, D_law_dip, He.glo_ok X G (fa_ok (c.fact 25 (f := .fa (.glo "_law_dip")) rfl)), F_law_dip.kp, b_law_dip⟩
  have D_law_is_int := ok_law_is_int (P := P) (w := w) (base := base) T  F_law_is_int
  have G_law_is_int : GFn P w K mg base 1 "_law_is_int" sp_law_is_int := ⟨_, _, _, D_law_is_int, He.glo_ok X G (fa_ok (c.fact 26 (f := .fa (.glo "_law_is_int")) rfl)), F_law_is_int.kp, b_law_is_int⟩
  have D_law_floor := ok_law_floor (P := P) (w := w) (base := base) T  F_law_floor
  have G_law_floor : GFn P w K mg base 1 "_law_floor" sp_law_floor := ⟨_, _, _, D_law_floor, He.glo_ok X G (fa_ok (c.fact 27 (f := .fa (.glo "_law_floor")) rfl)), F_law_floor.kp, b_law_floor⟩
  have D_law_is_root := ok_law_is_root (P := P) (w := w) (base := base) T G_law_is_int G_law_floor F_law_is_root
  have G_law_is_root : GFn P w K mg base 2 "_law_is_root" sp_law_is_root := ⟨_, _, _, D_law_is_root, He.glo_ok X G (fa_ok (c.fact 28 (f := .fa (.glo "_law_is_root")) rfl)), F_law_is_root.kp, b_law_is_root⟩
  have D_law_root := ok_law_root (P := P) (w := w) (base := base) T G_law_dip G_law_is_root F_law_root
  have G_law_root : GFn P w K mg base 3 "_law_root" sp_law_root := ⟨_, _, _, D_law_root, He.glo_ok X G (fa_ok (c.fact 29 (f := .fa (.glo "_law_root")) rfl)), F_law_root.kp, b_law_root⟩
  have D_law_terms := ok_law_terms (P := P) (w := w) (base := base) T G_law_floor F_law_terms
  have G_law_terms : GFn P w K mg base 2 "_law_terms" sp_law_terms := ⟨_, _, _, D_law_terms, He.glo_ok X G (fa_ok (c.fact 30 (f := .fa (.glo "_law_terms")) rfl)), F_law_terms.kp, b_law_terms⟩
  have D_law_least := ok_law_least (P := P) (w := w) (base := base) T G_law_terms F_law_least
  have G_law_least : GFn P w K mg base 3 "_law_least" sp_law_least := ⟨_, _, _, D_law_least, He.glo_ok X G (fa_ok (c.fact 31 (f := .fa (.glo "_law_least")) rfl)), F_law_least.kp, b_law_least⟩
  have D_is_integer := ok_is_integer (P := P) (w := w) (base := base) T  F_is_integer
  have G_is_integer : GFn P w K mg base 1 "is_integer" sp_is_integer := ⟨_, _, _, D_is_integer, He.glo_ok X G (fa_ok (c.fact 32 (f := .fa (.glo "is_integer")) rfl)), F_is_integer.kp, b_is_integer⟩
  have D_is_within := ok_is_within (P := P) (w := w) (base := base) T G_is_integer F_is_within
  have G_is_within : GFn P w K mg base 2 "is_within" sp_is_within := ⟨_, _, _, D_is_within, He.glo_ok X G (fa_ok (c.fact 33 (f := .fa (.glo "is_within")) rfl)), F_is_within.kp, b_is_within⟩
  have D_root_below := ok_root_below (P := P) (w := w) (base := base) T  F_root_below
  have G_root_below : GFn P w K mg base 1 "root_below" sp_root_below := ⟨_, _, _, D_root_below, He.glo_ok X G (fa_ok (c.fact 34 (f := .fa (.glo "root_below")) rfl)), F_root_below.kp, b_root_below⟩
  have D_is_root := ok_is_root (P := P) (w := w) (base := base) T G_is_within G_root_below F_is_root
  have G_is_root : GFn P w K mg base 3 "is_root" sp_is_root := ⟨_, _, _, D_is_root, He.glo_ok X G (fa_ok (c.fact 35 (f := .fa (.glo "is_root")) rfl)), F_is_root.kp, b_is_root⟩
  have D_is_number := ok_is_number (P := P) (w := w) (base := base) T G_is_integer F_is_number
  have G_is_number : GFn P w K mg base 2 "is_number" sp_is_number := ⟨_, _, _, D_is_number, He.glo_ok X G (fa_ok (c.fact 36 (f := .fa (.glo "is_number")) rfl)), F_is_number.kp, b_is_number⟩
  have D_is_empty := ok_is_empty (P := P) (w := w) (base := base) T  F_is_empty
  have G_is_empty : GFn P w K mg base 1 "is_empty" sp_is_empty := ⟨_, _, _, D_is_empty, He.glo_ok X G (fa_ok (c.fact 37 (f := .fa (.glo "is_empty")) rfl)), F_is_empty.kp, b_is_empty⟩
  have D_is_same := ok_is_same (P := P) (w := w) (base := base) T G_is_integer F_is_same (He.glo_ok X G (fa_ok (c.fact 38 (f := .fa (.glo "is_same")) rfl))) b_is_same 4
  have G_is_same : GFn P w K mg base 6 "is_same" (sp_is_same 4) := ⟨_, _, _, D_is_same, He.glo_ok X G (fa_ok (c.fact 38 (f := .fa (.glo "is_same")) rfl)), F_is_same.kp, b_is_same⟩
  have D_fraction_of := ok_fraction_of (P := P) (w := w) (base := base) T G_root_below F_fraction_of
  have G_fraction_of : GFn P w K mg base 2 "fraction_of" sp_fraction_of := ⟨_, _, _, D_fraction_of, He.glo_ok X G (fa_ok (c.fact 39 (f := .fa (.glo "fraction_of")) rfl)), F_fraction_of.kp, b_fraction_of⟩
  have D_least_of := ok_least_of (P := P) (w := w) (base := base) T G_fraction_of F_least_of
  have G_least_of : GFn P w K mg base 3 "least_of" sp_least_of := ⟨_, _, _, D_least_of, He.glo_ok X G (fa_ok (c.fact 40 (f := .fa (.glo "least_of")) rfl)), F_least_of.kp, b_least_of⟩
  have D_root_shown := ok_root_shown (P := P) (w := w) (base := base) T G_is_root G_is_number G_is_empty G_is_same G_fraction_of G_least_of F_root_shown
  have G_root_shown : GFn P w K mg base 7 "root_shown" sp_root_shown := ⟨_, _, _, D_root_shown, He.glo_ok X G (fa_ok (c.fact 41 (f := .fa (.glo "root_shown")) rfl)), F_root_shown.kp, b_root_shown⟩
  have D_read_number := ok_read_number (P := P) (w := w) (base := base) T  F_read_number
  have G_read_number : GFn P w K mg base 1 "read_number" sp_read_number := ⟨_, _, _, D_read_number, He.glo_ok X G (fa_ok (c.fact 42 (f := .fa (.glo "read_number")) rfl)), F_read_number.kp, b_read_number⟩
  have D_is_prime := ok_is_prime (P := P) (w := w) (base := base) T G_is_integer F_is_prime
  have G_is_prime : GFn P w K mg base 2 "is_prime" sp_is_prime := ⟨_, _, _, D_is_prime, He.glo_ok X G (fa_ok (c.fact 43 (f := .fa (.glo "is_prime")) rfl)), F_is_prime.kp, b_is_prime⟩
  have D_wrong_prime := ok_wrong_prime (P := P) (w := w) (base := base) T G_is_prime F_wrong_prime
  have G_wrong_prime : GFn P w K mg base 3 "wrong_prime" sp_wrong_prime := ⟨_, _, _, D_wrong_prime, He.glo_ok X G (fa_ok (c.fact 44 (f := .fa (.glo "wrong_prime")) rfl)), F_wrong_prime.kp, b_wrong_prime⟩
  have D_read_lot := ok_read_lot (P := P) (w := w) (base := base) T G_read_number G_wrong_prime F_read_lot
  have G_read_lot : GFn P w K mg base 4 "read_lot" sp_read_lot := ⟨_, _, _, D_read_lot, He.glo_ok X G (fa_ok (c.fact 45 (f := .fa (.glo "read_lot")) rfl)), F_read_lot.kp, b_read_lot⟩
  have D_times_in := ok_times_in (P := P) (w := w) (base := base) T  F_times_in
  have G_times_in : GFn P w K mg base 1 "times_in" sp_times_in := ⟨_, _, _, D_times_in, He.glo_ok X G (fa_ok (c.fact 46 (f := .fa (.glo "times_in")) rfl)), F_times_in.kp, b_times_in⟩
  have D_parts_of := ok_parts_of (P := P) (w := w) (base := base) T G_times_in F_parts_of
  have G_parts_of : GFn P w K mg base 2 "parts_of" sp_parts_of := ⟨_, _, _, D_parts_of, He.glo_ok X G (fa_ok (c.fact 47 (f := .fa (.glo "parts_of")) rfl)), F_parts_of.kp, b_parts_of⟩
  have D_is_made := ok_is_made (P := P) (w := w) (base := base) T G_parts_of F_is_made
  have G_is_made : GFn P w K mg base 3 "is_made" sp_is_made := ⟨_, _, _, D_is_made, He.glo_ok X G (fa_ok (c.fact 48 (f := .fa (.glo "is_made")) rfl)), F_is_made.kp, b_is_made⟩
  have D_Lot_primes := ok_Lot_primes (P := P) (w := w) (base := base) T  F_Lot_primes
  have G_Lot_primes : GProp P w K mg base 1 "Lot" "primes" sp_Lot_primes := prop_gp X G (c.fact 17 (f := .fa (.glo "Lot")) rfl) (c.fact 18 (f := .ins "Lot") rfl) (c.fact 49 (f := .prop "Lot" "primes") rfl) D_Lot_primes b_Lot_primes
  have D_is_factor := ok_is_factor (P := P) (w := w) (base := base) T G_is_number G_is_made G_Lot_primes F_is_factor
  have G_is_factor : GFn P w K mg base 4 "is_factor" sp_is_factor := ⟨_, _, _, D_is_factor, He.glo_ok X G (fa_ok (c.fact 50 (f := .fa (.glo "is_factor")) rfl)), F_is_factor.kp, b_is_factor⟩
  have D_common_part := ok_common_part (P := P) (w := w) (base := base) T  F_common_part
  have G_common_part : GFn P w K mg base 1 "common_part" sp_common_part := ⟨_, _, _, D_common_part, He.glo_ok X G (fa_ok (c.fact 51 (f := .fa (.glo "common_part")) rfl)), F_common_part.kp, b_common_part⟩
  have D_value_of := ok_value_of (P := P) (w := w) (base := base) T G_common_part F_value_of
  have G_value_of : GFn P w K mg base 2 "value_of" sp_value_of := ⟨_, _, _, D_value_of, He.glo_ok X G (fa_ok (c.fact 52 (f := .fa (.glo "value_of")) rfl)), F_value_of.kp, b_value_of⟩
  have D_written_shown := ok_written_shown (P := P) (w := w) (base := base) T G_is_number G_is_made G_Lot_primes G_is_factor G_value_of F_written_shown
  have G_written_shown : GFn P w K mg base 5 "written_shown" sp_written_shown := ⟨_, _, _, D_written_shown, He.glo_ok X G (fa_ok (c.fact 53 (f := .fa (.glo "written_shown")) rfl)), F_written_shown.kp, b_written_shown⟩
  have D_product_of := ok_product_of (P := P) (w := w) (base := base) T  F_product_of
  have G_product_of : GFn P w K mg base 1 "product_of" sp_product_of := ⟨_, _, _, D_product_of, He.glo_ok X G (fa_ok (c.fact 54 (f := .fa (.glo "product_of")) rfl)), F_product_of.kp, b_product_of⟩
  have D_Lot___init := ok_Lot___init (P := P) (w := w) (base := base) T G_wrong_prime G_product_of F_Lot___init
  have G_Lot___init : GMk P w K mg base 4 "Lot" ["self", "primes"] sp_Lot___init := mk_g X G (c.fact 17 (f := .fa (.glo "Lot")) rfl) (c.fact 55 (f := .fa (.mkr "Lot")) rfl) D_Lot___init b_Lot___init
  have D_number_shown := ok_number_shown (P := P) (w := w) (base := base) T G_is_number G_parts_of G_is_same F_number_shown
  have G_number_shown : GFn P w K mg base 7 "number_shown" sp_number_shown := ⟨_, _, _, D_number_shown, He.glo_ok X G (fa_ok (c.fact 56 (f := .fa (.glo "number_shown")) rfl)), F_number_shown.kp, b_number_shown⟩
  have D_all_products := ok_all_products (P := P) (w := w) (base := base) T  F_all_products
  have G_all_products : GFn P w K mg base 1 "all_products" sp_all_products := ⟨_, _, _, D_all_products, He.glo_ok X G (fa_ok (c.fact 57 (f := .fa (.glo "all_products")) rfl)), F_all_products.kp, b_all_products⟩
  have D_products_of := ok_products_of (P := P) (w := w) (base := base) T G_all_products F_products_of
  have G_products_of : GFn P w K mg base 2 "products_of" sp_products_of := ⟨_, _, _, D_products_of, He.glo_ok X G (fa_ok (c.fact 58 (f := .fa (.glo "products_of")) rfl)), F_products_of.kp, b_products_of⟩
  have D_next_of := ok_next_of (P := P) (w := w) (base := base) T  F_next_of
  have G_next_of : GFn P w K mg base 1 "next_of" sp_next_of := ⟨_, _, _, D_next_of, He.glo_ok X G (fa_ok (c.fact 59 (f := .fa (.glo "next_of")) rfl)), F_next_of.kp, b_next_of⟩
  have D_rich_solutions := ok_rich_solutions (P := P) (w := w) (base := base) T G_least_of G_is_made G_next_of F_rich_solutions
  have G_rich_solutions : GFn P w K mg base 4 "rich_solutions" sp_rich_solutions := ⟨_, _, _, D_rich_solutions, He.glo_ok X G (fa_ok (c.fact 60 (f := .fa (.glo "rich_solutions")) rfl)), F_rich_solutions.kp, b_rich_solutions⟩
  have D_pairs_by := ok_pairs_by (P := P) (w := w) (base := base) T G_rich_solutions F_pairs_by
  have G_pairs_by : GFn P w K mg base 5 "pairs_by" sp_pairs_by := ⟨_, _, _, D_pairs_by, He.glo_ok X G (fa_ok (c.fact 61 (f := .fa (.glo "pairs_by")) rfl)), F_pairs_by.kp, b_pairs_by⟩
  have D_all_pairs := ok_all_pairs (P := P) (w := w) (base := base) T G_products_of G_pairs_by F_all_pairs
  have G_all_pairs : GFn P w K mg base 6 "all_pairs" sp_all_pairs := ⟨_, _, _, D_all_pairs, He.glo_ok X G (fa_ok (c.fact 62 (f := .fa (.glo "all_pairs")) rfl)), F_all_pairs.kp, b_all_pairs⟩
  have D_accepts := ok_accepts (P := P) (w := w) (base := base) T G_root_shown G_read_lot G_written_shown G_Lot___init G_number_shown G_is_empty G_is_same G_all_pairs F_accepts
  have G_accepts : GFn P w K mg base 8 "accepts" sp_accepts := ⟨_, _, _, D_accepts, He.glo_ok X G (fa_ok (c.fact 63 (f := .fa (.glo "accepts")) rfl)), F_accepts.kp, b_accepts⟩
  have Gk0_accepts : GFnK P w K mg base 8 "accepts" 0 ["certificate", "claim"] [1, 0] sp_accepts := ⟨_, _, _, D_accepts, He.glo_ok X G (fa_ok (c.fact 63 (f := .fa (.glo "accepts")) rfl)), F_accepts.kp, kGk0_accepts⟩
  have D_law_told := ok_law_told (P := P) (w := w) (base := base) T G_accepts Gk0_accepts F_law_told
  have G_law_told : GFn P w K mg base 9 "_law_told" sp_law_told := ⟨_, _, _, D_law_told, He.glo_ok X G (fa_ok (c.fact 64 (f := .fa (.glo "_law_told")) rfl)), F_law_told.kp, b_law_told⟩
  have D_law_right := ok_law_right (P := P) (w := w) (base := base) T G_law_root G_law_least G_law_dip G_law_is_int G_law_told G_law_terms G_accepts F_law_right
  have G_law_right : GFn P w K mg base 10 "_law_right" sp_law_right := ⟨_, _, _, D_law_right, He.glo_ok X G (fa_ok (c.fact 65 (f := .fa (.glo "_law_right")) rfl)), F_law_right.kp, b_law_right⟩
  have D_law_well := ok_law_well (P := P) (w := w) (base := base) T  F_law_well
  have G_law_well : GFn P w K mg base 1 "_law_well" sp_law_well := ⟨_, _, _, D_law_well, He.glo_ok X G (fa_ok (c.fact 66 (f := .fa (.glo "_law_well")) rfl)), F_law_well.kp, b_law_well⟩
  have D_law_cell := ok_law_cell (P := P) (w := w) (base := base) T  F_law_cell
  have G_law_cell : GFn P w K mg base 1 "_law_cell" sp_law_cell := ⟨_, _, _, D_law_cell, He.glo_ok X G (fa_ok (c.fact 67 (f := .fa (.glo "_law_cell")) rfl)), F_law_cell.kp, b_law_cell⟩
  exact ok_law (P := P) (w := w) (base := base) T G_law_right G_law_well G_law_cell F_law
end Law
open PySem PySem.W PySem.Calls
set_option maxRecDepth 100000 in
set_option maxHeartbeats 0 in
theorem PySem.Challenge.cw_smoothpairs_k83_whole_solutions_claimed_holds : PySem.Challenge.rw_smoothpairs_k83_whole_solutions_claimed.Holds := by
  w_on; o_law
  refine HandSHeadRun.head_any (r := OpenLaw.row PySem.Challenge.rw_smoothpairs_k83_whole_solutions_claimed) (q := view (OpenLaw.row PySem.Challenge.rw_smoothpairs_k83_whole_solutions_claimed).prog [62]) (H := Law.hkk) (ob := Law.obb) (M := 4000) (loose := Law.looseL) (d := HandSHeadRun.topDef (OpenLaw.row PySem.Challenge.rw_smoothpairs_k83_whole_solutions_claimed).prog 62) (kwd := []) Law.obb_eq
    (by kernel_rfl) (fun s => by kernel_rfl) Law.runW (by kernel_rfl) (by kernel_rfl) (by kernel_rfl) (by rfl) (by first | assumption | decide +kernel) (by decide +kernel) ⟨rfl, rfl, rfl, rfl, rfl, by decide +kernel⟩ ?hw ?hc
  case hw => w_witness2
  case hc =>
    refine DL.walk_D (l := PySem.Challenge.rw_smoothpairs_k83_whole_solutions_claimed) (k := 11) (x := "_law_cells") rfl (by kernel_rfl) ⟨rfl, by decide, by decide⟩ ?F
    intro w mg fa h Y G hmg0
    obtain ⟨K, KX, c⟩ := Y
    have hmg : mg ("law" : PySem.Str) = some (.ref fa) := by
      have e : (HandSHeadRun.topDef (OpenLaw.row PySem.Challenge.rw_smoothpairs_k83_whole_solutions_claimed).prog 62).name = ("law" : PySem.Str) := by kernel_rfl
      rw [← e]
      exact hmg0
    obtain ⟨fd, hb, hF⟩ := Law.facts (P := (PySem.Challenge.rw_smoothpairs_k83_whole_solutions_claimed).prog) (w := w) KX G hmg c
    exact ⟨K, fd, KX, hb, fun base k1 k2 => (hF base k1 k2).imp Law.law_is⟩
