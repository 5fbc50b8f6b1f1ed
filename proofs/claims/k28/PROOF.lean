import PyProof.Rows.All
import HandS.ForMost
import HandS.ForExc
import HandS.CallSlots
import HandS.TupAny
import HandS.Wide
import HandS.Deep
import HandS.IsInst
import HandS.Style
import HandS.Defaults
import HandS.Head0
import HandS.Head1
import HandS.Head2
import HandS.HeadEnd
import HandS.HeadHook1
import HandS.HeadHook2
import PySem.Challenge.RW_smoothpairs_k28_known_equations
set_option Elab.async false
set_option linter.all false
set_option maxRecDepth 100000
set_option maxHeartbeats 4000000
/-! The D layer, part a: deep data over the tracked heap. -/
namespace DL
open PySem PySem.Spec L2

/-- a value as data: tuples, settled lists and settled instances stand inline -/
inductive D where
  | non | bl (b : Bool) | int (i : Int) | str (s : Str)
  | tup (xs : List D) | lst (xs : List D) | scr (ns : List Int)
  | inst (c : Str) (fn : List Str) (xs : List D) | ref (a : Addr) | cls (c : Str) | ty (n : String)
/-- what may still change -/
inductive MO where
  | lst (xs : List D)
  | ins (c : Str) (fs : List (Str × D))
abbrev Mp := Addr → Option MO
def um (M : Mp) (a : Addr) (o : MO) : Mp := fun b => if b = a then some o else M b
def dm (M : Mp) (a : Addr) : Mp := fun b => if b = a then none else M b
@[simp] theorem um_same (M : Mp) (a : Addr) (o : MO) : um M a o a = some o := by simp [um]
theorem um_ne {M : Mp} {a b : Addr} {o : MO} (h : b ≠ a) : um M a o b = M b := by simp [um, h]
@[simp] theorem um_um (M : Mp) (a : Addr) (o u : MO) : um (um M a o) a u = um M a u := by
  funext b; by_cases h : b = a <;> simp [um, h]
@[simp] theorem dm_same (M : Mp) (a : Addr) : dm M a a = none := by simp [dm]
theorem dm_ne {M : Mp} {a b : Addr} (h : b ≠ a) : dm M a b = M b := by simp [dm, h]
theorem dm_um {M : Mp} {a : Addr} {o : MO} (h : M a = none) : dm (um M a o) a = M := by
  funext b
  by_cases q : b = a
  · rw [q, dm_same, h]
  · rw [dm_ne q, um_ne q]
theorem mo_ne {M : Mp} {a b : Addr} {o : MO} (h : M a = some o) (h' : M b = none) : a ≠ b := by
  intro e; subst e; rw [h] at h'; cases h'
/-- less is told -/
def MLe (M M' : Mp) : Prop := ∀ a o, M a = some o → M' a = some o
theorem MLe.rfl' {M : Mp} : MLe M M := fun _ _ h => h
theorem MLe.trans {M M1 M2 : Mp} (a : MLe M M1) (b : MLe M1 M2) : MLe M M2 := fun c o h => b c o (a c o h)
theorem MLe.um {M : Mp} {p : Addr} {o : MO} (h : M p = none) : MLe M (um M p o) := fun a u e => by
  rw [um_ne (mo_ne e h)]; exact e
theorem MLe.none {M M' : Mp} (l : MLe M M') {a : Addr} (h : M' a = none) : M a = none := by
  cases e : M a with
  | none => rfl
  | some o => rw [l a o e] at h; cases h

section
variable (K : PySem.W.Frag) (mg : Str → Option Value) (M : Mp) (H : Hp)
mutual
def RepV : D → V → Prop
  | .non, v => v = .non
  | .bl b, v => v = .bl b
  | .int i, v => v = .int i
  | .str s, v => v = .str s
  | .tup xs, v => ∃ a vs, v = .ref a ∧ M a = none ∧ H a = some (.tup vs) ∧ RepVs xs vs
  | .lst xs, v => ∃ a vs, v = .ref a ∧ M a = none ∧ H a = some (.lst vs) ∧ RepVs xs vs
  | .scr ns, v => ∃ a, v = .ref a ∧ ((M a = none ∧ Rd H a (.lst (ns.map V.int))) ∨ SqL K (fun _ => none) a (ns.map V.int))
  | .inst c fn xs, v => ∃ a C dx fs, v = .ref a ∧ M a = none ∧ mg c = some (.ref C) ∧ H a = some (.ins C dx fs) ∧ fs.map (·.1) = fn ∧ RepVs xs (fs.map (·.2))
  | .ref a, v => v = .ref a
  | .cls c, v => ∃ C, v = .ref C ∧ mg c = some (.ref C)
  | .ty n, v => v = .ty n
def RepVs : List D → List V → Prop
  | [], vs => vs = []
  | d :: ds, vs => ∃ v vr, vs = v :: vr ∧ RepV d v ∧ RepVs ds vr
end
end

/-- all that is not told in M stays -/
structure Keep (M : Mp) (H : Hp) (M' : Mp) (H' : Hp) : Prop where
  k : ∀ b o, H b = some o → M b = none → H' b = some o ∧ M' b = none
theorem Keep.rfl' {M : Mp} {H : Hp} : Keep M H M H := ⟨fun _ _ h n => ⟨h, n⟩⟩
theorem Keep.trans {M M1 M2 : Mp} {H H1 H2 : Hp} (a : Keep M H M1 H1) (b : Keep M1 H1 M2 H2) : Keep M H M2 H2 :=
  ⟨fun c o h n => let ⟨x, y⟩ := a.k c o h n; b.k c o x y⟩
theorem Keep.less {M M1 M0 : Mp} {H H1 : Hp} (a : Keep M H M1 H1) (l : MLe M0 M1) : Keep M H M0 H1 :=
  ⟨fun c o h n => let ⟨x, y⟩ := a.k c o h n; ⟨x, l.none y⟩⟩

section
variable {K : PySem.W.Frag} {mg : Str → Option Value} {M M' : Mp} {H H' : Hp}
mutual
theorem RepV.keep (k : Keep M H M' H') : ∀ (d : D) (v : V), RepV K mg M H d v → RepV K mg M' H' d v
  | .non, v, h => by unfold RepV at *; exact h
  | .bl b, v, h => by unfold RepV at *; exact h
  | .int i, v, h => by unfold RepV at *; exact h
  | .str s, v, h => by unfold RepV at *; exact h
  | .tup xs, v, h => by
    unfold RepV at *
    obtain ⟨a, vs, e, n, ha, r⟩ := h
    exact ⟨a, vs, e, (k.k _ _ ha n).2, (k.k _ _ ha n).1, RepVs.keep k xs vs r⟩
  | .lst xs, v, h => by
    unfold RepV at *
    obtain ⟨a, vs, e, n, ha, r⟩ := h
    exact ⟨a, vs, e, (k.k _ _ ha n).2, (k.k _ _ ha n).1, RepVs.keep k xs vs r⟩
  | .scr ns, v, h => by
    unfold RepV at *
    obtain ⟨a, e, r⟩ := h
    refine ⟨a, e, ?_⟩
    rcases r with ⟨n, r | ⟨o, r⟩⟩ | r
    · exact .inl ⟨(k.k _ _ r n).2, .inl (k.k _ _ r n).1⟩
    · exact .inl ⟨(k.k _ _ r n).2, .inr ⟨o, (k.k _ _ r n).1⟩⟩
    · exact .inr r
  | .inst c fn xs, v, h => by
    unfold RepV at *
    obtain ⟨a, C, dx, fs, e, n, hc, ha, hf, r⟩ := h
    exact ⟨a, C, dx, fs, e, (k.k _ _ ha n).2, hc, (k.k _ _ ha n).1, hf, RepVs.keep k xs _ r⟩
  | .ref a, v, h => by unfold RepV at *; exact h
  | .cls c, v, h => by unfold RepV at *; exact h
  | .ty c, v, h => by unfold RepV at *; exact h
theorem RepVs.keep (k : Keep M H M' H') : ∀ (ds : List D) (vs : List V), RepVs K mg M H ds vs → RepVs K mg M' H' ds vs
  | [], vs, h => by unfold RepVs at *; exact h
  | d :: ds, vs, h => by
    unfold RepVs at *
    obtain ⟨v, vr, e, r, rs⟩ := h
    exact ⟨v, vr, e, RepV.keep k d v r, RepVs.keep k ds vr rs⟩
end
end
end DL
/-! The D layer, part b: states, judgements. -/
namespace DL
open PySem PySem.Spec L2

section
variable (K : PySem.W.Frag) (mg : Str → Option Value) (M : Mp) (H : Hp)
def RepF (fs : List (Str × D)) (gs : List (Str × V)) : Prop := gs.map (·.1) = fs.map (·.1) ∧ RepVs K mg M H (fs.map (·.2)) (gs.map (·.2))
def RepO (a : Addr) : MO → Prop
  | .lst ds => ∃ vs, H a = some (.lst vs) ∧ RepVs K mg M H ds vs
  | .ins c fs => ∃ C dx gs, mg c = some (.ref C) ∧ H a = some (.ins C dx gs) ∧ RepF K mg M H fs gs
def RepM : Prop := ∀ a o, M a = some o → RepO K mg M H a o
abbrev Rho := List (Option D)
def RepS (ρ : Rho) (σ : St) : Prop := ρ.length = σ.length ∧ ∀ (i : Nat) (d : D), ρ[i]? = some (some d) → ∃ v, σ[i]? = some (some v) ∧ RepV K mg M H d v
end

section
variable {K : PySem.W.Frag} {mg : Str → Option Value} {M M' M0 : Mp} {H H' H0 : Hp} {ρ : Rho} {σ : St}
theorem RepF.keep (k : Keep M H M' H') {fs : List (Str × D)} {gs : List (Str × V)} (h : RepF K mg M H fs gs) : RepF K mg M' H' fs gs := ⟨h.1, RepVs.keep k _ _ h.2⟩
theorem RepS.keep (k : Keep M H M' H') (h : RepS K mg M H ρ σ) : RepS K mg M' H' ρ σ :=
  ⟨h.1, fun i d e => let ⟨v, e1, r⟩ := h.2 i d e; ⟨v, e1, RepV.keep k d v r⟩⟩
theorem RepVs.length : ∀ {ds : List D} {vs : List V}, RepVs K mg M H ds vs → ds.length = vs.length
  | [], vs, h => by unfold RepVs at h; subst h; rfl
  | d :: ds, vs, h => by
    unfold RepVs at h
    obtain ⟨v, vr, rfl, _, r⟩ := h
    simp [RepVs.length r]
theorem RepVs.get : ∀ {ds : List D} {vs : List V} {i : Nat} {d : D}, RepVs K mg M H ds vs → ds[i]? = some d → ∃ v, vs[i]? = some v ∧ RepV K mg M H d v
  | [], _, _, _, _, e => by simp at e
  | x :: ds, vs, i, d, h, e => by
    unfold RepVs at h
    obtain ⟨v, vr, rfl, r, rs⟩ := h
    cases i with
    | zero => simp at e; subst e; exact ⟨v, rfl, r⟩
    | succ i => simpa using RepVs.get rs (by simpa using e)
theorem RepVs.append : ∀ {ds es : List D} {vs ws : List V}, RepVs K mg M H ds vs → RepVs K mg M H es ws → RepVs K mg M H (ds ++ es) (vs ++ ws)
  | [], es, vs, ws, h, h' => by unfold RepVs at h; subst h; simpa using h'
  | x :: ds, es, vs, ws, h, h' => by
    unfold RepVs at h
    obtain ⟨v, vr, rfl, r, rs⟩ := h
    show RepVs K mg M H (x :: (ds ++ es)) (v :: (vr ++ ws))
    unfold RepVs
    exact ⟨v, _, rfl, r, RepVs.append rs h'⟩
theorem RepVs.take : ∀ (n : Nat) {ds : List D} {vs : List V}, RepVs K mg M H ds vs → RepVs K mg M H (ds.take n) (vs.take n)
  | 0, ds, vs, h => by simp [RepVs]
  | n + 1, [], vs, h => by unfold RepVs at h; subst h; simp [RepVs]
  | n + 1, x :: ds, vs, h => by
    unfold RepVs at h
    obtain ⟨v, vr, rfl, r, rs⟩ := h
    show RepVs K mg M H (x :: ds.take n) (v :: vr.take n)
    unfold RepVs
    exact ⟨v, _, rfl, r, RepVs.take n rs⟩
theorem RepVs.drop : ∀ (n : Nat) {ds : List D} {vs : List V}, RepVs K mg M H ds vs → RepVs K mg M H (ds.drop n) (vs.drop n)
  | 0, ds, vs, h => by simpa using h
  | n + 1, [], vs, h => by unfold RepVs at h; subst h; simp [RepVs]
  | n + 1, x :: ds, vs, h => by
    unfold RepVs at h
    obtain ⟨v, vr, rfl, r, rs⟩ := h
    simpa using RepVs.drop n rs
theorem RepVs.set : ∀ (n : Nat) {ds : List D} {vs : List V} {d : D} {v : V}, RepV K mg M H d v → RepVs K mg M H ds vs → RepVs K mg M H (ds.set n d) (vs.set n v)
  | n, [], vs, d, v, r, h => by unfold RepVs at h; subst h; simp [RepVs]
  | 0, x :: ds, vs, d, v, r, h => by
    unfold RepVs at h
    obtain ⟨_, vr, rfl, _, rs⟩ := h
    show RepVs K mg M H (d :: ds) (v :: vr)
    unfold RepVs
    exact ⟨v, vr, rfl, r, rs⟩
  | n + 1, x :: ds, vs, d, v, r, h => by
    unfold RepVs at h
    obtain ⟨w, vr, rfl, r', rs⟩ := h
    show RepVs K mg M H (x :: ds.set n d) (w :: vr.set n v)
    unfold RepVs
    exact ⟨w, _, rfl, r', RepVs.set n r rs⟩
theorem RepVs.ints : ∀ (ns : List Int), RepVs K mg M H (ns.map D.int) (ns.map V.int)
  | [] => by simp [RepVs]
  | n :: ns => by
    show RepVs K mg M H (D.int n :: ns.map D.int) (V.int n :: ns.map V.int)
    unfold RepVs
    exact ⟨_, _, rfl, by simp [RepV], RepVs.ints ns⟩
theorem RepVs.nil : RepVs K mg M H [] [] := by simp [RepVs]
theorem RepVs.cons {d : D} {v : V} {ds : List D} {vs : List V} (r : RepV K mg M H d v) (rs : RepVs K mg M H ds vs) : RepVs K mg M H (d :: ds) (v :: vs) := by
  unfold RepVs; exact ⟨v, vs, rfl, r, rs⟩
theorem RepM.free (h : RepM K mg M H) {a : Addr} (n : H a = none) : M a = none := by
  cases e : M a with
  | none => rfl
  | some o =>
    have q := h a o e
    cases o with
    | lst ds => obtain ⟨vs, q, _⟩ := q; rw [n] at q; cases q
    | ins c fs => obtain ⟨C, dx, gs, _, q, _⟩ := q; rw [n] at q; cases q
/-- a new object that is not told of -/
theorem Keep.new {p : Addr} {o : HO} (h : RepM K mg M H) (n : H p = none) : Keep M H M (upd H p o) :=
  ⟨fun b u e m => ⟨by rw [upd_ne (ne_of_none e n)]; exact e, m⟩⟩
theorem Keep.newM {p : Addr} {o : HO} {u : MO} (h : RepM K mg M H) (n : H p = none) : Keep M H (um M p u) (upd H p o) :=
  ⟨fun b w e m => ⟨by rw [upd_ne (ne_of_none e n)]; exact e, by rw [um_ne (ne_of_none e n)]; exact m⟩⟩
/-- what is told of is written -/
theorem Keep.write {p : Addr} {o : HO} {u w : MO} (e : M p = some w) : Keep M H (um M p u) (upd H p o) :=
  ⟨fun b x hb m => by
    have ne : b ≠ p := fun z => by subst z; rw [e] at m; cases m
    exact ⟨by rw [upd_ne ne]; exact hb, by rw [um_ne ne]; exact m⟩⟩
theorem RepO.keep (k : Keep M H M' H') {a : Addr} {o : MO} (ha : H' a = H a) (h : RepO K mg M H a o) : RepO K mg M' H' a o := by
  cases o with
  | lst ds => obtain ⟨vs, q, r⟩ := h; exact ⟨vs, ha.trans q, RepVs.keep k _ _ r⟩
  | ins c fs => obtain ⟨C, dx, gs, hc, q, r⟩ := h; exact ⟨C, dx, gs, hc, ha.trans q, r.keep k⟩
theorem RepM.new {p : Addr} {o : HO} (h : RepM K mg M H) (n : H p = none) : RepM K mg M (upd H p o) := fun a u e =>
  (h a u e).keep (Keep.new h n) (upd_ne fun z => by subst z; rw [h.free n] at e; cases e)
theorem RepM.newM {p : Addr} {o : HO} {u : MO} (h : RepM K mg M H) (n : H p = none) (r : RepO K mg (um M p u) (upd H p o) p u) : RepM K mg (um M p u) (upd H p o) := fun a w e => by
  by_cases z : a = p
  · subst z; rw [um_same] at e; cases e; exact r
  · rw [um_ne z] at e
    exact (h a w e).keep (Keep.newM h n) (upd_ne z)
theorem RepM.write {p : Addr} {o : HO} {u w : MO} (h : RepM K mg M H) (hw : M p = some w) (r : RepO K mg (um M p u) (upd H p o) p u) : RepM K mg (um M p u) (upd H p o) := fun a x e => by
  by_cases z : a = p
  · subst z; rw [um_same] at e; cases e; exact r
  · rw [um_ne z] at e
    exact (h a x e).keep (Keep.write hw) (upd_ne z)
theorem RepM.less (h : RepM K mg M H) (l : MLe M0 M) : RepM K mg M0 H := fun a o e =>
  (h a o (l a o e)).keep (Keep.rfl'.less l) rfl
theorem RepV.less (l : MLe M0 M) {d : D} {v : V} (h : RepV K mg M H d v) : RepV K mg M0 H d v := RepV.keep (Keep.rfl'.less l) d v h
theorem RepS.less (l : MLe M0 M) (h : RepS K mg M H ρ σ) : RepS K mg M0 H ρ σ := RepS.keep (Keep.rfl'.less l) h
theorem RepS.set {i : Nat} {d : D} {v : V} (h : RepS K mg M H ρ σ) (r : RepV K mg M H d v) : RepS K mg M H (ρ.set i (some d)) (σ.set i (some v)) :=
  ⟨by simp [h.1], fun j e hj => by
    by_cases z : i = j
    · subst z
      by_cases hl : i < ρ.length
      · rw [List.getElem?_set_self hl] at hj
        cases hj
        exact ⟨v, List.getElem?_set_self (by rw [← h.1]; exact hl), r⟩
      · rw [List.getElem?_eq_none (by simpa using hl)] at hj; cases hj
    · rw [List.getElem?_set_ne z] at hj
      obtain ⟨w, e1, r1⟩ := h.2 j e hj
      exact ⟨w, by rw [List.getElem?_set_ne z]; exact e1, r1⟩⟩
end

/-! ### readings -/
abbrev DK := D → Mp → Prop
abbrev TD := Rho → Mp → DK → Prop
abbrev TDs := Rho → Mp → (List D → Mp → Prop) → Prop
abbrev TDb := Rho → Mp → (Bool → Mp → Prop) → Prop
structure DEnds where
  nx : Rho → Mp → Prop
  rt : DK
  bk : Rho → Mp → Prop := fun _ _ => False
  ct : Rho → Mp → Prop := fun _ _ => False
abbrev TDS := DEnds → Rho → Mp → Prop
/-- a target: the value, the names, the state -/
abbrev TDG := D → Rho → Mp → (Rho → Mp → Prop) → Prop
abbrev TDGs := List D → Rho → Mp → (Rho → Mp → Prop) → Prop
/-- what is walked: its items -/
abbrev TDI := Rho → Mp → (List D → Mp → Prop) → Prop

/-- where the code stands: the entry -/
structure At where
  M : Mp
  H : Hp
section
variable (X : Cx) (B : At)
structure Here (ρ : Rho) (σ : St) (M : Mp) (H : Hp) : Prop where
  s : RepS X.K X.mg M H ρ σ
  m : RepM X.K X.mg M H
  k : Keep B.M B.H M H
/-- behind: the slots as they were, a value -/
def lft (t : TD) : TE := fun σ H Q => ∃ ρ M R, Here X B ρ σ M H ∧ t ρ M R ∧ ∀ d M' v H', R d M' → Keep M H M' H' → RepM X.K X.mg M' H' → RepV X.K X.mg M' H' d v → Q v H'
def lftA (t : TDs) : TA := fun σ H Q => ∃ ρ M R, Here X B ρ σ M H ∧ t ρ M R ∧ ∀ ds M' vs H', R ds M' → Keep M H M' H' → RepM X.K X.mg M' H' → RepVs X.K X.mg M' H' ds vs → Q vs H'
def lftT (t : TDb) : TT := fun σ H Q => ∃ ρ M R, Here X B ρ σ M H ∧ t ρ M R ∧ ∀ b M' H', R b M' → Keep M H M' H' → RepM X.K X.mg M' H' → Q b H'
structure EndsLe (E : DEnds) (D : Ends) : Prop where
  nx : ∀ ρ σ M H, Here X B ρ σ M H → E.nx ρ M → D.nx σ H
  bk : ∀ ρ σ M H, Here X B ρ σ M H → E.bk ρ M → D.bk σ H
  ct : ∀ ρ σ M H, Here X B ρ σ M H → E.ct ρ M → D.ct σ H
  rt : ∀ d v M H, Keep B.M B.H M H → RepM X.K X.mg M H → RepV X.K X.mg M H d v → E.rt d M → D.rt v H
/-- C: a later place than B, from which the ends are told -/
def lftS (t : TDS) : TS := fun D σ H => ∃ (C : At) (ρ : Rho) (M : Mp) (E : DEnds), Keep B.M B.H C.M C.H ∧ Here X C ρ σ M H ∧ EndsLe X C E D ∧ t E ρ M
def DE (e : Expr) (t : TD) : Prop := PE X e (lft X B t)
def DA (es : List Expr) (t : TDs) : Prop := PA X es (lftA X B t)
def DT (e : Expr) (t : TDb) : Prop := PT X e (lftT X B t)
def DW (e : Expr) (t : TDb) : Prop := PW X e (lftT X B t)
def DS (s : Stmt) (t : TDS) : Prop := PS X s (lftS X B t)
def DSs (s : List Stmt) (t : TDS) : Prop := PSs X s (lftS X B t)
def lftG (t : TDG) : TG := fun v σ H Q => ∃ ρ M d R, Here X B ρ σ M H ∧ RepV X.K X.mg M H d v ∧ t d ρ M R ∧ ∀ ρ' M' σ' H', R ρ' M' → Keep M H M' H' → Here X B ρ' σ' M' H' → Q σ' H'
def lftGs (t : TDGs) : TGs := fun vs σ H Q => ∃ ρ M ds R, Here X B ρ σ M H ∧ RepVs X.K X.mg M H ds vs ∧ t ds ρ M R ∧ ∀ ρ' M' σ' H', R ρ' M' → Keep M H M' H' → Here X B ρ' σ' M' H' → Q σ' H'
def DG (e : Expr) (t : TDG) : Prop := PG X e (lftG X B t)
def DGs (es : List Expr) (t : TDGs) : Prop := PGs X es (lftGs X B t)
/-- the iterator J serves the items -/
def Serves (items : List D) (J : It) (M : Mp) (H : Hp) : Prop :=
  ∀ M' H', Keep M H M' H' → RepM X.K X.mg M' H' → ∀ i : Nat, (items.length ≤ i → J.stop i H') ∧
    ∀ d, items[i]? = some d → J.go i H' ∧ ∀ x H2, J.yld i H' x H2 → Keep M' H' M' H2 ∧ RepM X.K X.mg M' H2 ∧ RepV X.K X.mg M' H2 d x
def lftI (t : TDI) : TI := fun σ H R => ∃ ρ M T, Here X B ρ σ M H ∧ t ρ M T ∧ ∀ items M' J H', T items M' → Keep M H M' H' → RepM X.K X.mg M' H' → Serves X items J M' H' → R J H'
def DI (tg e : Expr) (t : TDI) : Prop := PI X tg e (lftI X B t)
end
section
variable {X : Cx} {B : At} {ρ : Rho} {σ : St} {M M' : Mp} {H H' : Hp}
theorem Here.step (h : Here X B ρ σ M H) (k : Keep M H M' H') (m : RepM X.K X.mg M' H') : Here X B ρ σ M' H' := ⟨h.s.keep k, m, h.k.trans k⟩
theorem Here.set {i : Nat} {d : D} {v : V} (h : Here X B ρ σ M H) (r : RepV X.K X.mg M H d v) : Here X B (ρ.set i (some d)) (σ.set i (some v)) M H := ⟨h.s.set r, h.m, h.k⟩
theorem Here.base {C : At} (kb : Keep B.M B.H C.M C.H) (h : Here X C ρ σ M H) : Here X B ρ σ M H := ⟨h.s, h.m, kb.trans h.k⟩
theorem Here.up {C : At} (k : Keep C.M C.H M H) (h : Here X B ρ σ M H) : Here X C ρ σ M H := ⟨h.s, h.m, k⟩
theorem EndsLe.later {C C' : At} (k : Keep C.M C.H C'.M C'.H) {E : DEnds} {D : Ends} (le : EndsLe X C E D) : EndsLe X C' E D :=
  ⟨fun ρ σ M H h => le.nx ρ σ M H (h.base k), fun ρ σ M H h => le.bk ρ σ M H (h.base k), fun ρ σ M H h => le.ct ρ σ M H (h.base k), fun d v M H kk => le.rt d v M H (k.trans kk)⟩
theorem Here.less {M0 : Mp} (h : Here X B ρ σ M H) (l : MLe M0 M) : Here X B ρ σ M0 H := ⟨h.s.less l, h.m.less l, h.k.less l⟩
end
/-- weaken a reading -/
theorem PE.imp {X : Cx} {e : Expr} {t u : TE} (h : PE X e t) (q : ∀ σ H Q, u σ H Q → t σ H Q) : PE X e u := ⟨fun pins s σ H Q I z => h.run pins s σ H Q I (q _ _ _ z)⟩
theorem PT.imp {X : Cx} {e : Expr} {t u : TT} (h : PT X e t) (q : ∀ σ H Q, u σ H Q → t σ H Q) : PT X e u := ⟨fun pins s σ H Q I z => h.run pins s σ H Q I (q _ _ _ z)⟩
theorem PW.imp {X : Cx} {e : Expr} {t u : TT} (h : PW X e t) (q : ∀ σ H Q, u σ H Q → t σ H Q) : PW X e u := ⟨fun wh pins s σ H Q I z => h.run wh pins s σ H Q I (q _ _ _ z)⟩
theorem PA.imp {X : Cx} {e : List Expr} {t u : TA} (h : PA X e t) (q : ∀ σ H Q, u σ H Q → t σ H Q) : PA X e u := ⟨fun pos pins s σ H Q I z => h.run pos pins s σ H Q I (q _ _ _ z)⟩
theorem PS.imp {X : Cx} {e : Stmt} {t u : TS} (h : PS X e t) (q : ∀ D σ H, u D σ H → t D σ H) : PS X e u := ⟨fun pins s σ H D I z => h.run pins s σ H D I (q _ _ _ z)⟩
theorem PSs.imp {X : Cx} {e : List Stmt} {t u : TS} (h : PSs X e t) (q : ∀ D σ H, u D σ H → t D σ H) : PSs X e u := ⟨fun pins s σ H D I z => h.run pins s σ H D I (q _ _ _ z)⟩
theorem PG.imp {X : Cx} {e : Expr} {t u : TG} (h : PG X e t) (q : ∀ v σ H Q, u v σ H Q → t v σ H Q) : PG X e u := ⟨fun pins s σ H v w Q I r z => h.run pins s σ H v w Q I r (q _ _ _ _ z)⟩
theorem PGs.imp {X : Cx} {e : List Expr} {t u : TGs} (h : PGs X e t) (q : ∀ v σ H Q, u v σ H Q → t v σ H Q) : PGs X e u := ⟨fun pins s σ H v w Q I r z => h.run pins s σ H v w Q I r (q _ _ _ _ z)⟩
theorem PI.imp {X : Cx} {tg e : Expr} {t u : TI} (h : PI X tg e t) (q : ∀ σ H Q, u σ H Q → t σ H Q) : PI X tg e u := ⟨fun pins s σ H Q I z => h.run pins s σ H Q I (q _ _ _ z)⟩
end DL
/-! The D layer, part c: expressions. -/
namespace DL
open PySem PySem.Spec L2

/-! ### data -/
mutual
def D.py : D → PyData
  | .non => .none
  | .bl b => .bool b
  | .int i => .int i
  | .str s => .str s
  | .tup xs => .tuple (pys xs)
  | .lst xs => .list (pys xs)
  | .scr ns => .list (ns.map PyData.int)
  | .inst _ _ _ => .none
  | .ref _ => .none
  | .cls _ => .none
  | .ty _ => .none
def pys : List D → List PyData
  | [] => []
  | x :: xs => x.py :: pys xs
end
mutual
/-- plain, at most so deep -/
def D.pl : Nat → D → Bool
  | _, .non => true
  | _, .bl _ => true
  | _, .int _ => true
  | _, .str s => PyData.canLay0 (.str s)
  | 0, .tup _ => false
  | n + 1, .tup xs => pls n xs
  | 0, .lst _ => false
  | n + 1, .lst xs => pls n xs
  | 0, .scr _ => false
  | _ + 1, .scr _ => true
  | _, .inst _ _ _ => false
  | _, .ref _ => false
  | _, .cls _ => false
  | _, .ty _ => false
def pls : Nat → List D → Bool
  | _, [] => true
  | n, x :: xs => x.pl n && pls n xs
end
def D.eqv (x y : D) : Bool := PyData.eqv x.py y.py
/-- the items of a list -/
def asL (M : Mp) : D → Option (List D)
  | .lst xs => some xs
  | .ref a => match M a with
    | some (.lst ds) => some ds
    | _ => none
  | _ => none
/-- a list that may change, as it is now -/
def rsv (M : Mp) : D → D
  | .ref a => match M a with
    | some (.lst ds) => .lst ds
    | _ => .ref a
  | d => d
def cutL {α : Type} (xs : List α) (lo hi : Option Int) : List α := (xs.drop (HT.sIx xs.length 0 lo)).take (HT.sIx xs.length xs.length hi - HT.sIx xs.length 0 lo)

section
variable {K : PySem.W.Frag} {mg : Str → Option Value} {M M' : Mp} {H H' : Hp}
theorem asL_at {d : D} {ds : List D} {v : V} (e : asL M d = some ds) (m : RepM K mg M H) (r : RepV K mg M H d v) : ∃ a vs, v = .ref a ∧ H a = some (.lst vs) ∧ RepVs K mg M H ds vs := by
  cases d with
  | lst xs =>
    unfold asL at e
    cases e
    unfold RepV at r
    obtain ⟨a, vs, e, _, h, rs⟩ := r
    exact ⟨a, vs, e, h, rs⟩
  | ref a =>
    unfold RepV at r
    cases q : M a with
    | none => simp [asL, q] at e
    | some o =>
      cases o with
      | ins c fs => simp [asL, q] at e
      | lst xs =>
        simp [asL, q] at e
        subst e
        obtain ⟨vs, h, rs⟩ := m a _ q
        exact ⟨a, vs, r, h, rs⟩
  | _ => simp [asL] at e
theorem RepVs.cut {xs : List D} {vs : List V} (h : RepVs K mg M H xs vs) (lo hi : Option Int) : RepVs K mg M H (cutL xs lo hi) (cutV vs lo hi) := by
  have e := h.length
  unfold cutL cutV
  rw [e]
  exact RepVs.take _ (RepVs.drop _ h)
theorem scr_at {ns : List Int} {v : V} (r : RepV K mg M H (.scr ns) v) : ∃ a, v = .ref a ∧ SqL K H a (ns.map V.int) := by
  unfold RepV at r
  obtain ⟨a, rfl, h⟩ := r
  refine ⟨a, rfl, ?_⟩
  rcases h with ⟨_, h⟩ | (h | ⟨_, h⟩) | h
  · exact .inl h
  · cases h
  · cases h
  · exact .inr h
theorem Dp_ints : ∀ ns : List Int, DpAll K H (ns.map V.int) (ns.map PyData.int)
  | [] => .nil
  | n :: ns => .cons (.int n) (Dp_ints ns)
mutual
theorem Dp_of : ∀ (n : Nat) (d : D) (v : V), d.pl n = true → RepV K mg M H d v → Dp K H v d.py
  | _, .non, v, _, r => by unfold RepV at r; subst r; exact .non
  | _, .bl b, v, _, r => by unfold RepV at r; subst r; exact .bl b
  | _, .int i, v, _, r => by unfold RepV at r; subst r; exact .int i
  | _, .str s, v, _, r => by unfold RepV at r; subst r; exact .str s
  | 0, .tup xs, v, p, r => by simp [D.pl] at p
  | n + 1, .tup xs, v, p, r => by
    unfold RepV at r
    obtain ⟨a, vs, rfl, _, h, rs⟩ := r
    exact .tup (SqT.of h) (Dps_of n xs vs (by simpa [D.pl] using p) rs)
  | 0, .lst xs, v, p, r => by simp [D.pl] at p
  | n + 1, .lst xs, v, p, r => by
    unfold RepV at r
    obtain ⟨a, vs, rfl, _, h, rs⟩ := r
    exact .lst (SqL.of h) (Dps_of n xs vs (by simpa [D.pl] using p) rs)
  | 0, .scr ns, v, p, r => by simp [D.pl] at p
  | n + 1, .scr ns, v, p, r => by
    obtain ⟨a, rfl, hs⟩ := scr_at r
    exact .lst hs (Dp_ints ns)
  | _, .inst _ _ _, v, p, r => by simp [D.pl] at p
  | _, .ref _, v, p, r => by simp [D.pl] at p
  | _, .cls _, v, p, r => by simp [D.pl] at p
  | _, .ty _, v, p, r => by simp [D.pl] at p
theorem Dps_of : ∀ (n : Nat) (ds : List D) (vs : List V), pls n ds = true → RepVs K mg M H ds vs → DpAll K H vs (pys ds)
  | n, [], vs, _, r => by unfold RepVs at r; subst r; exact .nil
  | n, d :: ds, vs, p, r => by
    unfold RepVs at r
    obtain ⟨v, vr, rfl, rv, rs⟩ := r
    have p' : d.pl n = true ∧ pls n ds = true := by simpa [pls] using p
    exact .cons (Dp_of n d v p'.1 rv) (Dps_of n ds vr p'.2 rs)
end
mutual
theorem pl_shape : ∀ (n : Nat) (d : D), d.pl n = true → PyData.canLay0 d.py = true ∧ d.py.depth ≤ n
  | _, .non, _ => by simp [D.py, PyData.canLay0, PyData.depth]
  | _, .bl b, _ => by simp [D.py, PyData.canLay0, PyData.depth]
  | _, .int i, _ => by simp [D.py, PyData.canLay0, PyData.depth]
  | _, .str s, p => by
    unfold D.pl at p
    exact ⟨p, by simp [D.py, PyData.depth]⟩
  | 0, .tup xs, p => by simp [D.pl] at p
  | n + 1, .tup xs, p => by
    have q := pls_shape n xs (by simpa [D.pl] using p)
    simp only [D.py, PyData.canLay0, PyData.depth]
    exact ⟨q.1, by omega⟩
  | 0, .lst xs, p => by simp [D.pl] at p
  | n + 1, .lst xs, p => by
    have q := pls_shape n xs (by simpa [D.pl] using p)
    simp only [D.py, PyData.canLay0, PyData.depth]
    exact ⟨q.1, by omega⟩
  | 0, .scr ns, p => by simp [D.pl] at p
  | n + 1, .scr ns, p => by
    have q : PyData.canLayAll0 (ns.map PyData.int) = true ∧ PyData.depthAll (ns.map PyData.int) = 0 := by
      clear p
      induction ns with
      | nil => simp [PyData.canLayAll0, PyData.depthAll]
      | cons x xs ih => simp [PyData.canLayAll0, PyData.depthAll, PyData.canLay0, PyData.depth, ih]
    simp only [D.py, PyData.canLay0, PyData.depth]
    exact ⟨q.1, by omega⟩
  | _, .inst _ _ _, p => by simp [D.pl] at p
  | _, .ref _, p => by simp [D.pl] at p
  | _, .cls _, p => by simp [D.pl] at p
  | _, .ty _, p => by simp [D.pl] at p
theorem pls_shape : ∀ (n : Nat) (ds : List D), pls n ds = true → PyData.canLayAll0 (pys ds) = true ∧ PyData.depthAll (pys ds) ≤ n
  | n, [], _ => by simp [pys, PyData.canLayAll0, PyData.depthAll]
  | n, d :: ds, p => by
    have p' : d.pl n = true ∧ pls n ds = true := by simpa [pls] using p
    have q1 := pl_shape n d p'.1
    have q2 := pls_shape n ds p'.2
    simp only [pys, PyData.canLayAll0, PyData.depthAll, q1.1, q2.1, Bool.and_self]
    exact ⟨trivial, by omega⟩
end
theorem pl_shaped {n : Nat} {d : D} (h : n ≤ 64) (p : d.pl n = true) : SeqAt.shaped d.py = true := by
  obtain ⟨a, b⟩ := pl_shape n d p
  unfold SeqAt.shaped
  rw [a, decide_eq_true (by omega)]
  rfl
/-- a value, or the list that it is now -/
theorem rsv_dp {n : Nat} {d : D} {v : V} (m : RepM K mg M H) (r : RepV K mg M H d v) (p : (rsv M d).pl n = true) : Dp K H v (rsv M d).py := by
  cases d with
  | ref a =>
    cases q : M a with
    | none => simp [rsv, q, D.pl] at p
    | some o =>
      cases o with
      | ins c fs => simp [rsv, q, D.pl] at p
      | lst xs =>
        simp only [rsv, q] at p ⊢
        obtain ⟨b, vs, rfl, h, rs⟩ := asL_at (d := .ref a) (ds := xs) (by simp [asL, q]) m r
        cases n with
        | zero => simp [D.pl] at p
        | succ n => exact .lst (SqL.of h) (Dps_of n xs vs (by simpa [D.pl] using p) rs)
  | _ => exact Dp_of n _ v p r
end

section
variable {X : Cx} {B : At}
/-! ### names, constants -/
def dV (i : Nat) : TD := fun ρ M Q => match ρ[i]? with | some (some d) => Q d M | _ => False
def dC (d : D) : TD := fun _ M Q => Q d M
theorem dv (i : Nat) {x : Str} {pos : Pos} (hN : X.N[i]? = some x := by rfl) (hv : Vis X.env.scope x := by first | exact Or.inl rfl | exact Or.inr (Or.inl rfl) | exact Or.inr (Or.inr rfl)) (hd : (x == ("__debug__" : Str)) = false := by decide)
    (hcd : (x == ("__classdict__" : Str)) = false := by decide) : DE X B (.Name x pos) (dV i) := by
  refine PE.imp (pe_var hN hv hd hcd) fun σ H Q h => ?_
  obtain ⟨ρ, M, R, hh, h, q⟩ := h
  unfold dV at h
  split at h
  · rename_i d e
    obtain ⟨v, e1, r⟩ := hh.s.2 i d e
    exact ⟨v, e1, q d M v H h .rfl' hh.m r⟩
  · exact h.elim
theorem de_const {e : Expr} {v : V} {d : D} (h : PE X e (tC v)) (r : ∀ M H, RepV X.K X.mg M H d v) : DE X B e (dC d) :=
  PE.imp h fun σ H Q ⟨ρ, M, R, hh, h, q⟩ => q d M v H h .rfl' hh.m (r M H)
theorem de_int {i j pos} : DE X B (.Constant (.int i) j pos) (dC (.int i)) := de_const pe_int fun _ _ => by simp [RepV]
theorem de_bl {b j pos} : DE X B (.Constant (.bool b) j pos) (dC (.bl b)) := de_const pe_bl fun _ _ => by simp [RepV]
theorem de_non {j pos} : DE X B (.Constant .none j pos) (dC .non) := de_const pe_non fun _ _ => by simp [RepV]
theorem de_str {x j pos} : DE X B (.Constant (.str x) j pos) (dC (.str x)) := de_const pe_str fun _ _ => by simp [RepV]
theorem de_gI {x : Str} {i : Int} {pos : Pos} (hg : Gl X x) (hm : ∃ t, X.mg x = some (.int i t)) (hd : (x == ("__debug__" : Str)) = false := by decide) : DE X B (.Name x pos) (dC (.int i)) := by
  obtain ⟨t, hm⟩ := hm
  exact de_const (pe_glob (v := .int i) hg hm ⟨t, rfl⟩ hd) fun _ _ => by simp [RepV]
theorem de_gS {x : Str} {i : Str} {pos : Pos} (hg : Gl X x) (hm : ∃ t, X.mg x = some (.str i t)) (hd : (x == ("__debug__" : Str)) = false := by decide) : DE X B (.Name x pos) (dC (.str i)) := by
  obtain ⟨t, hm⟩ := hm
  exact de_const (pe_glob (v := .str i) hg hm ⟨t, rfl⟩ hd) fun _ _ => by simp [RepV]

/-! ### operators -/
abbrev DR2 := D → D → Mp → DK → Prop
def dOp (g : DR2) (ta tb : TD) : TD := fun ρ M Q => ta ρ M fun x M1 => tb ρ M1 fun y M2 => g x y M2 Q
/-- what is left: the answers of the heap -/
abbrev Back (X : Cx) (M : Mp) (H : Hp) (R : DK) (Q : VK) : Prop := ∀ d M' v H', R d M' → Keep M H M' H' → RepM X.K X.mg M' H' → RepV X.K X.mg M' H' d v → Q v H'
def OpC (X : Cx) (r : R2) (g : DR2) : Prop := ∀ M H d1 d2 v1 v2 (R : DK) (Q : VK), RepM X.K X.mg M H → RepV X.K X.mg M H d1 v1 → RepV X.K X.mg M H d2 v2 → g d1 d2 M R → Back X M H R Q → r v1 v2 H Q
theorem lft_op {r : R2} {g : DR2} {ta tb : TD} (hc : OpC X r g) {σ : L2.St} {H : Hp} {Q : VK} (h : lft X B (dOp g ta tb) σ H Q) : tOp r (lft X B ta) (lft X B tb) σ H Q := by
  obtain ⟨ρ, M, R, hh, h, q⟩ := h
  refine ⟨ρ, M, _, hh, h, fun d M1 v H1 h1 k1 m1 r1 => ?_⟩
  have hh1 := hh.step k1 m1
  refine ⟨ρ, M1, _, hh1, h1, fun d2 M2 v2 H2 h2 k2 m2 r2 => ?_⟩
  exact hc M2 H2 d d2 v v2 R Q m2 (RepV.keep k2 d v r1) r2 h2 fun d3 M3 v3 H3 h3 k3 m3 r3 => q d3 M3 v3 H3 h3 ((k1.trans k2).trans k3) m3 r3
theorem de_op {a b : Expr} {op : Operator} {r : R2} {g : DR2} {ta tb : TD} {pos : Pos} (ho : OpR X (binaryOp op) r) (hc : OpC X r g) (ha : DE X B a ta) (hb : DE X B b tb) : DE X B (.BinOp a op b pos) (dOp g ta tb) :=
  PE.imp (pe_op ho ha hb) fun _ _ _ h => lft_op hc h
theorem OpC.or {r r' : R2} {g : DR2} (h : ∀ M H d1 d2 v1 v2 (R : DK) (Q : VK), RepM X.K X.mg M H → RepV X.K X.mg M H d1 v1 → RepV X.K X.mg M H d2 v2 → g d1 d2 M R → Back X M H R Q → r v1 v2 H Q ∨ r' v1 v2 H Q) :
    OpC X (fun x y H Q => r x y H Q ∨ r' x y H Q) g := h

theorem rInt {M : Mp} {H : Hp} {K : PySem.W.Frag} {mg : Str → Option Value} {i : Int} : RepV K mg M H (.int i) (.int i) := by simp [RepV]
theorem rBl {M : Mp} {H : Hp} {K : PySem.W.Frag} {mg : Str → Option Value} {i : Bool} : RepV K mg M H (.bl i) (.bl i) := by simp [RepV]
theorem rStr {M : Mp} {H : Hp} {K : PySem.W.Frag} {mg : Str → Option Value} {i : Str} : RepV K mg M H (.str i) (.str i) := by simp [RepV]
theorem rNon {M : Mp} {H : Hp} {K : PySem.W.Frag} {mg : Str → Option Value} : RepV K mg M H .non .non := by simp [RepV]
/-- two ints -/
def gI (c : Int → Int → Prop) (f : Int → Int → D) : DR2 := fun x y M Q => match x, y with | .int i, .int j => c i j ∧ Q (f i j) M | _, _ => False
theorem opI {c c' : Int → Int → Prop} {f : Int → Int → V} {f' : Int → Int → D} (hc : ∀ i j, c' i j → c i j) (hf : ∀ i j M H, RepV X.K X.mg M H (f' i j) (f i j)) : OpC X (rI c f) (gI c' f') := by
  intro M H d1 d2 v1 v2 R Q m r1 r2 g q
  unfold gI at g
  split at g
  · rename_i i j
    unfold RepV at r1 r2
    exact ⟨i, j, r1, r2, hc i j g.1, q _ _ _ _ g.2 .rfl' m (hf i j M H)⟩
  · exact g.elim
theorem opI0 {f : Int → Int → V} {f' : Int → Int → D} (hf : ∀ i j M H, RepV X.K X.mg M H (f' i j) (f i j)) : OpC X (rI0 f) (gI (fun _ _ => True) f') := by
  intro M H d1 d2 v1 v2 R Q m r1 r2 g q
  unfold gI at g
  split at g
  · rename_i i j
    unfold RepV at r1 r2
    exact ⟨i, j, r1, r2, q _ _ _ _ g.2 .rfl' m (hf i j M H)⟩
  · exact g.elim
/-- a new object, an answer -/
theorem Back.new {M : Mp} {H : Hp} {R : DK} {Q : VK} (q : Back X M H R Q) (m : RepM X.K X.mg M H) {d : D} (h : R d M) {p : Addr} {o : HO} (n : H p = none)
    (r : RepV X.K X.mg M (upd H p o) d (.ref p)) : Q (.ref p) (upd H p o) := q _ _ _ _ h (Keep.new m n) (m.new n) r
theorem RepVs.new {K : PySem.W.Frag} {mg : Str → Option Value} {M : Mp} {H : Hp} (m : RepM K mg M H) {p : Addr} {o : HO} (n : H p = none) {ds : List D} {vs : List V} (h : RepVs K mg M H ds vs) : RepVs K mg M (upd H p o) ds vs := RepVs.keep (Keep.new m n) _ _ h

/-- a + b: ints, texts, tuples, lists -/
def gAdd : DR2 := fun x y M Q => match x, y with
  | .int i, .int j => Q (.int (i + j)) M
  | .str i, .str j => i.length + j.length ≤ sizeLine ∧ Q (.str (i ++ j)) M
  | .tup xs, .tup ys => xs.length + ys.length ≤ sizeLine ∧ Q (.tup (xs ++ ys)) M
  | x, y => match asL M x, asL M y with
    | some xs, some ys => xs.length + ys.length ≤ sizeLine ∧ Q (.lst (xs ++ ys)) M
    | _, _ => False
theorem tup_ne {ds : List D} {vs : List V} {K : PySem.W.Frag} {mg : Str → Option Value} {M : Mp} {H : Hp} (r : RepVs K mg M H ds vs) : vs = [] → ds = [] := fun e => by
  have := r.length
  subst e
  exact List.eq_nil_of_length_eq_zero this
theorem de_add {a b : Expr} {ta tb : TD} {pos : Pos} (ha : DE X B a ta) (hb : DE X B b tb) : DE X B (.BinOp a .Add b pos) (dOp gAdd ta tb) := by
  refine de_op (op_add.or (op_add_str.or (op_catA.or op_cat))) ?_ ha hb
  intro M H d1 d2 v1 v2 R Q m r1 r2 g q
  unfold gAdd at g
  split at g
  · rename_i i j
    unfold RepV at r1 r2
    exact .inl ⟨i, j, r1, r2, q _ _ _ _ g .rfl' m rInt⟩
  · rename_i i j
    unfold RepV at r1 r2
    exact .inr (.inl ⟨i, j, r1, r2, g.1, q _ _ _ _ g.2 .rfl' m rStr⟩)
  · rename_i xs ys
    have r1' := r1
    have r2' := r2
    unfold RepV at r1 r2
    obtain ⟨a, vs, rfl, na, ha, ra⟩ := r1
    obtain ⟨b, ws, rfl, nb, hb, rb⟩ := r2
    refine .inr (.inr (.inl ⟨a, b, vs, ws, rfl, rfl, SqT.of ha, SqT.of hb, by rw [← ra.length, ← rb.length]; exact g.1, fun e => ?_, fun _ e => ?_, fun _ _ p n => ?_⟩))
    · have e' := tup_ne ra e
      subst e'
      exact q _ _ _ _ g.2 .rfl' m (by simpa using r2')
    · have e' := tup_ne rb e
      subst e'
      exact q _ _ _ _ g.2 .rfl' m (by simpa using r1')
    · refine Back.new q m g.2 n ?_
      unfold RepV
      exact ⟨p, _, rfl, m.free n, upd_same, RepVs.new m n (ra.append rb)⟩
  · split at g
    · rename_i xs ys e1 e2
      obtain ⟨a, vs, rfl, ha, ra⟩ := asL_at e1 m r1
      obtain ⟨b, ws, rfl, hb, rb⟩ := asL_at e2 m r2
      refine .inr (.inr (.inr ⟨a, b, vs, ws, rfl, rfl, ha, hb, by rw [← ra.length, ← rb.length]; exact g.1, fun p n => ?_⟩))
      refine Back.new q m g.2 n ?_
      unfold RepV
      exact ⟨p, _, rfl, m.free n, upd_same, RepVs.new m n (ra.append rb)⟩
    · exact g.elim
theorem de_sub {a b : Expr} {ta tb : TD} {pos : Pos} (ha : DE X B a ta) (hb : DE X B b tb) : DE X B (.BinOp a .Sub b pos) (dOp (gI (fun _ _ => True) fun i j => .int (i - j)) ta tb) :=
  de_op op_sub (opI0 fun _ _ _ _ => rInt) ha hb
/-- the product is let: one factor below 2^64, or both far below a million bits -/
def mulOk (i j : Int) : Prop := CMul i j ∨ CMulW i j
theorem de_mul {a b : Expr} {ta tb : TD} {pos : Pos} (ha : DE X B a ta) (hb : DE X B b tb) : DE X B (.BinOp a .Mult b pos) (dOp (gI mulOk fun i j => .int (i * j)) ta tb) := by
  refine de_op (op_mul.or op_mulW) ?_ ha hb
  intro M H d1 d2 v1 v2 R Q m r1 r2 g q
  unfold gI at g
  split at g
  · rename_i i j
    unfold RepV at r1 r2
    rcases g.1 with c | c
    · exact .inl ⟨i, j, r1, r2, c, q _ _ _ _ g.2 .rfl' m rInt⟩
    · exact .inr ⟨i, j, r1, r2, c, q _ _ _ _ g.2 .rfl' m rInt⟩
  · exact g.elim
def divOk (i j : Int) : Prop := 0 < j ∧ (j < 1073741824 ∨ j.natAbs.log2 < 9000)
theorem de_div {a b : Expr} {ta tb : TD} {pos : Pos} (ha : DE X B a ta) (hb : DE X B b tb) : DE X B (.BinOp a .FloorDiv b pos) (dOp (gI divOk fun i j => .int (i / j)) ta tb) := by
  refine de_op (op_fdiv.or op_fdivW) ?_ ha hb
  intro M H d1 d2 v1 v2 R Q m r1 r2 g q
  unfold gI at g
  split at g
  · rename_i i j
    unfold RepV at r1 r2
    obtain ⟨⟨c0, c⟩, g⟩ := g
    rcases c with c | c
    · exact .inl ⟨i, j, r1, r2, ⟨c0, c⟩, q _ _ _ _ g .rfl' m rInt⟩
    · exact .inr ⟨i, j, r1, r2, ⟨c0, c⟩, q _ _ _ _ g .rfl' m rInt⟩
  · exact g.elim
theorem de_mod {a b : Expr} {ta tb : TD} {pos : Pos} (ha : DE X B a ta) (hb : DE X B b tb) : DE X B (.BinOp a .Mod b pos) (dOp (gI (fun _ j => 0 < j) fun i j => .int (i % j)) ta tb) :=
  de_op op_mod (opI (fun _ _ h => h) fun _ _ _ _ => rInt) ha hb
theorem de_pow {a b : Expr} {ta tb : TD} {pos : Pos} (ha : DE X B a ta) (hb : DE X B b tb) : DE X B (.BinOp a .Pow b pos) (dOp (gI CPow fun i j => .int (i ^ j.toNat)) ta tb) :=
  de_op op_pow (opI (fun _ _ h => h) fun _ _ _ _ => rInt) ha hb
def dNeg (ta : TD) : TD := fun ρ M Q => ta ρ M fun x M1 => match x with | .int i => Q (.int (-i)) M1 | _ => False
theorem de_neg {a : Expr} {ta : TD} {pos : Pos} (ha : DE X B a ta) : DE X B (.UnaryOp .USub a pos) (dNeg ta) := by
  refine PE.imp (pe_un un_neg ha) fun σ H Q h => ?_
  obtain ⟨ρ, M, R, hh, h, q⟩ := h
  refine ⟨ρ, M, _, hh, h, fun d M1 v H1 h1 k1 m1 r1 => ?_⟩
  split at h1
  · rename_i i
    unfold RepV at r1
    exact ⟨i, r1, q _ _ _ _ h1 k1 m1 rInt⟩
  · exact h1.elim

/-! ### comparisons -/
def gEq : DR2 := fun x y M Q => match x, y with
  | .str a, .str b => Q (.bl (decide (a = b))) M
  | .int a, .int b => Q (.bl (decide (a = b))) M
  | x, y => ((rsv M x).pl 12 = true ∧ (rsv M y).pl 12 = true) ∧ Q (.bl (D.eqv (rsv M x) (rsv M y))) M
def gNe : DR2 := fun x y M Q => match x, y with
  | .str a, .str b => Q (.bl (!decide (a = b))) M
  | .int a, .int b => Q (.bl (!decide (a = b))) M
  | x, y => ((rsv M x).pl 12 = true ∧ (rsv M y).pl 12 = true) ∧ Q (.bl (!D.eqv (rsv M x) (rsv M y))) M
theorem opc_eq : OpC X (fun x y H Q => rEq x y H Q ∨ rEqD X.K x y H Q) gEq := by
  intro M H d1 d2 v1 v2 R Q m r1 r2 g q
  unfold gEq at g
  split at g
  · rename_i a b
    unfold RepV at r1 r2
    subst r1 r2
    refine .inl ⟨rfl, q _ _ _ _ g .rfl' m ?_⟩
    have e : decide (V.str a = V.str b) = decide (a = b) := by simp
    rw [e]; exact rBl
  · rename_i a b
    unfold RepV at r1 r2
    subst r1 r2
    refine .inl ⟨rfl, q _ _ _ _ g .rfl' m ?_⟩
    have e : decide (V.int a = V.int b) = decide (a = b) := by simp
    rw [e]; exact rBl
  · exact .inr ⟨_, _, rsv_dp m r1 g.1.1, rsv_dp m r2 g.1.2, pl_shaped (by decide) g.1.1, pl_shaped (by decide) g.1.2, q _ _ _ _ g.2 .rfl' m rBl⟩
theorem opc_ne : OpC X (fun x y H Q => rNe x y H Q ∨ rNeD X.K x y H Q) gNe := by
  intro M H d1 d2 v1 v2 R Q m r1 r2 g q
  unfold gNe at g
  split at g
  · rename_i a b
    unfold RepV at r1 r2
    subst r1 r2
    refine .inl ⟨rfl, q _ _ _ _ g .rfl' m ?_⟩
    have e : decide (V.str a = V.str b) = decide (a = b) := by simp
    rw [e]; exact rBl
  · rename_i a b
    unfold RepV at r1 r2
    subst r1 r2
    refine .inl ⟨rfl, q _ _ _ _ g .rfl' m ?_⟩
    have e : decide (V.int a = V.int b) = decide (a = b) := by simp
    rw [e]; exact rBl
  · exact .inr ⟨_, _, rsv_dp m r1 g.1.1, rsv_dp m r2 g.1.2, pl_shaped (by decide) g.1.1, pl_shaped (by decide) g.1.2, q _ _ _ _ g.2 .rfl' m rBl⟩
def gT (f : Int → Int → Bool) : DR2 := gI (fun _ _ => True) fun i j => .bl (f i j)
/-- a rule for an operator of comparison -/
structure CmpD (X : Cx) (op : CmpOp) (g : DR2) : Prop where
  ex : ∃ r, OpR X (compareOp op) r ∧ OpC X r g
theorem cd_eq (hu : X.A.units + 64 < cLine) : CmpD X .Eq gEq := ⟨_, op_eq.or (op_eqD hu), opc_eq⟩
theorem cd_ne (hu : X.A.units + 64 < cLine) : CmpD X .NotEq gNe := ⟨_, op_ne.or (op_neD hu), opc_ne⟩
theorem cd_lt : CmpD X .Lt (gT fun i j => decide (i < j)) := ⟨_, op_lt, opI0 fun _ _ _ _ => rBl⟩
theorem cd_le : CmpD X .LtE (gT fun i j => decide (i ≤ j)) := ⟨_, op_le, opI0 fun _ _ _ _ => rBl⟩
theorem cd_gt : CmpD X .Gt (gT fun i j => decide (j < i)) := ⟨_, op_gt, opI0 fun _ _ _ _ => rBl⟩
theorem cd_ge : CmpD X .GtE (gT fun i j => decide (j ≤ i)) := ⟨_, op_ge, opI0 fun _ _ _ _ => rBl⟩
def D.isNon : D → Bool
  | .non => true
  | _ => false
theorem isNon_of {M : Mp} {H : Hp} {d : D} {v : V} {K : PySem.W.Frag} {mg : Str → Option Value} (r : RepV K mg M H d v) : decide (v = .non) = d.isNon := by
  cases d <;> unfold RepV at r <;> simp only [D.isNon]
  all_goals first
    | (subst r; simp)
    | (obtain ⟨_, _, rfl, _⟩ := r; simp)
    | (obtain ⟨_, rfl, _⟩ := r; simp)
    | (obtain ⟨_, _, _, _, rfl, _⟩ := r; simp)
def gIs : DR2 := fun x y M Q => match y with | .non => Q (.bl x.isNon) M | _ => False
def gIsNot : DR2 := fun x y M Q => match y with | .non => Q (.bl (!x.isNon)) M | _ => False
theorem cd_is : CmpD X .Is gIs := by
  refine ⟨_, op_isN, ?_⟩
  intro M H d1 d2 v1 v2 R Q m r1 r2 g q
  unfold gIs at g
  split at g
  · unfold RepV at r2
    exact ⟨r2, q _ _ _ _ g .rfl' m (by rw [isNon_of r1]; exact rBl)⟩
  · exact g.elim
theorem cd_isnot : CmpD X .IsNot gIsNot := by
  refine ⟨_, op_notN, ?_⟩
  intro M H d1 d2 v1 v2 R Q m r1 r2 g q
  unfold gIsNot at g
  split at g
  · unfold RepV at r2
    exact ⟨r2, q _ _ _ _ g .rfl' m (by rw [isNon_of r1]; exact rBl)⟩
  · exact g.elim
theorem de_cmp {a b : Expr} {op : CmpOp} {g : DR2} {ta tb : TD} {pos : Pos} (c : CmpD X op g) (ha : DE X B a ta) (hb : DE X B b tb) (hm : behindInMarks op b = false := by first | exact nomark _ | rfl) : DE X B (.Compare a [op] [b] pos) (dOp g ta tb) := by
  obtain ⟨r, ho, hc⟩ := c.ex
  exact PE.imp (pe_cmpR ho ha hb hm) fun _ _ _ h => lft_op hc h
/-- a bool -/
def D.onB : D → (Bool → Prop) → Prop
  | .bl b, k => k b
  | _, _ => False
def dB (t : TD) : TDb := fun ρ M Q => t ρ M fun d M' => d.onB fun b => Q b M'
theorem lft_B {t : TD} {σ : L2.St} {H : Hp} {Q : Bool → Hp → Prop} (h : lftT X B (dB t) σ H Q) : lft X B t σ H fun x H' => ∃ k, x = .bl k ∧ Q k H' := by
  obtain ⟨ρ, M, R, hh, h, q⟩ := h
  refine ⟨ρ, M, _, hh, h, fun d M1 v H1 h1 k1 m1 r1 => ?_⟩
  cases d with
  | bl b => unfold RepV at r1; exact ⟨b, r1, q _ _ _ h1 k1 m1⟩
  | _ => exact h1.elim
theorem dt_cmp {a b : Expr} {op : CmpOp} {g : DR2} {ta tb : TD} {pos : Pos} (c : CmpD X op g) (ha : DE X B a ta) (hb : DE X B b tb) (hm : behindInMarks op b = false := by first | exact nomark _ | rfl) : DT X B (.Compare a [op] [b] pos) (dB (dOp g ta tb)) := by
  obtain ⟨r, ho, hc⟩ := c.ex
  exact PT.imp (pt_cmpR ho ha hb hm) fun _ _ _ h => lft_op hc (lft_B h)
theorem dt_val {e : Expr} {t : TD} (h : DE X B e t) (he : ∀ whole, isTrue e X.env whole = (do let v ← whole; standAt e.pos; holding [v] (truthy v)) := by intro _; rfl) : DT X B e (dB t) :=
  PT.imp (pt_val h he) fun _ _ _ h => lft_B h
/-- a op1 b op2 c -/
def dChain (g g' : DR2) (ta tb tc : TD) : TD := fun ρ M Q => ta ρ M fun x M1 => tb ρ M1 fun y M2 => g x y M2 fun z M3 => z.onB fun k => (k = true → tc ρ M3 fun w M4 => g' y w M4 Q) ∧ (k = false → Q (.bl false) M3)
theorem lft_chain {r r' : R2} {g g' : DR2} {ta tb tc : TD} (hc : OpC X r g) (hc' : OpC X r' g') {σ : L2.St} {H : Hp} {Q : VK} (h : lft X B (dChain g g' ta tb tc) σ H Q) : tChain r r' (lft X B ta) (lft X B tb) (lft X B tc) σ H Q := by
  obtain ⟨ρ, M, R, hh, h, q⟩ := h
  refine ⟨ρ, M, _, hh, h, fun d M1 v H1 h1 k1 m1 r1 => ?_⟩
  have hh1 := hh.step k1 m1
  refine ⟨ρ, M1, _, hh1, h1, fun d2 M2 v2 H2 h2 k2 m2 r2 => ?_⟩
  have r1' := RepV.keep k2 d v r1
  refine hc M2 H2 d d2 v v2 _ _ m2 r1' r2 h2 fun d3 M3 v3 H3 h3 k3 m3 r3 => ?_
  cases d3 with
  | bl b =>
    unfold RepV at r3
    refine ⟨b, r3, ?_⟩
    cases b with
    | true =>
      rw [if_pos rfl]
      have hh3 := (hh1.step k2 m2).step k3 m3
      refine ⟨ρ, M3, _, hh3, h3.1 rfl, fun d4 M4 v4 H4 h4 k4 m4 r4 => ?_⟩
      exact hc' M4 H4 d2 d4 v2 v4 R Q m4 (RepV.keep (k3.trans k4) d2 v2 r2) r4 h4 fun d5 M5 v5 H5 h5 k5 m5 r5 => q d5 M5 v5 H5 h5 ((((k1.trans k2).trans k3).trans k4).trans k5) m5 r5
    | false =>
      rw [if_neg Bool.false_ne_true]
      exact q _ _ _ _ (h3.2 rfl) ((k1.trans k2).trans k3) m3 rBl
  | _ => exact h3.elim
theorem de_chain {a b c : Expr} {op op' : CmpOp} {g g' : DR2} {ta tb tc : TD} {pos : Pos} (c1 : CmpD X op g) (c2 : CmpD X op' g') (ha : DE X B a ta) (hb : DE X B b tb) (hcc : DE X B c tc)
    (hm : lastMarks [op, op'] [b, c] = false := by with_unfolding_all rfl) : DE X B (.Compare a [op, op'] [b, c] pos) (dChain g g' ta tb tc) := by
  obtain ⟨r, ho, hc⟩ := c1.ex
  obtain ⟨r', ho', hc'⟩ := c2.ex
  exact PE.imp (pe_chain ho ho' ha hb hcc hm) fun _ _ _ h => lft_chain hc hc' h
theorem dt_chain {a b c : Expr} {op op' : CmpOp} {g g' : DR2} {ta tb tc : TD} {pos : Pos} (c1 : CmpD X op g) (c2 : CmpD X op' g') (ha : DE X B a ta) (hb : DE X B b tb) (hcc : DE X B c tc)
    (hm : lastMarks [op, op'] [b, c] = false := by with_unfolding_all rfl) : DT X B (.Compare a [op, op'] [b, c] pos) (dB (dChain g g' ta tb tc)) := by
  obtain ⟨r, ho, hc⟩ := c1.ex
  obtain ⟨r', ho', hc'⟩ := c2.ex
  exact PT.imp (pt_chain ho ho' ha hb hcc hm) fun _ _ _ h => lft_chain hc hc' (lft_B h)
/-! ### and, or, not -/
def dAnd (t u : TDb) : TDb := fun ρ M Q => t ρ M fun b M1 => (b = true → u ρ M1 Q) ∧ (b = false → Q false M1)
def dOr (t u : TDb) : TDb := fun ρ M Q => t ρ M fun b M1 => (b = true → Q true M1) ∧ (b = false → u ρ M1 Q)
def dNot (t : TDb) : TDb := fun ρ M Q => t ρ M fun b M1 => Q (!b) M1
theorem dw_and1 {a : Expr} {t : TDb} {pos : Pos} (h : DT X B a t) : DW X B (.BoolOp .And [a] pos) t := pw_and1 h
theorem dw_or1 {a : Expr} {t : TDb} {pos : Pos} (h : DT X B a t) : DW X B (.BoolOp .Or [a] pos) t := pw_or1 h
theorem dw_and {a b : Expr} {rest : List Expr} {t u : TDb} {pos : Pos} (ha : DT X B a t) (hb : DW X B (.BoolOp .And (b :: rest) pos) u) : DW X B (.BoolOp .And (a :: b :: rest) pos) (dAnd t u) := by
  refine PW.imp (pw_and ha hb) fun σ H Q h => ?_
  obtain ⟨ρ, M, R, hh, h, q⟩ := h
  refine ⟨ρ, M, _, hh, h, fun b M1 H1 h1 k1 m1 => ?_⟩
  cases b with
  | true =>
    rw [if_pos rfl]
    exact ⟨ρ, M1, R, hh.step k1 m1, h1.1 rfl, fun b M2 H2 h2 k2 m2 => q b M2 H2 h2 (k1.trans k2) m2⟩
  | false =>
    rw [if_neg Bool.false_ne_true]
    exact q _ _ _ (h1.2 rfl) k1 m1
theorem dw_or {a b : Expr} {rest : List Expr} {t u : TDb} {pos : Pos} (ha : DT X B a t) (hb : DW X B (.BoolOp .Or (b :: rest) pos) u) : DW X B (.BoolOp .Or (a :: b :: rest) pos) (dOr t u) := by
  refine PW.imp (pw_or ha hb) fun σ H Q h => ?_
  obtain ⟨ρ, M, R, hh, h, q⟩ := h
  refine ⟨ρ, M, _, hh, h, fun b M1 H1 h1 k1 m1 => ?_⟩
  cases b with
  | true =>
    rw [if_pos rfl]
    exact q _ _ _ (h1.1 rfl) k1 m1
  | false =>
    rw [if_neg Bool.false_ne_true]
    exact ⟨ρ, M1, R, hh.step k1 m1, h1.2 rfl, fun b M2 H2 h2 k2 m2 => q b M2 H2 h2 (k1.trans k2) m2⟩
theorem dw {e : Expr} {t : TDb} (h : DW X B e t) : DT X B e t := PW.pt h
theorem dt_not {a : Expr} {t : TDb} {pos : Pos} (h : DT X B a t) : DT X B (.UnaryOp .Not a pos) (dNot t) := by
  refine PT.imp (pt_not h) fun σ H Q h => ?_
  obtain ⟨ρ, M, R, hh, h, q⟩ := h
  exact ⟨ρ, M, _, hh, h, fun b M1 H1 h1 k1 m1 => q _ _ _ h1 k1 m1⟩
def dAndV (t u : TD) : TD := fun ρ M Q => t ρ M fun d M1 => d.onB fun b => (b = true → u ρ M1 Q) ∧ (b = false → Q (.bl false) M1)
def dOrV (t u : TD) : TD := fun ρ M Q => t ρ M fun d M1 => d.onB fun b => (b = true → Q (.bl true) M1) ∧ (b = false → u ρ M1 Q)
def dNotV (t : TD) : TD := fun ρ M Q => t ρ M fun d M1 => d.onB fun b => Q (.bl (!b)) M1
theorem de_one {op} {a : Expr} {t : TD} {pos : Pos} (h : DE X B a t) : DE X B (.BoolOp op [a] pos) t := pe_one h
theorem de_and {a b : Expr} {rest : List Expr} {t u : TD} {pos : Pos} (ha : DE X B a t) (hb : DE X B (.BoolOp .And (b :: rest) pos) u) : DE X B (.BoolOp .And (a :: b :: rest) pos) (dAndV t u) := by
  refine PE.imp (pe_and ha hb) fun σ H Q h => ?_
  obtain ⟨ρ, M, R, hh, h, q⟩ := h
  refine ⟨ρ, M, _, hh, h, fun d M1 v H1 h1 k1 m1 r1 => ?_⟩
  cases d with
  | bl b =>
    unfold RepV at r1
    refine ⟨b, r1, ?_⟩
    cases b with
    | true =>
      rw [if_pos rfl]
      exact ⟨ρ, M1, R, hh.step k1 m1, h1.1 rfl, fun b M2 v2 H2 h2 k2 m2 r2 => q b M2 v2 H2 h2 (k1.trans k2) m2 r2⟩
    | false =>
      rw [if_neg Bool.false_ne_true]
      exact q _ _ _ _ (h1.2 rfl) k1 m1 rBl
  | _ => exact h1.elim
theorem de_or {a b : Expr} {rest : List Expr} {t u : TD} {pos : Pos} (ha : DE X B a t) (hb : DE X B (.BoolOp .Or (b :: rest) pos) u) : DE X B (.BoolOp .Or (a :: b :: rest) pos) (dOrV t u) := by
  refine PE.imp (pe_or ha hb) fun σ H Q h => ?_
  obtain ⟨ρ, M, R, hh, h, q⟩ := h
  refine ⟨ρ, M, _, hh, h, fun d M1 v H1 h1 k1 m1 r1 => ?_⟩
  cases d with
  | bl b =>
    unfold RepV at r1
    refine ⟨b, r1, ?_⟩
    cases b with
    | true =>
      rw [if_pos rfl]
      exact q _ _ _ _ (h1.1 rfl) k1 m1 rBl
    | false =>
      rw [if_neg Bool.false_ne_true]
      exact ⟨ρ, M1, R, hh.step k1 m1, h1.2 rfl, fun b M2 v2 H2 h2 k2 m2 r2 => q b M2 v2 H2 h2 (k1.trans k2) m2 r2⟩
  | _ => exact h1.elim
theorem de_not {a : Expr} {t : TD} {pos : Pos} (ha : DE X B a t) : DE X B (.UnaryOp .Not a pos) (dNotV t) := by
  refine PE.imp (pe_not ha) fun σ H Q h => ?_
  obtain ⟨ρ, M, R, hh, h, q⟩ := h
  refine ⟨ρ, M, _, hh, h, fun d M1 v H1 h1 k1 m1 r1 => ?_⟩
  cases d with
  | bl b => unfold RepV at r1; exact ⟨b, r1, q _ _ _ _ h1 k1 m1 rBl⟩
  | _ => exact h1.elim
def dIf (t : TDb) (ta tb : TD) : TD := fun ρ M Q => t ρ M fun b M1 => (b = true → ta ρ M1 Q) ∧ (b = false → tb ρ M1 Q)
theorem de_if {c a b : Expr} {t : TDb} {ta tb : TD} {pos : Pos} (hc : DT X B c t) (ha : DE X B a ta) (hb : DE X B b tb) : DE X B (.IfExp c a b pos) (dIf t ta tb) := by
  refine PE.imp (pe_ifExp hc ha hb) fun σ H Q h => ?_
  obtain ⟨ρ, M, R, hh, h, q⟩ := h
  refine ⟨ρ, M, _, hh, h, fun b M1 H1 h1 k1 m1 => ?_⟩
  cases b with
  | true =>
    rw [if_pos rfl]
    exact ⟨ρ, M1, R, hh.step k1 m1, h1.1 rfl, fun b M2 v2 H2 h2 k2 m2 r2 => q b M2 v2 H2 h2 (k1.trans k2) m2 r2⟩
  | false =>
    rw [if_neg Bool.false_ne_true]
    exact ⟨ρ, M1, R, hh.step k1 m1, h1.2 rfl, fun b M2 v2 H2 h2 k2 m2 r2 => q b M2 v2 H2 h2 (k1.trans k2) m2 r2⟩

/-! ### argument lists, displays -/
def dNil : TDs := fun _ M Q => Q [] M
def dCons (ta : TD) (tr : TDs) : TDs := fun ρ M Q => ta ρ M fun x M1 => tr ρ M1 fun xs M2 => Q (x :: xs) M2
theorem da_nil : DA X B [] dNil := PA.imp pa_nil fun σ H Q ⟨ρ, M, R, hh, h, q⟩ => q [] M [] H h .rfl' hh.m .nil
theorem da_cons {e : Expr} {es : List Expr} {te : TD} {t : TDs} (ha : DE X B e te) (hr : DA X B es t) (hs : starEach (e :: es) X.env = (false, eval e X.env) :: starEach es X.env := by rfl) : DA X B (e :: es) (dCons te t) := by
  refine PA.imp (pa_cons ha hr hs) fun σ H Q h => ?_
  obtain ⟨ρ, M, R, hh, h, q⟩ := h
  refine ⟨ρ, M, _, hh, h, fun d M1 v H1 h1 k1 m1 r1 => ?_⟩
  refine ⟨ρ, M1, _, hh.step k1 m1, h1, fun ds M2 vs H2 h2 k2 m2 r2 => ?_⟩
  exact q (d :: ds) M2 (v :: vs) H2 h2 (k1.trans k2) m2 (.cons (RepV.keep k2 d v r1) r2)
def dTup (t : TDs) : TD := fun ρ M Q => t ρ M fun xs M1 => xs.length ≤ sizeLine ∧ Q (.tup xs) M1
def dLst (t : TDs) : TD := fun ρ M Q => t ρ M fun xs M1 => xs.length ≤ sizeLine ∧ Q (.lst xs) M1
/-- a list that will change -/
def dLstM (t : TDs) : TD := fun ρ M Q => t ρ M fun xs M1 => xs.length ≤ sizeLine ∧ ∀ p, M1 p = none → Q (.ref p) (um M1 p (.lst xs))
theorem de_tup {es : List Expr} {t : TDs} {x1 pos} (h : DA X B es t) : DE X B (.Tuple es x1 pos) (dTup t) := by
  refine PE.imp (pe_tup h) fun σ H Q h => ?_
  obtain ⟨ρ, M, R, hh, h, q⟩ := h
  refine ⟨ρ, M, _, hh, h, fun ds M1 vs H1 h1 k1 m1 r1 => ⟨by rw [← r1.length]; exact h1.1, fun p n => ?_⟩⟩
  refine q _ _ _ _ h1.2 (k1.trans (Keep.new m1 n)) (m1.new n) ?_
  unfold RepV
  exact ⟨p, vs, rfl, m1.free n, upd_same, RepVs.new m1 n r1⟩
theorem de_lst {es : List Expr} {t : TDs} {x1 : Pos} (h : DA X B es t) : DE X B (.List es x1) (dLst t) := by
  refine PE.imp (pe_lst h) fun σ H Q h => ?_
  obtain ⟨ρ, M, R, hh, h, q⟩ := h
  refine ⟨ρ, M, _, hh, h, fun ds M1 vs H1 h1 k1 m1 r1 => ⟨by rw [← r1.length]; exact h1.1, fun p n => ?_⟩⟩
  refine q _ _ _ _ h1.2 (k1.trans (Keep.new m1 n)) (m1.new n) ?_
  unfold RepV
  exact ⟨p, vs, rfl, m1.free n, upd_same, RepVs.new m1 n r1⟩
theorem de_lstM {es : List Expr} {t : TDs} {x1 : Pos} (h : DA X B es t) : DE X B (.List es x1) (dLstM t) := by
  refine PE.imp (pe_lst h) fun σ H Q h => ?_
  obtain ⟨ρ, M, R, hh, h, q⟩ := h
  refine ⟨ρ, M, _, hh, h, fun ds M1 vs H1 h1 k1 m1 r1 => ⟨by rw [← r1.length]; exact h1.1, fun p n => ?_⟩⟩
  have k2 : Keep M1 H1 (um M1 p (.lst ds)) (upd H1 p (.lst vs)) := Keep.newM m1 n
  exact q _ _ _ _ (h1.2 p (m1.free n)) (k1.trans k2) (m1.newM n ⟨vs, upd_same, RepVs.keep k2 _ _ r1⟩) (by unfold RepV; rfl)
/-! ### subscripts -/
def gIx : DR2 := fun x y M Q => match x, y with
  | .tup xs, .int i => match atI xs i with
    | some d => Q d M
    | none => False
  | .scr ns, .int i => match atI ns i with
    | some d => Q (.int d) M
    | none => False
  | .str z, .int i => z.length ≤ sizeLine ∧ (match atI z.cps.toList i with
    | some c => Q (.str ⟨#[c]⟩) M
    | none => False)
  | x, .int i => match asL M x with
    | some xs => (match atI xs i with
      | some d => Q d M
      | none => False)
    | none => False
  | _, _ => False
theorem atI_rep {K : PySem.W.Frag} {mg : Str → Option Value} {M : Mp} {H : Hp} {ds : List D} {vs : List V} {i : Int} {d : D} (r : RepVs K mg M H ds vs) (h : atI ds i = some d) : ∃ v, atI vs i = some v ∧ RepV K mg M H d v := by
  unfold atI at h ⊢
  rw [← r.length]
  cases e : ixN ds.length i with
  | none => rw [e] at h; simp at h
  | some j =>
    rw [e] at h
    exact r.get (i := j) (by simpa using h)
theorem atI_map {α β : Type} (f : α → β) (xs : List α) (i : Int) : atI (xs.map f) i = (atI xs i).map f := by
  unfold atI
  rw [List.length_map]
  cases ixN xs.length i <;> simp
theorem opc_ix : OpC X (rIx X.K) gIx := by
  intro M H d1 d2 v1 v2 R Q m r1 r2 g q
  unfold gIx at g
  split at g
  · rename_i xs i
    unfold RepV at r1 r2
    obtain ⟨a, vs, rfl, na, ha, ra⟩ := r1
    split at g
    · rename_i d e
      obtain ⟨v, e1, rv⟩ := atI_rep ra e
      exact .inr (.inl ⟨a, vs, i, v, rfl, r2, SqT.of ha, e1, q _ _ _ _ g .rfl' m rv⟩)
    · exact g.elim
  · rename_i ns i
    obtain ⟨a, rfl, ha⟩ := scr_at r1
    unfold RepV at r2
    split at g
    · rename_i d e
      exact .inl ⟨a, _, i, .int d, rfl, r2, ha, by rw [atI_map, e]; rfl, q _ _ _ _ g .rfl' m rInt⟩
    · exact g.elim
  · rename_i z i
    unfold RepV at r1 r2
    obtain ⟨g0, g⟩ := g
    split at g
    · rename_i c e
      exact .inr (.inr ⟨z, i, c, r1, r2, g0, e, q _ _ _ _ g .rfl' m rStr⟩)
    · exact g.elim
  · rename_i i _ _ _
    unfold RepV at r2
    split at g
    · rename_i xs e0
      obtain ⟨a, vs, rfl, ha, ra⟩ := asL_at e0 m r1
      split at g
      · rename_i d e
        obtain ⟨v, e1, rv⟩ := atI_rep ra e
        exact .inl ⟨a, vs, i, v, rfl, r2, SqL.of ha, e1, q _ _ _ _ g .rfl' m rv⟩
      · exact g.elim
    · exact g.elim
  · exact g.elim
theorem de_ix {a b : Expr} {ta tb : TD} {pos : Pos} (ha : DE X B a ta) (hb : DE X B b tb) (hs : PlainIx b := by exact fun _ _ => rfl) : DE X B (.Subscript a b pos) (dOp gIx ta tb) :=
  PE.imp (pe_ix ix_seq ha hb hs) fun _ _ _ h => lft_op opc_ix h
abbrev TDo := Rho → Mp → (Option Int → Mp → Prop) → Prop
def dNoPart : TDo := fun _ M Q => Q none M
def dPart (t : TD) : TDo := fun ρ M Q => t ρ M fun d M1 => match d with | .int i => Q (some i) M1 | _ => False
def lftO (X : Cx) (B : At) (t : TDo) : TO := fun σ H Q => ∃ ρ M R, Here X B ρ σ M H ∧ t ρ M R ∧ ∀ b M' H', R b M' → Keep M H M' H' → RepM X.K X.mg M' H' → Q b H'
def DO (X : Cx) (B : At) (e : Option Expr) (t : TDo) : Prop := PO X e (lftO X B t)
theorem PO.imp {e : Option Expr} {t u : TO} (h : PO X e t) (q : ∀ σ H Q, u σ H Q → t σ H Q) : PO X e u := ⟨fun pins s σ H Q I z => h.run pins s σ H Q I (q _ _ _ z)⟩
theorem do_none : DO X B none dNoPart := PO.imp po_none fun σ H Q ⟨ρ, M, R, hh, h, q⟩ => q _ _ _ h .rfl' hh.m
theorem do_some {e : Expr} {t : TD} (h : DE X B e t) : DO X B (some e) (dPart t) := by
  refine PO.imp (po_some h) fun σ H Q h => ?_
  obtain ⟨ρ, M, R, hh, h, q⟩ := h
  refine ⟨ρ, M, _, hh, h, fun d M1 v H1 h1 k1 m1 r1 => ?_⟩
  split at h1
  · rename_i i
    unfold RepV at r1
    exact ⟨i, r1, q _ _ _ h1 k1 m1⟩
  · exact h1.elim
def dSl (te : TD) (tl th : TDo) : TD := fun ρ M Q => te ρ M fun x M1 => tl ρ M1 fun l M2 => th ρ M2 fun u M3 => match x with
  | .tup xs => Q (.tup (cutL xs l u)) M3
  | .scr ns => Q (.lst ((cutL ns l u).map D.int)) M3
  | x => match asL M3 x with
    | some xs => Q (.lst (cutL xs l u)) M3
    | none => False
theorem cutL_map {α β : Type} (f : α → β) (xs : List α) (l u : Option Int) : cutL (xs.map f) l u = (cutL xs l u).map f := by
  unfold cutL
  rw [List.length_map, List.map_take, List.map_drop]
theorem cutV_eq (xs : List V) (l u : Option Int) : cutV xs l u = cutL xs l u := rfl
theorem cutL_whole {α : Type} (xs : List α) (l u : Option Int) (h : HT.sIx xs.length 0 l = 0 ∧ HT.sIx xs.length xs.length u = xs.length) : cutL xs l u = xs := by
  unfold cutL
  rw [h.1, h.2]
  simp
theorem de_slice {e : Expr} {lo hi : Option Expr} {te : TD} {tl th : TDo} {p2 pos : Pos} (he : DE X B e te) (hl : DO X B lo tl) (hu : DO X B hi th) : DE X B (.Subscript e (.Slice lo hi none p2) pos) (dSl te tl th) := by
  refine PE.imp (pe_slice (sl_tupA.or sl_list) he hl hu) fun σ H Q h => ?_
  obtain ⟨ρ, M, R, hh, h, q⟩ := h
  refine ⟨ρ, M, _, hh, h, fun d M1 v H1 h1 k1 m1 r1 => ?_⟩
  refine ⟨ρ, M1, _, hh.step k1 m1, h1, fun l M2 H2 h2 k2 m2 => ?_⟩
  refine ⟨ρ, M2, _, (hh.step k1 m1).step k2 m2, h2, fun u M3 H3 h3 k3 m3 => ?_⟩
  have r := RepV.keep (k2.trans k3) d v r1
  have kk := (k1.trans k2).trans k3
  split at h3
  · rename_i xs
    have r' := r
    unfold RepV at r
    obtain ⟨a, vs, rfl, na, ha, ra⟩ := r
    refine .inl ⟨a, vs, rfl, SqT.of ha, fun w => ?_, fun _ p n => ?_⟩
    · have w' : HT.sIx xs.length 0 l = 0 ∧ HT.sIx xs.length xs.length u = xs.length := by rw [ra.length]; exact w
      exact q _ _ _ _ h3 kk m3 (by rw [cutL_whole xs l u w']; exact r')
    · refine q _ _ _ _ h3 (kk.trans (Keep.new m3 n)) (m3.new n) ?_
      unfold RepV
      exact ⟨p, _, rfl, m3.free n, upd_same, RepVs.new m3 n (ra.cut l u)⟩
  · rename_i ns
    obtain ⟨a, rfl, ha⟩ := scr_at r
    refine .inr ⟨a, _, rfl, ha, fun p n => ?_⟩
    refine q _ _ _ _ h3 (kk.trans (Keep.new m3 n)) (m3.new n) ?_
    unfold RepV
    exact ⟨p, _, rfl, m3.free n, upd_same, by rw [cutV_eq, cutL_map]; exact RepVs.ints _⟩
  · split at h3
    · rename_i xs e0
      obtain ⟨a, vs, rfl, ha, ra⟩ := asL_at e0 m3 r
      refine .inr ⟨a, _, rfl, SqL.of ha, fun p n => ?_⟩
      refine q _ _ _ _ h3 (kk.trans (Keep.new m3 n)) (m3.new n) ?_
      unfold RepV
      exact ⟨p, _, rfl, m3.free n, upd_same, RepVs.new m3 n (ra.cut l u)⟩
    · exact h3.elim
end
end DL
/-! The D layer, part d: statements, loops. -/
namespace DL
open PySem PySem.Spec L2

/-- for less that is told -/
def Wk (P : Mp → Prop) (M : Mp) : Prop := ∃ M0, MLe M0 M ∧ P M0
theorem Wk.of {P : Mp → Prop} {M : Mp} (h : P M) : Wk P M := ⟨M, .rfl', h⟩

section
variable {X : Cx} {B : At}
/-! ### blocks -/
def dNext : TDS := fun E ρ M => E.nx ρ M
def dSeq (t u : TDS) : TDS := fun E ρ M => t { E with nx := u E } ρ M
theorem dss_nil : DSs X B [] dNext := PSs.imp pss_nil fun D σ H ⟨C, ρ, M, E, kb, hh, le, h⟩ => le.nx _ _ _ _ hh h
theorem dss_cons {s : Stmt} {ss : List Stmt} {t u : TDS} (h1 : DS X B s t) (h2 : DSs X B ss u) : DSs X B (s :: ss) (dSeq t u) :=
  PSs.imp (pss_cons h1 h2) fun D σ H ⟨C, ρ, M, E, kb, hh, le, h⟩ =>
    ⟨C, ρ, M, { E with nx := u E }, kb, hh, ⟨fun ρ' σ' M' H' h' q => ⟨C, ρ', M', E, kb, h', le, q⟩, le.bk, le.ct, le.rt⟩, h⟩
theorem dss_one {s : Stmt} {t : TDS} (h1 : DS X B s t) : DSs X B [s] t := pss_one h1
theorem ds_pass {pos : Pos} : DS X B (.Pass pos) dNext := PS.imp ps_pass fun D σ H ⟨C, ρ, M, E, kb, hh, le, h⟩ => le.nx _ _ _ _ hh h
def dBreak : TDS := fun E ρ M => E.bk ρ M
def dCont : TDS := fun E ρ M => E.ct ρ M
theorem ds_break {pos : Pos} : DS X B (.Break pos) dBreak := PS.imp ps_break fun D σ H ⟨C, ρ, M, E, kb, hh, le, h⟩ => le.bk _ _ _ _ hh h
theorem ds_cont {pos : Pos} : DS X B (.Continue pos) dCont := PS.imp ps_continue fun D σ H ⟨C, ρ, M, E, kb, hh, le, h⟩ => le.ct _ _ _ _ hh h
def dNever : TDS := fun _ _ _ => False
theorem ds_never {s : Stmt} : DS X B s dNever := PS.imp ps_never fun D σ H ⟨_, _, _, _, _, _, _, h⟩ => h
def dDrop (t : TD) : TDS := fun E ρ M => t ρ M fun _ M1 => E.nx ρ M1
theorem ds_expr {e : Expr} {t : TD} {pos : Pos} (h : DE X B e t) (hs : swapsWith e none pos.line X.env = pure false := by rfl) : DS X B (.Expr e pos) (dDrop t) :=
  PS.imp (ps_expr h hs) fun D σ H ⟨C, ρ, M, E, kb, hh, le, h⟩ => ⟨ρ, M, _, hh.base kb, h, fun d M1 v H1 h1 k1 m1 _ => le.nx _ _ _ _ (hh.step k1 m1) h1⟩
def dRet (t : TD) : TDS := fun E ρ M => t ρ M E.rt
theorem ds_ret {e : Expr} {t : TD} {pos : Pos} (h : DE X B e t) : DS X B (.Return (some e) pos) (dRet t) :=
  PS.imp (ps_ret h) fun D σ H ⟨C, ρ, M, E, kb, hh, le, h⟩ => ⟨ρ, M, _, hh.base kb, h, fun d M1 v H1 h1 k1 m1 r1 => le.rt _ _ _ _ (hh.k.trans k1) m1 r1 h1⟩
def dRetN : TDS := fun E _ M => E.rt .non M
theorem ds_retN {pos : Pos} : DS X B (.Return none pos) dRetN := PS.imp ps_retN fun D σ H ⟨C, ρ, M, E, kb, hh, le, h⟩ => le.rt _ _ _ _ hh.k hh.m rNon h
def dIfS (c : TDb) (t u : TDS) : TDS := fun E ρ M => c ρ M fun b M1 => (b = true → t E ρ M1) ∧ (b = false → u E ρ M1)
theorem ds_if {c : Expr} {a b : List Stmt} {tc : TDb} {t u : TDS} {pos : Pos} (hc : DT X B c tc) (ha : DSs X B a t) (hb : DSs X B b u) : DS X B (.If c a b pos) (dIfS tc t u) := by
  refine PS.imp (ps_if hc ha hb) fun D σ H h => ?_
  obtain ⟨C, ρ, M, E, kb, hh, le, h⟩ := h
  refine ⟨ρ, M, _, hh.base kb, h, fun b M1 H1 h1 k1 m1 => ?_⟩
  cases b with
  | true => exact iteT ⟨C, ρ, M1, E, kb, hh.step k1 m1, le, h1.1 rfl⟩
  | false => exact iteF ⟨C, ρ, M1, E, kb, hh.step k1 m1, le, h1.2 rfl⟩
/-- a list that changed no more: the name in slot i holds it as it is -/
def dSettle (i : Nat) (t : TDS) : TDS := fun E ρ M => match ρ[i]? with
  | some (some (.ref a)) => (match M a with
    | some (.lst ds) => t E (ρ.set i (some (.lst ds))) (dm M a)
    | _ => False)
  | _ => False
theorem dm_le {M : Mp} {a : Addr} : MLe (dm M a) M := fun b o e => by
  by_cases q : b = a
  · subst q; rw [dm_same] at e; cases e
  · rw [dm_ne q] at e; exact e
theorem dss_settle {ss : List Stmt} {t : TDS} (i : Nat) (h : DSs X B ss t) : DSs X B ss (dSettle i t) := by
  refine PSs.imp h fun D σ H h => ?_
  obtain ⟨C, ρ, M, E, kb, hh, le, h⟩ := h
  unfold dSettle at h
  split at h
  · rename_i a e
    cases q : M a with
    | none => rw [q] at h; exact h.elim
    | some o =>
      rw [q] at h
      cases o with
      | ins c fs => exact h.elim
      | lst ds =>
        have h : t E (ρ.set i (some (.lst ds))) (dm M a) := h
        have hl : Here X C ρ σ (dm M a) H := hh.less dm_le
        obtain ⟨vs, ha, ra⟩ := hh.m a _ q
        refine ⟨C, _, _, E, kb, ⟨⟨by simp [hl.s.1], fun j d hj => ?_⟩, hl.m, hl.k⟩, le, h⟩
        by_cases z : i = j
        · subst z
          obtain ⟨v, e1, r1⟩ := hh.s.2 i _ e
          unfold RepV at r1
          subst r1
          have hlt : i < ρ.length := by
            have := List.getElem?_eq_some_iff.mp e
            exact this.1
          rw [List.getElem?_set_self hlt] at hj
          cases hj
          refine ⟨_, e1, ?_⟩
          unfold RepV
          exact ⟨a, vs, rfl, by simp, ha, RepVs.keep (Keep.rfl'.less dm_le) _ _ ra⟩
        · rw [List.getElem?_set_ne z] at hj
          exact hl.s.2 j d hj
  · exact h.elim

/-! ### targets, stores -/
def dgName (i : Nat) : TDG := fun d ρ M Q => Q (ρ.set i (some d)) M
theorem dg_name {i : Nat} {x : Str} {pos : Pos} (hN : X.N.Nodup) (hi : X.N[i]? = some x) (hx : Loc X.env.scope x) (hf : X.fn x = true ∨ X.env.scope.names.lookup x = some .local := by first | exact .inl rfl | exact .inr rfl | assumption) : DG X B (.Name x pos) (dgName i) := by
  refine PG.imp (pg_name hN hi hx hf) fun v σ H Q h => ?_
  obtain ⟨ρ, M, d, R, hh, r, h, q⟩ := h
  exact q _ _ _ _ h .rfl' (hh.set r)
def dgNil : TDGs := fun ds ρ M Q => match ds with | [] => Q ρ M | _ => False
def dgCons (t : TDG) (u : TDGs) : TDGs := fun ds ρ M Q => match ds with | d :: r => t d ρ M fun ρ' M' => u r ρ' M' Q | [] => False
theorem dgs_nil : DGs X B [] dgNil := by
  refine PGs.imp pgs_nil fun vs σ H Q h => ?_
  obtain ⟨ρ, M, ds, R, hh, r, h, q⟩ := h
  cases ds with
  | nil => unfold RepVs at r; exact ⟨r, q _ _ _ _ h .rfl' hh⟩
  | cons => exact h.elim
theorem dgs_cons {e : Expr} {es : List Expr} {t : TDG} {u : TDGs} (h1 : DG X B e t) (h2 : DGs X B es u)
    (hs : (assignEach (e :: es) X.env).map (·.2) = assign e X.env :: (assignEach es X.env).map (·.2) := by rfl) : DGs X B (e :: es) (dgCons t u) := by
  refine PGs.imp (pgs_cons h1 h2 hs) fun vs σ H Q h => ?_
  obtain ⟨ρ, M, ds, R, hh, r, h, q⟩ := h
  cases ds with
  | nil => exact h.elim
  | cons d ds =>
    unfold RepVs at r
    obtain ⟨v, vr, rfl, rv, rs⟩ := r
    refine ⟨v, vr, rfl, ρ, M, d, _, hh, rv, h, fun ρ1 M1 σ1 H1 h1 k1 hh1 => ?_⟩
    exact ⟨ρ1, M1, ds, R, hh1, RepVs.keep k1 _ _ rs, h1, fun ρ2 M2 σ2 H2 h2 k2 hh2 => q ρ2 M2 σ2 H2 h2 (k1.trans k2) hh2⟩
def dgTup (u : TDGs) : TDG := fun d ρ M Q => match d with | .tup xs => u xs ρ M Q | _ => False
theorem dg_tup {es : List Expr} {k : Nat} {u : TDGs} {pos : Pos} (hc : X.calm = true) (h : DGs X B es u)
    (ul : ∀ ds ρ M Q, u ds ρ M Q → ds.length = (assignEach es X.env).length)
    (hst : (assignEach es X.env).findIdx? (·.1) = none := by rfl) : DG X B (.Tuple es k pos) (dgTup u) := by
  refine PG.imp (pg_tup hc h rfl hst) fun v σ H Q h => ?_
  obtain ⟨ρ, M, d, R, hh, r, h, q⟩ := h
  unfold dgTup at h
  split at h
  · rename_i xs
    unfold RepV at r
    obtain ⟨a, vs, rfl, na, ha, ra⟩ := r
    exact ⟨a, vs, rfl, SqT.of ha, by rw [← ra.length]; exact ul _ _ _ _ h, ρ, M, xs, R, hh, ra, h, q⟩
  · exact h.elim
theorem ul_nil {n : Nat} (hn : 0 = n := by rfl) : ∀ ds ρ M Q, dgNil ds ρ M Q → ds.length = n := fun ds ρ M Q h => by
  cases ds with
  | nil => exact hn
  | cons => exact h.elim
theorem ul_cons {t : TDG} {u : TDGs} {n : Nat} (mt : ∀ d ρ M (Q : Rho → Mp → Prop), t d ρ M Q → ∃ ρ' M', Q ρ' M') (h : ∀ ds ρ M Q, u ds ρ M Q → ds.length = n) : ∀ ds ρ M Q, dgCons t u ds ρ M Q → ds.length = n + 1 := fun ds ρ M Q h' => by
  cases ds with
  | nil => exact h'.elim
  | cons d ds =>
    obtain ⟨ρ', M', q⟩ := mt _ _ _ _ h'
    show ds.length + 1 = n + 1
    rw [h _ _ _ _ q]
theorem mt_name {i : Nat} : ∀ d ρ M (Q : Rho → Mp → Prop), dgName i d ρ M Q → ∃ ρ' M', Q ρ' M' := fun _ _ _ _ h => ⟨_, _, h⟩
/-- xs[i] = v, xs a list that may change -/
def dgSub (to ti : TD) : TDG := fun d ρ M Q => to ρ M fun o M1 => ti ρ M1 fun i M2 => match o, i with
  | .ref a, .int k => (match M2 a with
    | some (.lst ds) => (match ixN ds.length k with
      | some j => Q ρ (um M2 a (.lst (ds.set j d)))
      | none => False)
    | _ => False)
  | _, _ => False
theorem dg_sub {o i : Expr} {to ti : TD} {pos : Pos} (ho : DE X B o to) (hi : DE X B i ti)
    (ha : ∀ v, assign (.Subscript o i pos) X.env v = (do
      let ov ← holding [v] (eval o X.env)
      let iv ← holding [v, ov] (eval i X.env)
      standAt pos
      holding [v, ov, iv] (setItem ov iv v)
      release [v, ov, iv] []) := by intro _; rfl) : DG X B (.Subscript o i pos) (dgSub to ti) := by
  refine PG.imp (pg_sub ho hi set_list ha) fun v σ H Q h => ?_
  obtain ⟨ρ, M, d, R, hh, r, h, q⟩ := h
  refine ⟨ρ, M, _, hh, h, fun o M1 vo H1 h1 k1 m1 r1 => ?_⟩
  refine ⟨ρ, M1, _, hh.step k1 m1, h1, fun i M2 vi H2 h2 k2 m2 r2 => ?_⟩
  split at h2
  · rename_i a k
    have r1' := RepV.keep k2 _ _ r1
    unfold RepV at r1' r2
    cases e : M2 a with
    | none => rw [e] at h2; exact h2.elim
    | some w =>
      rw [e] at h2
      cases w with
      | ins c fs => exact h2.elim
      | lst ds =>
        dsimp only at h2
        cases e3 : ixN ds.length k with
        | none => rw [e3] at h2; exact h2.elim
        | some j =>
          rw [e3] at h2
          obtain ⟨vs, ha, ra⟩ := m2 a _ e
          refine ⟨a, vs, k, j, r1', r2, ha, by rw [← ra.length]; exact e3, ?_⟩
          have kw : Keep M2 H2 (um M2 a (.lst (ds.set j d))) (upd H2 a (.lst (vs.set j v))) := Keep.write e
          have hh2 := (hh.step k1 m1).step k2 m2
          refine q _ _ _ _ h2 ((k1.trans k2).trans kw) (hh2.step kw (m2.write e ⟨_, upd_same, ?_⟩))
          exact RepVs.keep kw _ _ (RepVs.set j (RepV.keep (k1.trans k2) d v r) ra)
  · exact h2.elim
def dAsg (t : TD) (g : TDG) : TDS := fun E ρ M => t ρ M fun d M1 => g d ρ M1 E.nx
theorem lft_asg {t : TD} {g : TDG} {D : Ends} {σ : L2.St} {H : Hp} (h : lftS X B (dAsg t g) D σ H) : tAsg (lft X B t) (lftG X B g) D σ H := by
  obtain ⟨C, ρ, M, E, kb, hh, le, h⟩ := h
  exact ⟨ρ, M, _, hh.base kb, h, fun d M1 v H1 h1 k1 m1 r1 => ⟨ρ, M1, d, _, (hh.step k1 m1).base kb, r1, h1, fun ρ2 M2 σ2 H2 h2 k2 hh2 => le.nx _ _ _ _ (hh2.up ((hh.k.trans k1).trans k2)) h2⟩⟩
theorem ds_asg {tg e : Expr} {t : TD} {g : TDG} {pos : Pos} (he : DE X B e t) (hg : DG X B tg g) (hs : swapsWithSole [tg] e pos.line X.env = pure false := by rfl) (hw : swappedStores [tg] e X.env = pure none := by rfl)
    (h1 : (assignEach [tg] X.env).map (·.2) = [assign tg X.env] := by rfl) : DS X B (.Assign [tg] e pos) (dAsg t g) :=
  PS.imp (ps_asg he hg hs hw h1) fun D σ H h => lft_asg h
theorem ds_set {i : Nat} {x : Str} {e : Expr} {t : TD} {pos pos' : Pos} (hN : X.N.Nodup) (hi : X.N[i]? = some x) (hx : Loc X.env.scope x) (he : DE X B e t) (hs : swapsWith e (some (.Name x pos')) pos.line X.env = pure false := by rfl) (hf : X.fn x = true ∨ X.env.scope.names.lookup x = some .local := by first | exact .inl rfl | exact .inr rfl | assumption) :
    DS X B (.Assign [.Name x pos'] e pos) (dAsg t (dgName i)) := by
  refine PS.imp (ps_set hN hi hx he hs hf) fun D σ H h => ?_
  obtain ⟨C, ρ, M, E, kb, hh, le, h⟩ := h
  exact ⟨ρ, M, _, hh.base kb, h, fun d M1 v H1 h1 k1 m1 r1 => le.nx _ _ _ _ ((hh.step k1 m1).set r1) h1⟩
/-- a, b = x, y; a, b, c = x, y, z: plain local names -/
def dPar (is : List Nat) (t : TDs) : TDS := fun E ρ M => t ρ M fun ds M1 => ds.length = is.length ∧ E.nx ((is.zip ds).foldl (fun r p => r.set p.1 (some p.2)) ρ) M1
theorem ds_par {i j : Nat} {x y : Str} {a b : Expr} {ta : TDs} {px py pt pos : Pos} {kt k2 pt2} (hc : X.calm = true) (hN : X.N.Nodup) (hi : X.N[i]? = some x) (hj : X.N[j]? = some y) (hij : i ≠ j)
    (hx : X.env.scope.names.lookup x = some .local) (hy : X.env.scope.names.lookup y = some .local) (ha : DA X B [a, b] ta)
    (hw : swappedStores [.Tuple [.Name x px, .Name y py] kt pt] (.Tuple [a, b] k2 pt2) X.env = pure (some [x, y]))
    (hs : swapsWithSole [.Tuple [.Name x px, .Name y py] kt pt] (.Tuple [a, b] k2 pt2) pos.line X.env = pure false := by rfl) :
    DS X B (.Assign [.Tuple [.Name x px, .Name y py] kt pt] (.Tuple [a, b] k2 pt2) pos) (dPar [i, j] ta) := by
  refine PS.imp (ps_par hc hN hi hj hij hx hy ha hw hs) fun D σ H h => ?_
  obtain ⟨C, ρ, M, E, kb, hh, le, h⟩ := h
  refine ⟨ρ, M, _, hh.base kb, h, fun ds M1 vs H1 h1 k1 m1 r1 => ?_⟩
  obtain ⟨hl, h1⟩ := h1
  match ds, hl, r1 with
  | [d, e], _, r1 =>
    unfold RepVs at r1
    obtain ⟨v, vr, rfl, rv, r2⟩ := r1
    unfold RepVs at r2
    obtain ⟨w, wr, rfl, rw', r3⟩ := r2
    unfold RepVs at r3
    subst r3
    exact ⟨v, w, rfl, le.nx _ _ _ _ (((hh.step k1 m1).set rv).set rw') h1⟩
theorem ds_par3 {i j l : Nat} {x y z : Str} {a b c : Expr} {ta : TDs} {px py pz pt pos : Pos} {kt k2 pt2} (hc : X.calm = true) (hN : X.N.Nodup) (hi : X.N[i]? = some x) (hj : X.N[j]? = some y) (hl : X.N[l]? = some z) (hij : i ≠ j) (hil : i ≠ l) (hjl : j ≠ l)
    (hx : X.env.scope.names.lookup x = some .local) (hy : X.env.scope.names.lookup y = some .local) (hz : X.env.scope.names.lookup z = some .local) (ha : DA X B [a, b, c] ta)
    (hw : swappedStores [.Tuple [.Name x px, .Name y py, .Name z pz] kt pt] (.Tuple [a, b, c] k2 pt2) X.env = pure (some [x, y, z]))
    (hs : swapsWithSole [.Tuple [.Name x px, .Name y py, .Name z pz] kt pt] (.Tuple [a, b, c] k2 pt2) pos.line X.env = pure false := by rfl) :
    DS X B (.Assign [.Tuple [.Name x px, .Name y py, .Name z pz] kt pt] (.Tuple [a, b, c] k2 pt2) pos) (dPar [i, j, l] ta) := by
  refine PS.imp (ps_par3 hc hN hi hj hl hij hil hjl hx hy hz ha hw hs) fun D σ H h => ?_
  obtain ⟨C, ρ, M, E, kb, hh, le, h⟩ := h
  refine ⟨ρ, M, _, hh.base kb, h, fun ds M1 vs H1 h1 k1 m1 r1 => ?_⟩
  obtain ⟨hl, h1⟩ := h1
  match ds, hl, r1 with
  | [d, e, f], _, r1 =>
    unfold RepVs at r1
    obtain ⟨v, vr, rfl, rv, r2⟩ := r1
    unfold RepVs at r2
    obtain ⟨w, wr, rfl, rw', r3⟩ := r2
    unfold RepVs at r3
    obtain ⟨u, ur, rfl, ru, r4⟩ := r3
    unfold RepVs at r4
    subst r4
    exact ⟨v, w, u, rfl, le.nx _ _ _ _ ((((hh.step k1 m1).set rv).set rw').set ru) h1⟩
/-- name op= e -/
abbrev IpC (X : Cx) (r : TIp) (g : DR2) : Prop := OpC X (fun x y H Q => r x y H Q) g
def dAug (i : Nat) (t : TD) (g : DR2) : TDS := fun E ρ M => match ρ[i]? with
  | some (some x) => t ρ M fun y M1 => g x y M1 fun z M2 => E.nx (ρ.set i (some z)) M2
  | _ => False
theorem ds_aug {i : Nat} {x : Str} {e : Expr} {t : TD} {op : Operator} {ti : TIp} {g : DR2} {pos pos' : Pos} (ho : PIp X op ti) (hc : OpC X ti g) (hN : X.N.Nodup) (hi : X.N[i]? = some x) (hx : Loc X.env.scope x) (he : DE X B e t)
    (hf : X.fn x = true ∨ X.env.scope.names.lookup x = some .local := by first | exact .inl rfl | exact .inr rfl | assumption) : DS X B (.AugAssign (.Name x pos') op e pos) (dAug i t g) := by
  refine PS.imp (ps_aug hN hi hx he ho hf) fun D σ H h => ?_
  obtain ⟨C, ρ, M, E, kb, hh, le, h⟩ := h
  unfold dAug at h
  split at h
  · rename_i d e1
    obtain ⟨v, e2, r⟩ := hh.s.2 i d e1
    refine ⟨v, e2, ρ, M, _, hh.base kb, h, fun y M1 vy H1 h1 k1 m1 r1 => ?_⟩
    exact hc M1 H1 d y v vy _ _ m1 (RepV.keep k1 d v r) r1 h1 fun z M2 vz H2 h2 k2 m2 r2 => le.nx _ _ _ _ (((hh.step k1 m1).step k2 m2).set r2) h2
  · exact h.elim

/-! ### while -/
def dWhileN (c : TDb) (t : TDS) (E : DEnds) : Nat → Rho → Mp → Prop
  | 0 => fun _ _ => False
  | n + 1 => fun ρ M => c ρ M fun b M1 => (b = true → t { E with nx := fun ρ' M' => Wk (dWhileN c t E n ρ') M', ct := fun ρ' M' => Wk (dWhileN c t E n ρ') M', bk := E.nx } ρ M1) ∧ (b = false → E.nx ρ M1)
def dWhile (c : TDb) (t : TDS) : TDS := fun E ρ M => ∃ n, dWhileN c t E n ρ M
theorem ds_while {c : Expr} {body : List Stmt} {tc : TDb} {t : TDS} {pos : Pos} (hp : PassesOwn (model X.prog X.w) X.A X.env X.xe) (hc : DT X B c tc) (hb : DSs X B body t) : DS X B (.While c body [] pos) (dWhile tc t) := by
  refine PS.imp (ps_while hp hc hb) fun D σ H h => ?_
  obtain ⟨C, ρ, M, E, kb, hh, le, n, h⟩ := h
  refine ⟨fun m σ H => ∃ ρ M, Here X C ρ σ M H ∧ dWhileN tc t E m ρ M, ⟨n, ρ, M, hh, h⟩, ?_⟩
  rintro m σ1 H1 ⟨ρ1, M1, hh1, h1⟩
  cases m with
  | zero => exact h1.elim
  | succ m =>
    refine ⟨ρ1, M1, _, hh1.base kb, h1, fun b M2 H2 h2 k2 m2 => ?_⟩
    have hh2 := hh1.step k2 m2
    cases b with
    | false => exact iteF (le.nx _ _ _ _ hh2 (h2.2 rfl))
    | true =>
      refine iteT ⟨fun σ' H' => ∃ ρ M, Here X C ρ σ' M H' ∧ dWhileN tc t E m ρ M, fun σ' H' q => ⟨m, Nat.lt_succ_self m, q⟩, C, ρ1, M2, _, kb, hh2, ⟨?_, ?_, ?_, ?_⟩, h2.1 rfl⟩
      · exact fun ρ' σ' M' H' h' q => let ⟨M0, l, w⟩ := q; ⟨ρ', M0, h'.less l, w⟩
      · exact le.nx
      · exact fun ρ' σ' M' H' h' q => let ⟨M0, l, w⟩ := q; ⟨ρ', M0, h'.less l, w⟩
      · exact le.rt
/-! ### for -/
def forL (g : TDG) (t : TDS) (E : DEnds) : List D → Rho → Mp → Prop
  | [] => fun ρ M => E.nx ρ M
  | d :: ds => fun ρ M => g d ρ M fun ρ1 M1 => t { E with nx := fun ρ' M' => Wk (forL g t E ds ρ') M', ct := fun ρ' M' => Wk (forL g t E ds ρ') M', bk := E.nx } ρ1 M1
def dFor (ti : TDI) (g : TDG) (t : TDS) : TDS := fun E ρ M => ti ρ M fun items M1 => forL g t E items ρ M1
theorem ds_for {tg iter : Expr} {body : List Stmt} {ti : TDI} {g : TDG} {t : TDS} {pos : Pos} (hp : PassesOwn (model X.prog X.w) X.A X.env X.xe) (hc : X.calm = true) (hi : DI X B tg iter ti) (hg : DG X B tg g) (hb : DSs X B body t)
    (hs : ∀ x, foldedSetIterable iter X.env x = pure x := by intro _; rfl) : DS X B (.For tg iter body [] pos) (dFor ti g t) := by
  refine PS.imp (ps_for hp hc hi hg hb hs) fun D σ H h => ?_
  obtain ⟨C, ρ, M, E, kb, hh, le, h⟩ := h
  refine ⟨ρ, M, _, hh.base kb, h, fun items M1 J H1 h1 k1 m1 sv => ?_⟩
  have hh1 := hh.step k1 m1
  have kC : Keep B.M B.H M1 H1 := kb.trans hh1.k
  have leC : EndsLe X ⟨M1, H1⟩ E D := le.later (C' := ⟨M1, H1⟩) hh1.k
  refine ⟨fun i m σ H => ∃ ρ M, Here X ⟨M1, H1⟩ ρ σ M H ∧ i ≤ items.length ∧ m = items.length - i ∧ forL g t E (items.drop i) ρ M, ⟨_, ρ, M1, ⟨hh1.s, hh1.m, .rfl'⟩, Nat.zero_le _, rfl, by simpa using h1⟩, ?_⟩
  rintro i m σ2 H2 ⟨ρ2, M2, hh2, hi2, em, h2⟩
  obtain ⟨stop, go⟩ := sv M2 H2 hh2.k hh2.m i
  by_cases hlt : i < items.length
  · have ed : items.drop i = items[i] :: items.drop (i + 1) := List.drop_eq_getElem_cons hlt
    rw [ed] at h2
    obtain ⟨g1, g2⟩ := go items[i] (List.getElem?_eq_getElem hlt)
    refine .inr ⟨g1, fun σ' H' => ∃ ρ M, Here X ⟨M1, H1⟩ ρ σ' M H' ∧ forL g t E (items.drop (i + 1)) ρ M, fun σ' H' q => ?_, fun x H3 y => ?_⟩
    · obtain ⟨ρ', M', a1, a3⟩ := q
      exact ⟨items.length - (i + 1), by omega, ρ', M', a1, by omega, rfl, a3⟩
    · obtain ⟨k3, m3, r3⟩ := g2 x H3 y
      have hh3 := hh2.step k3 m3
      refine ⟨ρ2, M2, items[i], _, hh3.base kC, r3, h2, fun ρ4 M4 σ4 H4 h4 k4 hh4 => ?_⟩
      refine ⟨⟨M1, H1⟩, ρ4, M4, _, kC, hh4.up (hh3.k.trans k4), ⟨?_, ?_, ?_, ?_⟩, h4⟩
      · exact fun ρ' σ' M' H' h' q => let ⟨M0, l, w⟩ := q; ⟨ρ', M0, h'.less l, w⟩
      · exact leC.nx
      · exact fun ρ' σ' M' H' h' q => let ⟨M0, l, w⟩ := q; ⟨ρ', M0, h'.less l, w⟩
      · exact leC.rt
  · have e : items.drop i = [] := List.drop_of_length_le (by omega)
    rw [e] at h2
    exact .inl ⟨stop (by omega), leC.nx _ _ _ _ hh2 h2⟩
end
end DL
/-! The D layer, part e: calls of what is built in, what is walked. -/
namespace DL
open PySem PySem.Spec L2

section
variable {X : Cx} {B : At}
abbrev DCall := List D → Mp → DK → Prop
structure CallD (X : Cx) (f : Value) (g : DCall) : Prop where
  ex : ∃ r, CallR X f r ∧ ∀ M H ds vs (R : DK) (Q : VK), RepM X.K X.mg M H → RepVs X.K X.mg M H ds vs → g ds M R → Back X M H R Q → r vs H Q
def dCB (g : DCall) (t : TDs) : TD := fun ρ M Q => t ρ M fun ds M1 => g ds M1 Q
theorem lft_CB {g : DCall} {t : TDs} {r : List V → Hp → VK → Prop} (hc : ∀ M H ds vs (R : DK) (Q : VK), RepM X.K X.mg M H → RepVs X.K X.mg M H ds vs → g ds M R → Back X M H R Q → r vs H Q) {σ : L2.St} {H : Hp} {Q : VK}
    (h : lft X B (dCB g t) σ H Q) : tCB r (lftA X B t) σ H Q := by
  obtain ⟨ρ, M, R, hh, h, q⟩ := h
  refine ⟨ρ, M, _, hh, h, fun ds M1 vs H1 h1 k1 m1 r1 => ?_⟩
  exact hc M1 H1 ds vs R Q m1 r1 h1 fun d M2 v H2 h2 k2 m2 r2 => q d M2 v H2 h2 (k1.trans k2) m2 r2
theorem de_callB {x : Str} {id : String} {e : Expr} {es : List Expr} {g : DCall} {t : TDs} {p pos : Pos} (c : CallD X (.builtin id) g) (hg : Gl X x) (hm : X.mg x = none) (hv : bootBuiltins x = some (.builtin id)) (ha : DA X B (e :: es) t)
    (hn : x ≠ "__name__" := by decide) (hdb : (x == ("__debug__" : Str)) = false := by decide) (he : starEach (e :: es) X.env = (false, eval e X.env) :: starEach es X.env := by rfl) (hpl : (backTo pos (starEach es X.env)).any (·.1) = false := by rfl) :
    DE X B (.Call (.Name x p) (e :: es) [] pos) (dCB g t) := by
  obtain ⟨r, hr, hc⟩ := c.ex
  exact PE.imp (pe_callB hr hg hm hv ha hn hdb he hpl) fun _ _ _ h => lft_CB hc h
theorem de_callTy {x : Str} {T : String} {e : Expr} {es : List Expr} {g : DCall} {t : TDs} {p pos : Pos} (c : CallD X (.type T) g) (hg : Gl X x) (hm : X.mg x = none) (hv : bootBuiltins x = some (.type T)) (ha : DA X B (e :: es) t)
    (hn : x ≠ "__name__" := by decide) (hdb : (x == ("__debug__" : Str)) = false := by decide) (he : starEach (e :: es) X.env = (false, eval e X.env) :: starEach es X.env := by rfl) (hpl : (backTo pos (starEach es X.env)).any (·.1) = false := by rfl) :
    DE X B (.Call (.Name x p) (e :: es) [] pos) (dCB g t) := by
  obtain ⟨r, hr, hc⟩ := c.ex
  exact PE.imp (pe_callTy hr hg hm hv ha hn hdb he hpl) fun _ _ _ h => lft_CB hc h
/-- the name of a built-in type as a value -/
theorem de_ty {x : Str} {T : String} {pos : Pos} (hg : Gl X x) (hm : X.mg x = none) (hv : bootBuiltins x = some (.type T)) (hn : x ≠ "__name__" := by decide) (hd : (x == ("__debug__" : Str)) = false := by decide) : DE X B (.Name x pos) (dC (.ty T)) :=
  de_const (pe_bltn (v := .ty T) hg hm hv rfl hn hd) fun _ _ => by simp [RepV]
/-- an own class as a value -/
theorem de_cls {x : Str} {C : Addr} {pos : Pos} (hg : Gl X x) (hm : X.mg x = some (.ref C)) (hd : (x == ("__debug__" : Str)) = false := by decide) : DE X B (.Name x pos) (dC (.cls x)) :=
  de_const (pe_glob (v := .ref C) hg hm rfl hd) fun _ _ => by simp [RepV, hm]

section
variable {K : PySem.W.Frag} {mg : Str → Option Value} {M : Mp} {H : Hp}
theorem RepVs.one {d : D} {vs : List V} (r : RepVs K mg M H [d] vs) : ∃ v, vs = [v] ∧ RepV K mg M H d v := by
  unfold RepVs at r
  obtain ⟨v, vr, rfl, r1, r2⟩ := r
  unfold RepVs at r2
  subst r2
  exact ⟨v, rfl, r1⟩
theorem RepVs.two {d e : D} {vs : List V} (r : RepVs K mg M H [d, e] vs) : ∃ v w, vs = [v, w] ∧ RepV K mg M H d v ∧ RepV K mg M H e w := by
  unfold RepVs at r
  obtain ⟨v, vr, rfl, r1, r2⟩ := r
  obtain ⟨w, rfl, r3⟩ := RepVs.one r2
  exact ⟨v, w, rfl, r1, r3⟩
end
/-- the length -/
def gLen : DCall := fun ds M Q => match ds with
  | [.tup xs] => Q (.int xs.length) M
  | [.scr ns] => Q (.int ns.length) M
  | [.str z] => z.length ≤ sizeLine ∧ Q (.int z.length) M
  | [d] => match asL M d with
    | some xs => Q (.int xs.length) M
    | none => False
  | _ => False
theorem c_len : CallD X (.builtin "len") gLen := by
  refine ⟨_, call_len, ?_⟩
  intro M H ds vs R Q m r g q
  unfold gLen at g
  split at g
  · obtain ⟨v, rfl, r0⟩ := r.one
    have r := r0
    unfold RepV at r
    obtain ⟨a, ws, rfl, na, ha, ra⟩ := r
    exact ⟨_, ws.length, rfl, .inr ⟨ws, SqT.of ha, rfl⟩, q _ _ _ _ g .rfl' m (by rw [ra.length]; exact rInt)⟩
  · rename_i ns
    obtain ⟨v, rfl, r0⟩ := r.one
    have r := r0
    obtain ⟨a, rfl, ha⟩ := scr_at r
    exact ⟨_, ns.length, rfl, .inl ⟨_, ha, by simp⟩, q _ _ _ _ g .rfl' m rInt⟩
  · rename_i z
    obtain ⟨v, rfl, r0⟩ := r.one
    have r := r0
    unfold RepV at r
    subst r
    exact ⟨_, z.length, rfl, ⟨g.1, rfl⟩, q _ _ _ _ g.2 .rfl' m rInt⟩
  · rename_i d _ _ _
    obtain ⟨v, rfl, r0⟩ := r.one
    have r := r0
    split at g
    · rename_i xs e
      obtain ⟨a, ws, rfl, ha, ra⟩ := asL_at e m r
      exact ⟨_, ws.length, rfl, .inl ⟨ws, SqL.of ha, rfl⟩, q _ _ _ _ g .rfl' m (by rw [ra.length]; exact rInt)⟩
    · exact g.elim
  · exact g.elim
def gAbs : DCall := fun ds M Q => match ds with | [.int i] => Q (.int i.natAbs) M | _ => False
theorem c_abs : CallD X (.builtin "abs") gAbs := by
  refine ⟨_, call_abs, ?_⟩
  intro M H ds vs R Q m r g q
  unfold gAbs at g
  split at g
  · rename_i i
    obtain ⟨v, rfl, r0⟩ := r.one
    have r := r0
    unfold RepV at r
    subst r
    refine ⟨i, rfl, q _ _ _ _ g .rfl' m ?_⟩
    have e : ((i.natAbs : Nat) : Int) = if i < 0 then -i else i := by split <;> omega
    rw [e]; exact rInt
  · exact g.elim
def g2 (f : Int → Int → Int) : DCall := fun ds M Q => match ds with | [.int i, .int j] => Q (.int (f i j)) M | _ => False
theorem c_max (hc : X.calm = true) : CallD X (.builtin "max") (g2 max) := by
  refine ⟨_, call_max2 hc, ?_⟩
  intro M H ds vs R Q m r g q
  unfold g2 at g
  split at g
  · rename_i i j
    obtain ⟨v, w, rfl, r1, r2⟩ := r.two
    unfold RepV at r1 r2
    subst r1 r2
    refine ⟨i, j, rfl, q _ _ _ _ g .rfl' m ?_⟩
    have e : max i j = if j > i then j else i := by split <;> omega
    rw [e]; exact rInt
  · exact g.elim
theorem c_min (hc : X.calm = true) : CallD X (.builtin "min") (g2 min) := by
  refine ⟨_, call_min2 hc, ?_⟩
  intro M H ds vs R Q m r g q
  unfold g2 at g
  split at g
  · rename_i i j
    obtain ⟨v, w, rfl, r1, r2⟩ := r.two
    unfold RepV at r1 r2
    subst r1 r2
    refine ⟨i, j, rfl, q _ _ _ _ g .rfl' m ?_⟩
    have e : min i j = if j < i then j else i := by split <;> omega
    rw [e]; exact rInt
  · exact g.elim
def gInt : DCall := fun ds M Q => match ds with
  | [.int i] => Q (.int i) M
  | [.bl b] => Q (.int (if b then 1 else 0)) M
  | _ => False
theorem c_int : CallD X (.type "int") gInt := by
  refine ⟨_, call_int1, ?_⟩
  intro M H ds vs R Q m r g q
  unfold gInt at g
  split at g
  · rename_i i
    obtain ⟨v, rfl, r0⟩ := r.one
    have r := r0
    unfold RepV at r
    subst r
    exact .inl ⟨i, rfl, q _ _ _ _ g .rfl' m rInt⟩
  · rename_i b
    obtain ⟨v, rfl, r0⟩ := r.one
    have r := r0
    unfold RepV at r
    subst r
    exact .inr ⟨b, rfl, q _ _ _ _ g .rfl' m rInt⟩
  · exact g.elim
def gStr : DCall := fun ds M Q => match ds with
  | [.int i] => i.natAbs.log2 < 1920 ∧ Q (.str (toString i : String)) M
  | _ => False
theorem c_str : CallD X (.type "str") gStr := by
  refine ⟨_, call_str_int, ?_⟩
  intro M H ds vs R Q m r g q
  unfold gStr at g
  split at g
  · rename_i i
    obtain ⟨v, rfl, r0⟩ := r.one
    have r := r0
    unfold RepV at r
    subst r
    exact ⟨i, rfl, g.1, q _ _ _ _ g.2 .rfl' m rStr⟩
  · exact g.elim
def gDivmod : DCall := fun ds M Q => match ds with | [.int i, .int j] => (0 < j ∧ j < 1073741824) ∧ Q (.tup [.int (i / j), .int (i % j)]) M | _ => False
theorem c_divmod : CallD X (.builtin "divmod") gDivmod := by
  refine ⟨_, call_divmod, ?_⟩
  intro M H ds vs R Q m r g q
  unfold gDivmod at g
  split at g
  · rename_i i j
    obtain ⟨v, w, rfl, r1, r2⟩ := r.two
    unfold RepV at r1 r2
    subst r1 r2
    refine ⟨i, j, rfl, g.1, fun p n => ?_⟩
    refine Back.new q m g.2 n ?_
    unfold RepV
    exact ⟨p, _, rfl, m.free n, upd_same, .cons rInt (.cons rInt .nil)⟩
  · exact g.elim
/-- the name of the built-in type that a value is of -/
def D.tyn (M : Mp) : D → Option String
  | .non => some "NoneType"
  | .bl _ => some "bool"
  | .int _ => some "int"
  | .str _ => some "str"
  | .tup _ => some "tuple"
  | .lst _ => some "list"
  | .scr _ => some "list"
  | .ref a => match M a with
    | some (.lst _) => some "list"
    | _ => none
  | _ => none
theorem tyn_of {d : D} {v : V} {T : String} {M : Mp} {H : Hp} {K : PySem.W.Frag} {mg : Str → Option Value} (m : RepM K mg M H) (r : RepV K mg M H d v) (e : d.tyn M = some T) : TyX K H v (.type T) := by
  cases d with
  | non => unfold RepV at r; subst r; cases e; exact .base .non
  | bl b => unfold RepV at r; subst r; cases e; exact .base (.bl b)
  | int i => unfold RepV at r; subst r; cases e; exact .base (.int i)
  | str s => unfold RepV at r; subst r; cases e; exact .base (.str s)
  | tup xs =>
    unfold RepV at r
    obtain ⟨a, vs, rfl, _, h, _⟩ := r
    cases e
    exact .base (.tup h)
  | lst xs =>
    unfold RepV at r
    obtain ⟨a, vs, rfl, _, h, _⟩ := r
    cases e
    exact .base (.lst h)
  | scr ns =>
    unfold RepV at r
    obtain ⟨a, rfl, h⟩ := r
    cases e
    rcases h with ⟨_, h | ⟨o, h⟩⟩ | (h | ⟨_, h⟩) | ⟨o, its, n, h1, h2, _⟩
    · exact .base (.lst h)
    · exact .base (.frz h)
    · cases h
    · cases h
    · exact .kList h1 h2
  | ref a =>
    unfold RepV at r
    subst r
    simp only [D.tyn] at e
    split at e
    · rename_i ds q
      cases e
      obtain ⟨vs, h, _⟩ := m a _ q
      exact .base (.lst h)
    · cases e
  | _ => cases e
/-- isinstance(x, T), T a built-in type -/
def gIsTy : DCall := fun ds M Q => match ds with
  | [d, .ty T] => match (d.tyn M).bind fun a => kitB a T with
    | some b => Q (.bl b) M
    | none => False
  | _ => False
theorem c_isTy : CallD X (.builtin "isinstance") gIsTy := by
  refine ⟨_, call_isi, ?_⟩
  intro M H ds vs R Q m r g q
  unfold gIsTy at g
  split at g
  · rename_i d T
    obtain ⟨v, w, rfl, r1, r2⟩ := r.two
    unfold RepV at r2
    subst r2
    split at g
    · rename_i b e
      cases e1 : d.tyn M with
      | none => rw [e1] at e; cases e
      | some a =>
        rw [e1] at e
        exact ⟨v, _, _, _, b, rfl, .ty T, tyn_of m r1 e1, kit_ty e, q _ _ _ _ g .rfl' m rBl⟩
    · exact g.elim
  · exact g.elim
/-- tuple(list), tuple(tuple) -/
def gTuple : DCall := fun ds M Q => match ds with
  | [.tup xs] => Q (.tup xs) M
  | [d] => match asL M d with
    | some xs => Q (.tup xs) M
    | none => False
  | _ => False
theorem c_tuple : CallD X (.type "tuple") gTuple := by
  refine ⟨_, call_tuple_of, ?_⟩
  intro M H ds vs R Q m r g q
  unfold gTuple at g
  split at g
  · obtain ⟨v, rfl, r0⟩ := r.one
    have r := r0
    have r' := r
    unfold RepV at r
    obtain ⟨a, ws, rfl, na, ha, ra⟩ := r
    exact ⟨a, ws, rfl, .inr ⟨SqT.of ha, q _ _ _ _ g .rfl' m r'⟩⟩
  · obtain ⟨v, rfl, r0⟩ := r.one
    have r := r0
    split at g
    · rename_i xs e
      obtain ⟨a, ws, rfl, ha, ra⟩ := asL_at e m r
      refine ⟨a, ws, rfl, .inl ⟨SqL.of ha, fun l n => ?_⟩⟩
      refine Back.new q m g n ?_
      unfold RepV
      exact ⟨l, ws, rfl, m.free n, upd_same, RepVs.new m n ra⟩
    · exact g.elim
  · exact g.elim
/-- list(..) -/
def gList : DCall := fun ds M Q => match ds with
  | [.tup xs] => Q (.lst xs) M
  | [d] => match asL M d with
    | some xs => Q (.lst xs) M
    | none => False
  | _ => False
theorem c_list : CallD X (.type "list") gList := by
  refine ⟨_, call_list_of, ?_⟩
  intro M H ds vs R Q m r g q
  unfold gList at g
  split at g
  · obtain ⟨v, rfl, r0⟩ := r.one
    have r := r0
    unfold RepV at r
    obtain ⟨a, ws, rfl, na, ha, ra⟩ := r
    refine ⟨a, ws, rfl, .inr (SqT.of ha), fun l n => ?_⟩
    refine Back.new q m g n ?_
    unfold RepV
    exact ⟨l, ws, rfl, m.free n, upd_same, RepVs.new m n ra⟩
  · obtain ⟨v, rfl, r0⟩ := r.one
    have r := r0
    split at g
    · rename_i xs e
      obtain ⟨a, ws, rfl, ha, ra⟩ := asL_at e m r
      refine ⟨a, ws, rfl, .inl (SqL.of ha), fun l n => ?_⟩
      refine Back.new q m g n ?_
      unfold RepV
      exact ⟨l, ws, rfl, m.free n, upd_same, RepVs.new m n ra⟩
    · exact g.elim
  · exact g.elim
/-- bools, ints in a row -/
def bls? : List D → Option (List Bool)
  | [] => some []
  | .bl b :: r => (bls? r).map (b :: ·)
  | _ => none
def ints? : List D → Option (List Int)
  | [] => some []
  | .int b :: r => (ints? r).map (b :: ·)
  | _ => none
@[simp] theorem ints_map (ns : List Int) : ints? (ns.map D.int) = some ns := by
  induction ns with
  | nil => rfl
  | cons x xs ih => simp [ints?, ih]
@[simp] theorem bls_map (ns : List Bool) : bls? (ns.map D.bl) = some ns := by
  induction ns with
  | nil => rfl
  | cons x xs ih => simp [bls?, ih]
theorem ints_of : ∀ {ds : List D} {ns : List Int}, ints? ds = some ns → ds = ns.map D.int
  | [], ns, h => by cases h; rfl
  | d :: ds, ns, h => by
    cases d with
    | int i =>
      simp only [ints?, Option.map_eq_some_iff] at h
      obtain ⟨ms, e, rfl⟩ := h
      simp [ints_of e]
    | _ => simp [ints?] at h
theorem bls_of : ∀ {ds : List D} {ns : List Bool}, bls? ds = some ns → ds = ns.map D.bl
  | [], ns, h => by cases h; rfl
  | d :: ds, ns, h => by
    cases d with
    | bl i =>
      simp only [bls?, Option.map_eq_some_iff] at h
      obtain ⟨ms, e, rfl⟩ := h
      simp [bls_of e]
    | _ => simp [bls?] at h
theorem RepVs.of_ints {K : PySem.W.Frag} {mg : Str → Option Value} {M : Mp} {H : Hp} : ∀ {ns : List Int} {vs : List V}, RepVs K mg M H (ns.map D.int) vs → vs = ns.map V.int
  | [], vs, h => by simpa [RepVs] using h
  | n :: ns, vs, h => by
    have h : RepVs K mg M H (D.int n :: ns.map D.int) vs := h
    unfold RepVs at h
    obtain ⟨v, vr, rfl, r, rs⟩ := h
    unfold RepV at r
    subst r
    rw [RepVs.of_ints rs]
    rfl
theorem RepVs.of_bls {K : PySem.W.Frag} {mg : Str → Option Value} {M : Mp} {H : Hp} : ∀ {ns : List Bool} {vs : List V}, RepVs K mg M H (ns.map D.bl) vs → vs = ns.map V.bl
  | [], vs, h => by simpa [RepVs] using h
  | n :: ns, vs, h => by
    have h : RepVs K mg M H (D.bl n :: ns.map D.bl) vs := h
    unfold RepVs at h
    obtain ⟨v, vr, rfl, r, rs⟩ := h
    unfold RepV at r
    subst r
    rw [RepVs.of_bls rs]
    rfl
/-- a list of ints, however it stands -/
def asI (M : Mp) : D → Option (List Int)
  | .scr ns => some ns
  | d => (asL M d).bind ints?
theorem asI_at {K : PySem.W.Frag} {mg : Str → Option Value} {M : Mp} {H : Hp} {d : D} {ns : List Int} {v : V} (e : asI M d = some ns) (m : RepM K mg M H) (r : RepV K mg M H d v) : ∃ a, v = .ref a ∧ SqL K H a (ns.map V.int) := by
  have key : ∀ d, (asL M d).bind ints? = some ns → RepV K mg M H d v → ∃ a, v = .ref a ∧ SqL K H a (ns.map V.int) := fun d e r => by
    cases q : asL M d with
    | none => rw [q] at e; cases e
    | some xs =>
      rw [q] at e
      obtain ⟨a, vs, rfl, h, rs⟩ := asL_at q m r
      have e' := ints_of (show ints? xs = some ns from e)
      subst e'
      rw [RepVs.of_ints rs] at h
      exact ⟨a, rfl, SqL.of h⟩
  unfold asI at e
  split at e
  · cases e; exact scr_at r
  · exact key _ e r
def gSum : DCall := fun ds M Q => match ds with
  | [d] => match asI M d with
    | some ns => Q (.int ns.sum) M
    | none => False
  | _ => False
theorem c_sum (hc : X.calm = true) : CallD X (.builtin "sum") gSum := by
  refine ⟨_, cr_sum hc, ?_⟩
  intro M H ds vs R Q m r g q
  unfold gSum at g
  split at g
  · obtain ⟨v, rfl, r0⟩ := r.one
    have r := r0
    split at g
    · rename_i ns e
      obtain ⟨a, rfl, h⟩ := asI_at e m r
      exact ⟨a, ns, rfl, h, q _ _ _ _ g .rfl' m rInt⟩
    · exact g.elim
  · exact g.elim
def gAll : DCall := fun ds M Q => match ds with
  | [d] => match (asL M d).bind bls? with
    | some bs => Q (.bl (bs.all id)) M
    | none => False
  | _ => False
def gAny : DCall := fun ds M Q => match ds with
  | [d] => match (asL M d).bind bls? with
    | some bs => Q (.bl (bs.any id)) M
    | none => False
  | _ => False
theorem asB_at {K : PySem.W.Frag} {mg : Str → Option Value} {M : Mp} {H : Hp} {d : D} {bs : List Bool} {v : V} (e : (asL M d).bind bls? = some bs) (m : RepM K mg M H) (r : RepV K mg M H d v) : ∃ a, v = .ref a ∧ SqL K H a (bs.map V.bl) := by
  cases q : asL M d with
  | none => rw [q] at e; cases e
  | some xs =>
    rw [q] at e
    obtain ⟨a, vs, rfl, h, rs⟩ := asL_at q m r
    have e' := bls_of (show bls? xs = some bs from e)
    subst e'
    rw [RepVs.of_bls rs] at h
    exact ⟨a, rfl, SqL.of h⟩
theorem c_all (hc : X.calm = true) : CallD X (.builtin "all") gAll := by
  refine ⟨_, cr_all hc, ?_⟩
  intro M H ds vs R Q m r g q
  unfold gAll at g
  split at g
  · obtain ⟨v, rfl, r0⟩ := r.one
    have r := r0
    split at g
    · rename_i bs e
      obtain ⟨a, rfl, h⟩ := asB_at e m r
      exact ⟨a, bs, rfl, h, q _ _ _ _ g .rfl' m rBl⟩
    · exact g.elim
  · exact g.elim
theorem c_any (hc : X.calm = true) : CallD X (.builtin "any") gAny := by
  refine ⟨_, cr_any hc, ?_⟩
  intro M H ds vs R Q m r g q
  unfold gAny at g
  split at g
  · obtain ⟨v, rfl, r0⟩ := r.one
    have r := r0
    split at g
    · rename_i bs e
      obtain ⟨a, rfl, h⟩ := asB_at e m r
      exact ⟨a, bs, rfl, h, q _ _ _ _ g .rfl' m rBl⟩
    · exact g.elim
  · exact g.elim
/-- xs.append(e), xs a list that may change -/
def dAppend (to : TD) (t : TDs) : TD := fun ρ M Q => to ρ M fun o M1 => match o with
  | .ref a => (∃ ds, M1 a = some (.lst ds)) ∧ t ρ M1 fun es M2 => match es with
    | [d] => match M2 a with
      | some (.lst xs) => xs.length < sizeLine ∧ Q .non (um M2 a (.lst (xs ++ [d])))
      | _ => False
    | _ => False
  | _ => False
theorem de_append {o e : Expr} {es : List Expr} {to : TD} {t : TDs} {apos cpos : Pos} (ho : DE X B o to) (ha : DA X B (e :: es) t)
    (hbase : attributeBase o "append" X.env (eval o X.env) = eval o X.env := by rfl)
    (hfew : ((backTo cpos (starEach (e :: es) X.env)).all (fun x => !x.1) && (backToKw cpos (keywordEach [] X.env)).all (fun x => x.1.isSome)
      && decide ((e :: es).length + ([] : List Keyword).length + (if ([] : List Keyword).isEmpty then 0 else 1) < 30)) = true := by rfl)
    (hline : (apos.endLine == cpos.line) = true := by rfl) (hs : starEach (e :: es) X.env = (false, eval e X.env) :: starEach es X.env := by rfl) (hplain : (backTo cpos (starEach es X.env)).any (·.1) = false := by rfl) :
    DE X B (.Call (.Attribute o "append" apos) (e :: es) [] cpos) (dAppend to t) := by
  refine PE.imp (pe_bm PySem.F.plainAttrs_list PySem.F.slot_list_append PySem.F.type_list_append mt_append ho ha hbase hfew hline hs hplain) fun σ H Q h => ?_
  obtain ⟨ρ, M, R, hh, h, q⟩ := h
  refine ⟨ρ, M, _, hh, h, fun o M1 v H1 h1 k1 m1 r1 => ?_⟩
  split at h1
  · rename_i a
    unfold RepV at r1
    subst r1
    obtain ⟨⟨ds, e1⟩, h1⟩ := h1
    obtain ⟨vs, ha, _⟩ := m1 a _ e1
    refine ⟨.inl ⟨rfl, _, SqL.of ha⟩, ρ, M1, _, hh.step k1 m1, h1, fun es M2 ws H2 h2 k2 m2 r2 => ?_⟩
    split at h2
    · rename_i d
      obtain ⟨w, rfl, r0⟩ := r2.one
      have r2 := r0
      cases e2 : M2 a with
      | none => rw [e2] at h2; exact h2.elim
      | some mo =>
        rw [e2] at h2
        cases mo with
        | ins c fs => exact h2.elim
        | lst xs =>
          obtain ⟨vs2, ha2, ra2⟩ := m2 a _ e2
          have kw : Keep M2 H2 (um M2 a (.lst (xs ++ [d]))) (upd H2 a (.lst (vs2 ++ [w]))) := Keep.write e2
          refine ⟨a, vs2, w, rfl, rfl, ha2, by rw [← ra2.length]; exact h2.1, ?_⟩
          exact q _ _ _ _ h2.2 ((k1.trans k2).trans kw) (m2.write e2 ⟨_, upd_same, RepVs.keep kw _ _ (ra2.append (.cons r2 .nil))⟩) rNon
    · exact h2.elim
  · exact h1.elim

/-! ### what is walked -/
/-- a tuple, a list -/
def itemsOf (M : Mp) : D → Option (List D)
  | .tup xs => some xs
  | .lst xs => some xs
  | .scr ns => some (ns.map D.int)
  | _ => none
def dItems (t : TD) : TDI := fun ρ M Q => t ρ M fun d M1 => match itemsOf M1 d with
  | some xs => Q xs M1
  | none => False
theorem serves_L {xs : List D} {vs : List V} {a : Addr} {M : Mp} {H : Hp} (h : ∀ M' H', Keep M H M' H' → SqL X.K H' a vs ∧ RepVs X.K X.mg M' H' xs vs) : Serves X xs (Itl X.K a) M H := fun M' H' k m i => by
  obtain ⟨h1, h2⟩ := h M' H' k
  refine ⟨fun hl => ⟨vs, h1, by rw [← h2.length]; exact hl⟩, fun d e => ?_⟩
  obtain ⟨v, e1, r⟩ := h2.get e
  refine ⟨⟨vs, v, h1, e1⟩, fun x H2 y => ?_⟩
  obtain ⟨rfl, y⟩ := y
  have := y vs h1
  rw [e1] at this
  cases this
  exact ⟨.rfl', m, r⟩
theorem serves_T {xs : List D} {vs : List V} {a : Addr} {M : Mp} {H : Hp} (h : ∀ M' H', Keep M H M' H' → SqT X.K H' a vs ∧ RepVs X.K X.mg M' H' xs vs) : Serves X xs (Itt X.K a) M H := fun M' H' k m i => by
  obtain ⟨h1, h2⟩ := h M' H' k
  refine ⟨fun hl => ⟨vs, h1, by rw [← h2.length]; exact hl⟩, fun d e => ?_⟩
  obtain ⟨v, e1, r⟩ := h2.get e
  refine ⟨⟨vs, v, h1, e1⟩, fun x H2 y => ?_⟩
  obtain ⟨rfl, y⟩ := y
  have := y vs h1
  rw [e1] at this
  cases this
  exact ⟨.rfl', m, r⟩
/-- walking a list or a tuple, by what it is -/
theorem pi_seq {tg l : Expr} {tl : TE} (hl : PE X l tl) : PI X tg l fun σ H R => tl σ H fun x H1 => ∃ a, x = .ref a ∧ (((∃ xs, SqL X.K H1 a xs) ∧ R (Itl X.K a) H1) ∨ ((∃ xs, SqT X.K H1 a xs) ∧ R (Itt X.K a) H1)) := by
  constructor
  intro pins s σ H R I h
  refine thn (hl.run pins s σ H _ I h) ?_
  rintro v s1 ⟨x, H1, I1, r1, a, e, q⟩
  subst e
  cases r1
  have fp : ∀ b ∈ [s1.heap.objs.size], FpOk X pins H1 b := fun b hb => by
    obtain rfl : b = s1.heap.objs.size := by simpa using hb
    exact I1.fpOk (Nat.le_refl _) (I1.hok.fresh (Nat.le_refl _))
  rcases q with ⟨⟨xs, hq⟩, q⟩ | ⟨⟨xs, hq⟩, q⟩
  · obtain ⟨its, rv, p, _⟩ := I1.list hq
    exact wpAny_pyIter_list p.isList ⟨_, [s1.heap.objs.size], _, _, H1, rfl, I1.kept (t' := s1.toks) fun _ _ e => Heap.get?_push_of_some _ e, turn_list a _, ⟨_, Heap.get?_push_size _ rfl, rfl, rfl⟩, fp, q⟩
  · obtain ⟨its, rv, p, _⟩ := I1.tuple hq
    exact wpAny_pyIter_tuple (show s1.heap.IsTuple a its.toArray from p) ⟨_, [s1.heap.objs.size], _, _, H1, rfl, I1.kept (t' := s1.toks) fun _ _ e => Heap.get?_push_of_some _ e, turn_tuple a _, ⟨_, Heap.get?_push_size _ rfl, rfl, rfl⟩, fp, q⟩
theorem di_items {tg l : Expr} {t : TD} (hl : DE X B l t) : DI X B tg l (dItems t) := by
  refine PI.imp (pi_seq hl) fun σ H T h => ?_
  obtain ⟨ρ, M, R, hh, h, q⟩ := h
  refine ⟨ρ, M, _, hh, h, fun d M1 v H1 h1 k1 m1 r1 => ?_⟩
  cases d with
  | tup xs =>
    have h1 : R xs M1 := h1
    have r1' := r1
    unfold RepV at r1
    obtain ⟨a, vs, rfl, na, ha, ra⟩ := r1
    refine ⟨a, rfl, .inr ⟨⟨vs, SqT.of ha⟩, q _ _ _ _ h1 k1 m1 (serves_T (vs := vs) fun M' H' k => ⟨SqT.of (k.k _ _ ha na).1, RepVs.keep k _ _ ra⟩)⟩⟩
  | lst xs =>
    have h1 : R xs M1 := h1
    unfold RepV at r1
    obtain ⟨a, vs, rfl, na, ha, ra⟩ := r1
    refine ⟨a, rfl, .inl ⟨⟨vs, SqL.of ha⟩, q _ _ _ _ h1 k1 m1 (serves_L (vs := vs) fun M' H' k => ⟨SqL.of (k.k _ _ ha na).1, RepVs.keep k _ _ ra⟩)⟩⟩
  | scr ns =>
    have h1 : R (ns.map D.int) M1 := h1
    have r1' := r1
    obtain ⟨a, rfl, ha⟩ := scr_at r1
    refine ⟨a, rfl, .inl ⟨⟨_, ha⟩, q _ _ _ _ h1 k1 m1 (serves_L (vs := ns.map V.int) fun M' H' k => ⟨?_, RepVs.ints ns⟩)⟩⟩
    obtain ⟨b, e, hb⟩ := scr_at (RepV.keep k _ _ r1')
    cases e
    exact hb
  | _ => exact h1.elim
theorem serves_R {lo : Int} {n : Nat} {M : Mp} {H : Hp} : Serves X ((List.range n).map fun i : Nat => D.int (lo + i)) (Itr lo n) M H := fun M' H' k m i => by
  refine ⟨fun hl => (by simpa using hl : n ≤ i), fun d e => ?_⟩
  have hi : i < n := by
    have := (List.getElem?_eq_some_iff.mp e).1
    simpa using this
  rw [List.getElem?_map, List.getElem?_range hi] at e
  cases e
  refine ⟨hi, fun x H2 y => ?_⟩
  obtain ⟨rfl, rfl⟩ := y
  exact ⟨.rfl', m, rInt⟩
/-- range -/
def rangeD (lo hi : Int) : List D := (List.range (hi - lo).toNat).map fun i : Nat => D.int (lo + i)
def dRange1 (t : TDs) : TDI := fun ρ M Q => t ρ M fun ds M1 => match ds with
  | [.int j] => (-(2 ^ 62) ≤ j ∧ j < 2 ^ 62) ∧ Q (rangeD 0 j) M1
  | _ => False
def dRange2 (t : TDs) : TDI := fun ρ M Q => t ρ M fun ds M1 => match ds with
  | [.int i, .int j] => (-(2 ^ 62) ≤ i ∧ i < 2 ^ 62 ∧ -(2 ^ 62) ≤ j ∧ j < 2 ^ 62) ∧ Q (rangeD i j) M1
  | _ => False
theorem di_range1 {tg a : Expr} {t : TDs} {p pos : Pos} (hg : Gl X "range") (hm : X.mg "range" = none) (ha : DA X B [a] t) (hs : starEach [a] X.env = [(false, eval a X.env)] := by rfl) :
    DI X B tg (.Call (.Name "range" p) [a] [] pos) (dRange1 t) := by
  refine PI.imp (pi_range1 hg hm ha hs) fun σ H T h => ?_
  obtain ⟨ρ, M, R, hh, h, q⟩ := h
  refine ⟨ρ, M, _, hh, h, fun ds M1 vs H1 h1 k1 m1 r1 => ?_⟩
  split at h1
  · rename_i j
    obtain ⟨v, rfl, r0⟩ := r1.one
    have r1 := r0
    unfold RepV at r1
    subst r1
    refine ⟨j, rfl, h1.1.1, h1.1.2, q _ _ _ _ h1.2 k1 m1 ?_⟩
    have := @serves_R X 0 j.toNat M1 H1
    simpa [rangeD] using this
  · exact h1.elim
theorem di_range2 {tg a b : Expr} {t : TDs} {p pos : Pos} (hg : Gl X "range") (hm : X.mg "range" = none) (ha : DA X B [a, b] t) (hs : starEach [a, b] X.env = [(false, eval a X.env), (false, eval b X.env)] := by rfl) (hs2 : starEach [b] X.env = [(false, eval b X.env)] := by rfl) :
    DI X B tg (.Call (.Name "range" p) [a, b] [] pos) (dRange2 t) := by
  refine PI.imp (pi_range2 hg hm ha hs hs2) fun σ H T h => ?_
  obtain ⟨ρ, M, R, hh, h, q⟩ := h
  refine ⟨ρ, M, _, hh, h, fun ds M1 vs H1 h1 k1 m1 r1 => ?_⟩
  split at h1
  · rename_i i j
    obtain ⟨v, w, rfl, ra, rb⟩ := r1.two
    unfold RepV at ra rb
    subst ra rb
    exact ⟨i, j, rfl, h1.1, q _ _ _ _ h1.2 k1 m1 serves_R⟩
  · exact h1.elim
end
end DL
/-! The D layer, part f: defs and their calls. -/
namespace DL
open PySem PySem.Spec L2

/-- an exception of an own class, its attributes -/
structure XD where
  c : Str
  fs : List (Str × D)
abbrev XE' := XD → Mp → Prop
/-- what a def promises: the arguments, what may change, the wanted end, the wanted exception -/
abbrev DSp := List D → Mp → DK → XE' → Prop
section
variable (K : PySem.W.Frag) (mg : Str → Option Value) (M : Mp) (H : Hp)
def RepX (x : XD) (cls : Value) (dd : Option Addr) : Prop := (∃ C, mg x.c = some (.ref C) ∧ cls = .ref C) ∧ (x.fs = [] ∨ ∃ d gs, dd = some d ∧ M d = none ∧ H d = some (.xd gs) ∧ RepF K mg M H x.fs gs)
end
theorem RepX.keep {K : PySem.W.Frag} {mg : Str → Option Value} {M M' : Mp} {H H' : Hp} (k : Keep M H M' H') {x : XD} {cls : Value} {dd : Option Addr} (h : RepX K mg M H x cls dd) : RepX K mg M' H' x cls dd := by
  obtain ⟨a, b⟩ := h
  refine ⟨a, ?_⟩
  rcases b with b | ⟨d, gs, e, n, hd, r⟩
  · exact .inl b
  · exact .inr ⟨d, gs, e, (k.k _ _ hd n).2, (k.k _ _ hd n).1, r.keep k⟩

/-- room for calls; nothing is being shown -/
structure Cy (A : Around) (k : Nat) : Prop where
  room : Room k A
  gd : A.guards = some []
theorem Cy.mono {A : Around} {j k : Nat} (c : Cy A k) (h : j ≤ k) : Cy A j := ⟨c.room.mono h, c.gd⟩
theorem guards_deeper {A : Around} (env : Env) (h : A.guards = some []) : (A.deeper env).guards = some [] := h
theorem Cy.deeper {A : Around} {k : Nat} (c : Cy A (k + 1)) (env : Env) : Cy (A.deeper env) k := ⟨c.room.deeper env, guards_deeper env c.gd⟩
theorem Cy.hu {A : Around} {k : Nat} (c : Cy A k) : A.units + 64 < cLine := c.room.units
section
variable (P : Program) (w : World) (K : PySem.W.Frag) (mg : Str → Option Value) (base : Heap)
/-- the ends of a call -/
def okQ (M : Mp) (H : Hp) (Q : DK) : VK := fun v H' => ∃ d M', Keep M H M' H' ∧ RepM K mg M' H' ∧ RepV K mg M' H' d v ∧ Q d M'
def okE (M : Mp) (H : Hp) (E : XE') : XK := fun cls dd H' => ∃ x M', Keep M H M' H' ∧ RepM K mg M' H' ∧ RepX K mg M' H' x cls dd ∧ H' = H' ∧ E x M'
structure DFn (k : Nat) (f : Addr) (fd : FuncData) (ps : List Str) (sp : DSp) : Prop where
  len : ∀ ds M Q E, sp ds M Q E → ds.length = ps.length
  run : ∀ (A : Around) (outer : List Env) (s : Shared) (H : Hp) (M : Mp) (args : Args) (us : List Value) (vs : List V) (ds : List D) (Q : DK) (E : XE'), Cy A k → Env0 P w K mg base A outer s H → BindsTo s fd args (ps.zip us) → Vals vs us →
    RepM K mg M H → RepVs K mg M H ds vs → sp ds M Q E → codeAny (model P w) A (.call (.ref f) args) (CR (L2.CX P w) outer P w H s (okQ K mg M H Q) (okE K mg M H E)) s
/-- a def of the module by its name -/
def GFn (k : Nat) (x : Str) (sp : DSp) : Prop := ∃ f fd ps, DFn P w K mg base k f fd ps sp ∧ mg x = some (.ref f) ∧ PySem.W.keepIn K (.ref f) = true ∧ Binds K fd ps []
end
section
variable {P : Program} {w : World} {K : PySem.W.Frag} {mg : Str → Option Value} {base : Heap}
theorem DFn.mono {j k : Nat} {f : Addr} {fd : FuncData} {ps : List Str} {sp : DSp} (F : DFn P w K mg base j f fd ps sp) (h : j ≤ k) : DFn P w K mg base k f fd ps sp :=
  ⟨F.len, fun A outer s H M args us vs ds Q E c => F.run A outer s H M args us vs ds Q E (c.mono h)⟩
theorem GFn.mono {j k : Nat} {x : Str} {sp : DSp} (F : GFn P w K mg base j x sp) (h : j ≤ k) : GFn P w K mg base k x sp := let ⟨f, fd, ps, a, b⟩ := F; ⟨f, fd, ps, a.mono h, b⟩
theorem DFn.imp {k : Nat} {f : Addr} {fd : FuncData} {ps : List Str} {sp sp' : DSp} (F : DFn P w K mg base k f fd ps sp) (h : ∀ ds M Q E, sp' ds M Q E → sp ds M Q E) : DFn P w K mg base k f fd ps sp' :=
  ⟨fun ds M Q E q => F.len _ _ _ _ (h _ _ _ _ q), fun A outer s H M args us vs ds Q E c e b v m r q => F.run A outer s H M args us vs ds Q E c e b v m r (h _ _ _ _ q)⟩
theorem GFn.imp {k : Nat} {x : Str} {sp sp' : DSp} (F : GFn P w K mg base k x sp) (h : ∀ ds M Q E, sp' ds M Q E → sp ds M Q E) : GFn P w K mg base k x sp' := let ⟨f, fd, ps, a, b⟩ := F; ⟨f, fd, ps, a.imp h, b⟩
end

section
variable {X : Cx} {B : At} {k : Nat}
/-- what is wished of an exception, at the names -/
abbrev DW' := XD → Rho → Mp → Prop
def noW : DW' := fun _ _ _ => False
def lftX (X : Cx) (B : At) (W : DW') : WX := fun cls dd σ H => ∃ ρ M x, Here X B ρ σ M H ∧ RepX X.K X.mg M H x cls dd ∧ W x ρ M
def DTk (X : Cx) (B : At) (W : DW') : Prop := Takes X (lftX X B W)
theorem tk_no : DTk X B noW := (takes0 (X := X)).imp fun c d σ H ⟨_, _, _, _, _, z⟩ => z.elim
/-- the callee runs -/
theorem run_dfn {f : Addr} {fd : FuncData} {ps : List Str} {sp : DSp} {W : DW'} {pins : List (Addr × Obj)} {σ : L2.St} {H : Hp} {s : Shared} {M : Mp} {ρ : Rho} {us : List Value} {vs : List V} {ds : List D} {R : DK} {Q : VK} {args : Args}
    (F : DFn X.prog X.w X.K X.mg X.base k f fd ps sp) (c : Cy X.A k) (tk : DTk X B W) (I : Inv X pins σ H s) (hh : Here X B ρ σ M H) (hb : BindsTo s fd args (ps.zip us)) (r : Vals vs us) (rs : RepVs X.K X.mg M H ds vs)
    (h : sp ds M R fun x M' => W x ρ M') (q : Back X M H R Q) : codeAny (model X.prog X.w) X.A (.call (.ref f) args) (fun r s' => match r with | .ok (.ret u) => EP X pins σ Q u s' | .ok _ => False | .error e => X.xe e s') s := by
  refine codeAny_mono (F.run X.A X.stack s H M args us vs ds R _ c I.env0 hb r hh.m rs h) fun r s' hq => ?_
  cases r with
  | error e =>
    refine tk e s' (XE.of_call (W := lftX X B W) I (fun cls dd H' he => ?_) hq)
    obtain ⟨x, M', k', m', rx, _, e'⟩ := he
    exact ⟨ρ, M', x, hh.step k' m', rx, e'⟩
  | ok fl =>
    cases fl with
    | ret u =>
      obtain ⟨v, H', I', rv, d, M', k', m', rd, h'⟩ := I.after hq
      exact ⟨v, H', I', rv, q d M' v H' h' k' m' rd⟩
    | next => exact False.elim hq
    | brk => exact False.elim hq
    | cont => exact False.elim hq
theorem wants_of {Q : Value → Shared → Prop} {E : Value → Shared → Prop} {X : Cx} {c : Code} {s : Shared} (h : codeAny (model X.prog X.w) X.A c (fun r s' => match r with | .ok (.ret u) => Q u s' | .ok _ => False | .error e => E e s') s) : True := trivial
def dCall (sp : DSp) (W : DW') (t : TDs) : TD := fun ρ M Q => t ρ M fun ds M1 => sp ds M1 Q fun x M2 => W x ρ M2
theorem run_call {f : Addr} {fd : FuncData} {ps : List Str} {sp : DSp} {W : DW'} {pins : List (Addr × Obj)} {σ : L2.St} {H : Hp} {s : Shared} {M : Mp} {ρ : Rho} {us : List Value} {vs : List V} {ds : List D} {R : DK} {Q : VK}
    (F : DFn X.prog X.w X.K X.mg X.base k f fd ps sp) (c : Cy X.A k) (tk : DTk X B W) (hb : Binds X.K fd ps []) (I : Inv X pins σ H s) (hh : Here X B ρ σ M H) (r : Vals vs us) (rs : RepVs X.K X.mg M H ds vs)
    (h : sp ds M R fun x M' => W x ρ M') (q : Back X M H R Q) : wpAny (model X.prog X.w) X.A (call (.ref f) us) (EP X pins σ Q) X.xe s := by
  have hl : (us ++ []).length = ps.length := by rw [List.append_nil, ← r.length, ← rs.length]; exact F.len _ _ _ _ h
  have hb' := hb s us I.kIn hl
  rw [List.append_nil] at hb'
  refine wpAny_call (codeAny_mono (run_dfn F c tk I hh hb' r rs h q) fun r s' hq => ?_)
  cases r with
  | error e => exact hq
  | ok fl => cases fl <;> exact hq
theorem de_call {x : Str} {sp : DSp} {W : DW'} {e : Expr} {es : List Expr} {t : TDs} {p pos : Pos} (G : GFn X.prog X.w X.K X.mg X.base k x sp) (c : Cy X.A k) (tk : DTk X B W) (hg : Gl X x) (ha : DA X B (e :: es) t)
    (hdb : (x == ("__debug__" : Str)) = false := by decide) (he : starEach (e :: es) X.env = (false, eval e X.env) :: starEach es X.env := by rfl) (hpl : (backTo pos (starEach es X.env)).any (·.1) = false := by rfl) :
    DE X B (.Call (.Name x p) (e :: es) [] pos) (dCall sp W t) := by
  obtain ⟨f, fd, ps, F, hm, hk, hb⟩ := G
  constructor
  intro pins s σ H Q I h
  obtain ⟨ρ, M, R, hh, h, q⟩ := h
  refine wpAny_Call_Name_kw (ld_glob I hg hm ?_ hdb)
  refine PySem.W.callWith_K (h₀ := X.base) I.ok.mod.kin hk (thn (ha.run pos pins s σ H (fun vs H1 => ∃ ds M1, Keep M H M1 H1 ∧ RepM X.K X.mg M1 H1 ∧ RepVs X.K X.mg M1 H1 ds vs ∧ sp ds M1 R fun x M2 => W x ρ M2) I
    ⟨ρ, M, _, hh, h, fun ds M1 vs H1 h1 k1 m1 r1 => ⟨ds, M1, k1, m1, r1, h1⟩⟩) fun us s1 hs => ?_) he hpl
  obtain ⟨vs, H1, I1, r, ds, M1, k1, m1, r1, h1⟩ := hs
  exact ⟨I1.kIn, run_call F c tk hb I1 (hh.step k1 m1) r r1 h1 fun d M2 v H2 h2 k2 m2 r2 => q d M2 v H2 h2 (k1.trans k2) m2 r2⟩
theorem de_call0 {x : Str} {sp : DSp} {W : DW'} {p pos : Pos} (G : GFn X.prog X.w X.K X.mg X.base k x sp) (c : Cy X.A k) (tk : DTk X B W) (hg : Gl X x)
    (hdb : (x == ("__debug__" : Str)) = false := by decide) : DE X B (.Call (.Name x p) [] [] pos) (dCall sp W dNil) := by
  obtain ⟨f, fd, ps, F, hm, hk, hb⟩ := G
  constructor
  intro pins s σ H Q I h
  obtain ⟨ρ, M, R, hh, h, q⟩ := h
  refine wpAny_Call_Name_kw (ld_glob I hg hm ?_ hdb)
  exact PySem.W.callWith_K0 I.kIn hk (run_call (us := []) F c tk hb I hh .nil .nil h q)
/-- f(a, .., k = b, ..) -/
def dCallK (sp : DSp) (g : List D → List D → List D) (W : DW') (t tk : TDs) : TD := fun ρ M Q => t ρ M fun ds M1 => tk ρ M1 fun es M2 => sp (g ds es) M2 Q fun x M3 => W x ρ M3
end

/-! ### a def's body keeps its promise -/
section
variable {P : Program} {w : World} {K : PySem.W.Frag} {mg : Str → Option Value} {base : Heap}
def startD (N : List Str) (ds : List D) : Rho := ds.map some ++ List.replicate (N.length - ds.length) none
/-- the wish of exceptions in a def's body -/
def fnW (E : XE') : DW' := fun x _ M => E x M
/-- the context of a def's body -/
abbrev cxD (P : Program) (w : World) (K : PySem.W.Frag) (mg : Str → Option Value) (base : Heap) (N : List Str) (qual : Str) (st : Stmt) (f : Addr) (cdv : Value) (A : Around) (outer : List Env) (s : Shared) (H : Hp) (M : Mp) (E : XE') : Cx :=
  cxOf (L2.CX P w) P w K mg base N qual (defScope st) f cdv A outer s H (okE K mg M H E)
theorem tk_fn {N : List Str} {qual : Str} {st : Stmt} {f : Addr} {cdv : Value} {A : Around} {outer : List Env} {s : Shared} {H : Hp} {M : Mp} {E : XE'} : DTk (cxD P w K mg base N qual st f cdv A outer s H M E) ⟨M, H⟩ (fnW E) := by
  refine Takes.imp (takes_of (E := okE K mg M H E) rfl rfl rfl rfl) fun c d σ H' z => ?_
  obtain ⟨ρ, M', x, hh, rx, e⟩ := z
  exact ⟨x, M', hh.k, hh.m, rx, rfl, e⟩
theorem startD_rep {N : List Str} {M : Mp} {H : Hp} {ds : List D} {vs : List V} (r : RepVs K mg M H ds vs) : RepS K mg M H (startD N ds) (L2.start N vs) := by
  unfold startD L2.start
  refine ⟨by simp [r.length], fun i d e => ?_⟩
  by_cases hi : i < ds.length
  · rw [List.getElem?_append_left (by simpa using hi), List.getElem?_map] at e
    cases q : ds[i]? with
    | none => rw [q] at e; cases e
    | some d' =>
      rw [q] at e
      cases e
      obtain ⟨v, e1, rv⟩ := r.get q
      refine ⟨v, ?_, rv⟩
      rw [List.getElem?_append_left (by rw [List.length_map, ← r.length]; exact hi), List.getElem?_map, e1]
      rfl
  · rw [List.getElem?_append_right (by simpa using hi), List.getElem?_replicate] at e
    split at e <;> cases e
theorem dfn_of {x qual : Str} {st : Stmt} {f : Addr} {fd : FuncData} {N ps : List Str} {k : Nat} {sp : DSp} (F : FunD K x qual (defArgs st) (defBody st) (defScope st) [] [] f fd) (S : FnScope N ps (defScope st)) (len : ∀ ds M Q E, sp ds M Q E → ds.length = ps.length)
    (body : ∀ (cdv : Value) (A : Around) (outer : List Env) (s : Shared) (H : Hp) (M : Mp) (ds : List D) (Q : DK) (E : XE'), Cy (A.deeper (PyProof.Rows.envOfC qual (defScope st) s.heap.objs.size f cdv)) k → sp ds M Q E →
      ∃ t, DSs (cxD P w K mg base N qual st f cdv A outer s H M E) ⟨M, H⟩ (defBody st) t ∧ t { nx := fun _ M' => Wk (Q .non) M', rt := fun d M' => Wk (Q d) M' } (startD N ds) M) : DFn P w K mg base (k + 1) f fd ps sp := by
  obtain ⟨oc, od, dV, kV, doc, pm, an, cdv, ct, osl, rfl, lk, hcd, _⟩ := F.ex
  refine ⟨len, fun A outer s H M args us vs ds Q E c e0 hb r m rd hsp => ?_⟩
  have hl : vs.length = ps.length := by rw [← rd.length]; exact len _ _ _ _ hsp
  have KX : K.In s.heap := e0.mod.kin.keeps fun b o e => (e0.bs b o e).1
  have lim : s.heap.NoLimit := e0.mod.nolimit.keeps fun b o e => (e0.bs b o e).1
  have hkd : ∀ y ∈ ps.zip us, (defScope st).names.lookup y.1 = some .local ∨ ((defScope st).names.lookup y.1 = some .cell ∧ ((cellsFrom (s.heap.objs.size + 1) (defScope st).names []).lookup y.1).isSome = true) := by
    rintro ⟨n, v⟩ hy
    exact (S.par n (List.of_mem_zip hy).1).imp id fun q => ⟨q, PySem.W.cellsFrom_some _ _ _ (.inl q)⟩
  refine codeAny_call_function c.room.depth (KX _ _ lk) rfl S.co S.gen rfl (PySem.W.codeRec_of KX hcd) (hb _ _ _ _ ?_)
  refine wpAny_newFunctionEnv_cells S.kind hkd ?_
  rintro env rfl s1 x
  refine ⟨lim.keeps x.toInCall.keep, codeAny_func ?_⟩
  obtain ⟨t, ht, hq⟩ := body cdv A outer s H M ds Q E (c.deeper _) hsp
  have I : Inv (cxD P w K mg base N qual st f cdv A outer s H M E) [] (L2.start N vs) H s1 := inv_start S c.room.hd e0 hl r x
  have hh : Here (cxD P w K mg base N qual st f cdv A outer s H M E) ⟨M, H⟩ (startD N ds) (L2.start N vs) M H := ⟨startD_rep rd, m, .rfl'⟩
  refine wpAny_mono (ht.run [] s1 (start N vs) H { nx := fun _ H' => okQ K mg M H Q .non H', rt := okQ K mg M H Q } I ⟨⟨M, H⟩, startD N ds, M, _, .rfl', hh, ⟨?_, ?_, ?_, ?_⟩, hq⟩) ?_ fun e s' hs => hs
  · exact fun ρ σ M' H' h q => let ⟨M0, l, q⟩ := q; ⟨.non, M0, h.k.less l, h.m.less l, rNon, q⟩
  · exact fun _ _ _ _ _ z => z.elim
  · exact fun _ _ _ _ _ z => z.elim
  · exact fun d v M' H' k' m' rv q => let ⟨M0, l, q⟩ := q; ⟨d, M0, k'.less l, m'.less l, rv.less l, q⟩
  · intro fl s' hs
    cases fl with
    | ret u =>
      obtain ⟨v, σ', H', J, rv, q⟩ := hs
      exact ⟨v, H', J.os, J.bare, J.base, J.hok, rv, q⟩
    | next =>
      obtain ⟨σ', H', J, q⟩ := hs
      exact ⟨.non, H', J.os, J.bare, J.base, J.hok, rfl, q⟩
    | brk => obtain ⟨_, _, _, q⟩ := hs; exact q.elim
    | cont => obtain ⟨_, _, _, q⟩ := hs; exact q.elim
end
end DL
/-! The D layer, part g: the law's end. -/
namespace DL
open PySem PySem.Spec L2

/-- the law's promise: over a script of so many ints it gives True -/
def spLaw : DSp := fun ds M Q _ => match ds with
  | [.scr ns] => ns.length ≤ 63 ∧ Q (.bl true) M
  | _ => False
abbrev FunP (K : PySem.W.Frag) (x qual : Str) (st : Stmt) (f : Addr) (fd : FuncData) : Prop := FunD K x qual (defArgs st) (defBody st) (defScope st) [] [] f fd
theorem fun_of {K : PySem.W.Frag} {x qual : Str} {st : Stmt} {f : Addr} {fd : FuncData} (F : FunP K x qual st f fd) : ∃ fd', fd' = fd ∧ (∃ (oc : Value) (od : Option Addr) (dV kV doc pm : Value) (an : Option Addr) (cdv ct : Value) (osl : Array (Option Value)),
    fd = PySem.W.fnOf x qual (defArgs st) (defBody st) (defScope st) dV kV doc pm an cdv ct ∧ K.lookup f = some ⟨oc, od, .func fd, osl⟩ ∧ PySem.W.codeIn K cdv qual = true) :=
  let ⟨oc, od, dV, kV, doc, pm, an, cdv, ct, osl, e, l, c, _⟩ := F.ex
  ⟨fd, rfl, oc, od, dV, kV, doc, pm, an, cdv, ct, osl, e, l, c⟩
theorem callerA_gd : callerA.guards = some [] := by first | rfl | decide

section
variable {P : Program} {w : World} {K : PySem.W.Frag} {mg mb : Str → Option Value} {k : Nat} {fa a : Addr} {fd : FuncData} {x : Str} {s1 : Shared} {vs : List Value} {ns : List Int}
/-- the law's call: nothing but the script may be told of -/
theorem law_core {H : Hp} (KX : K.In s1.heap) (hns : s1.heap.Ns mainGlobals mg) (hb : s1.heap.Ns builtinsNs mb) (hbb : ∀ x : Str, x ≠ "__name__" → mb x = bootBuiltins x) (hlim : s1.heap.NoLimit) (hg : s1.gens = #[])
    (hs : s1.heap.get? a = some { cls := .type "list", data := .seq vs.toArray }) (len : ns.length ≤ 63) (hr : Room k callerA)
    (F : ∀ base : Heap, K.In base → base.Ns mainGlobals mg → DFn P w K mg base k fa fd [x] spLaw) (bind : ∀ (s : Shared) (u : Value), BindsTo s fd ⟨[u], []⟩ [(x, u)])
    (hO : Only H) (hS : SqL K H a (ns.map V.int)) (hSd : RepV K mg (fun _ => none) H (.scr ns) (.ref a)) (hok : HOk P w H s1.heap) (hA : ∀ b, H b ≠ none → b = a) (hK : H a ≠ none → K.lookup a = none) :
    codeAny (model P w) callerA (.call (.ref fa) ⟨[.ref a], []⟩) (fun r s' => r = .ok (.ret (.bool true)) ∧ OldK s1.heap s'.heap ∧ s'.os = s1.os ∧ PyProof.Rows.AllBare s'.gens) s1 := by
  have dict_free : ∀ {b : Addr} {o : Obj} {es : Array DictEntry} {ep : Nat}, s1.heap.get? b = some o → o.data = .dict es ep → H b = none := by
    intro b o es ep e d
    rcases q : H b with _ | u
    · rfl
    · obtain rfl := hA b (by rw [q]; exact Option.some_ne_none u)
      rw [hs] at e
      injection e with e
      rw [← e] at d
      cases d
  have nsK : ∀ {b : Addr} {m : Str → Option Value}, s1.heap.Ns b m → (hidT s1.heap H).Ns b m := by
    rintro b m ⟨o, es, ep, e, d, r⟩
    exact ⟨o, es, ep, hidT_get e (dict_free e d), d, r⟩
  have kb : K.In (hidT s1.heap H) := by
    intro b o e
    refine hidT_get (KX b o e) ?_
    rcases q : H b with _ | u
    · rfl
    · have nb : H b ≠ none := by rw [q]; exact Option.some_ne_none u
      obtain rfl := hA b nb
      rw [hK nb] at e
      cases e
  have md : Mod K mg (hidT s1.heap H) := ⟨kb, nsK hns, ⟨mb, nsK hb, hbb⟩, let ⟨mc, h1, h2⟩ := hlim; ⟨mc, nsK h1, h2⟩⟩
  have none_mem : ∀ b : Addr, b ∉ frs ([] : List Env) := fun b z => by cases z
  have e0 : Env0 P w K mg (hidT s1.heap H) callerA [] s1 H := ⟨rfl, md, fun _ _ e => of_hidT e, Nat.le_of_eq (hidT_size _ _), trivial, fun b z => absurd z (none_mem b), hok, .of_eq hg⟩
  have m0 : RepM K mg (fun _ => none) H := fun b o e => by cases e
  refine codeAny_mono ((F _ kb (nsK hns)).run callerA [] s1 H (fun _ => none) ⟨[.ref a], []⟩ [.ref a] [.ref a] [.scr ns] (fun d _ => d = .bl true) (fun _ _ => False) ⟨hr, callerA_gd⟩ e0 (bind s1 (.ref a)) (.cons rfl .nil) m0 (.cons hSd .nil) ⟨len, rfl⟩) ?_
  intro r s' h
  rcases r with e | fl
  · obtain ⟨_, _, _, _, _, _, _, _, _, _, _, _, ⟨_, _, _, _, _, _, z⟩⟩ := h
    exact z.elim
  · cases fl with
    | next => exact False.elim h
    | brk => exact False.elim h
    | cont => exact False.elim h
    | ret u =>
      obtain ⟨v, H', os, bare, un, hok', r', d, M', _, _, rd, rfl⟩ := h
      unfold RepV at rd
      subst rd
      obtain rfl : u = Value.bool true := r'
      refine ⟨rfl, OldK.of_keep fun b o e => ?_, os, bare⟩
      rcases q : H b with _ | u
      · exact un.keep b o e q (none_mem b) (by simp)
      · rcases hO b with z | ⟨ob, xs, z⟩
        · rw [q] at z; cases z
        · obtain ⟨e1, _⟩ := hok b _ z
          obtain ⟨e2, _⟩ := hok' b _ (un.frzs b ob _ z)
          rw [e] at e1; cases e1
          exact e2
theorem law_run (KX : K.In s1.heap) (hns : s1.heap.Ns mainGlobals mg) (hb : s1.heap.Ns builtinsNs mb) (hbb : ∀ x : Str, x ≠ "__name__" → mb x = bootBuiltins x) (hlim : s1.heap.NoLimit) (hg : s1.gens = #[])
    (hs : s1.heap.get? a = some { cls := .type "list", data := .seq vs.toArray }) (hi : PyProof.Rows.IntsAre vs ns) (len : ns.length ≤ 63) (hr : Room k callerA)
    (F : ∀ base : Heap, K.In base → base.Ns mainGlobals mg → DFn P w K mg base k fa fd [x] spLaw) (bind : ∀ (s : Shared) (u : Value), BindsTo s fd ⟨[u], []⟩ [(x, u)]) :
    codeAny (model P w) callerA (.call (.ref fa) ⟨[.ref a], []⟩) (fun r s' => r = .ok (.ret (.bool true)) ∧ OldK s1.heap s'.heap ∧ s'.os = s1.os ∧ PyProof.Rows.AllBare s'.gens) s1 := by
  have rv := vals_ints hi
  have lenV := hi.length
  have hz : ns.length ≤ sizeLine := Nat.le_trans len (by decide)
  rcases hk : K.lookup a with _ | o
  · refine law_core (H := fun b => if b = a then some (.frz { cls := .type "list", data := .seq vs.toArray } (.lst (ns.map V.int))) else none) KX hns hb hbb hlim hg hs len hr F bind (fun b => ?_) (.inl (.inr ⟨_, if_pos rfl⟩)) ?_ (fun b u z => ?_) (fun b z => ?_) fun _ => hk
    · by_cases hb : b = a
      · exact .inr ⟨_, _, if_pos hb⟩
      · exact .inl (if_neg hb)
    · unfold RepV
      exact ⟨a, rfl, .inl ⟨rfl, .inr ⟨_, if_pos rfl⟩⟩⟩
    · by_cases hb : b = a
      · subst hb
        have z' := (if_pos rfl).symm.trans z
        cases z'
        exact ⟨hs, by rw [List.length_map]; exact hz, vs, _, rv, hs⟩
      · have z' := (if_neg hb).symm.trans z
        cases z'
    · by_cases hb : b = a
      · exact hb
      · exact absurd (if_neg hb) z
  · have e := KX a o hk
    rw [hs] at e
    cases e
    have hS : SqL K (fun _ => none) a (ns.map V.int) := .inr ⟨_, vs.toArray, _, hk, rfl, rfl, rfl, by rw [List.size_toArray, lenV]; exact hz, by simpa using rv⟩
    refine law_core (H := fun _ => none) KX hns hb hbb hlim hg hs len hr F bind (fun _ => .inl rfl) hS ?_ (fun b u z => by cases z) (fun b z => absurd rfl z) fun z => absurd rfl z
    unfold RepV
    exact ⟨a, rfl, .inr hS⟩
end
/-- the goal of the head, from the law's promise -/
theorem walk_D {l : PySem.W.OpenLaw} {k : Nat} {q : Program} {loose : List Str} {XP : (Str → Option Value) → Heap → Prop} {YP : World → Heap → Prop} {d : DefRec} {x : Str}
    (hn : l.most = some 63) (hdf : d.params.defaults = []) (hr : Room k callerA)
    (F : ∀ (w : World) (mg : Str → Option Value) (fa : Addr) (h : Heap), YP w h → h.Ns mainGlobals mg → mg d.name = some (.ref fa) →
      ∃ (K : PySem.W.Frag) (fd : FuncData), K.In h ∧ (∀ (s : Shared) (u : Value), BindsTo s fd ⟨[u], []⟩ [(x, u)]) ∧ ∀ base : Heap, K.In base → base.Ns mainGlobals mg → DFn l.prog w K mg base k fa fd [x] spLaw) :
    PySem.W.WalkO q loose XP YP l.row.toRowW d [] (fun f vs => PySem.call f vs) := by
  refine Att.attach_call hn hdf ?_
  intro w s0 s1 mg mb fa o pm cd doc a vs ns G Y ho hd hcd hmg hobj hints hlen hg
  obtain ⟨K, fd, KX, hb, hF⟩ := F w mg fa _ Y G.T.g hmg
  exact law_run KX G.T.g G.T.b G.T.builtins G.T.nolimit hg hobj hints hlen hr hF hb
end DL
/-! The D layer, part h: small rules, names of what is built in. -/
namespace DL
open PySem PySem.Spec L2
theorem b_len : bootBuiltins "len" = some (.builtin "len") := by first | exact PyProof.Rows.boot_len | exact PySem.boot_len | decide +kernel
theorem b_abs : bootBuiltins "abs" = some (.builtin "abs") := by first | exact PyProof.Rows.boot_abs | exact PySem.boot_abs | decide +kernel
theorem b_max : bootBuiltins "max" = some (.builtin "max") := by first | exact PyProof.Rows.boot_max | exact PySem.boot_max | decide +kernel
theorem b_min : bootBuiltins "min" = some (.builtin "min") := by first | exact PyProof.Rows.boot_min | exact PySem.boot_min | decide +kernel
theorem b_int : bootBuiltins "int" = some (.type "int") := by first | exact PyProof.Rows.boot_int | exact PySem.boot_int | decide +kernel
theorem b_bool : bootBuiltins "bool" = some (.type "bool") := by first | exact PyProof.Rows.boot_bool | exact PySem.boot_bool | decide +kernel
theorem b_str : bootBuiltins "str" = some (.type "str") := by first | exact PyProof.Rows.boot_str | exact PySem.boot_str | decide +kernel
theorem b_tuple : bootBuiltins "tuple" = some (.type "tuple") := by first | exact PyProof.Rows.boot_tuple | exact PySem.boot_tuple | decide +kernel
theorem b_list : bootBuiltins "list" = some (.type "list") := by first | exact PyProof.Rows.boot_list | exact PySem.boot_list | decide +kernel
theorem b_dict : bootBuiltins "dict" = some (.type "dict") := by first | exact PyProof.Rows.boot_dict | exact PySem.boot_dict | decide +kernel
theorem b_float : bootBuiltins "float" = some (.type "float") := by first | exact PyProof.Rows.boot_float | exact PySem.boot_float | decide +kernel
theorem b_divmod : bootBuiltins "divmod" = some (.builtin "divmod") := by first | exact PyProof.Rows.boot_divmod | exact PySem.boot_divmod | decide +kernel
theorem b_sum : bootBuiltins "sum" = some (.builtin "sum") := by first | exact PyProof.Rows.boot_sum | exact PySem.boot_sum | decide +kernel
theorem b_all : bootBuiltins "all" = some (.builtin "all") := by first | exact PyProof.Rows.boot_all | exact PySem.boot_all | decide +kernel
theorem b_any : bootBuiltins "any" = some (.builtin "any") := by first | exact PyProof.Rows.boot_any | exact PySem.boot_any | decide +kernel
theorem b_isinstance : bootBuiltins "isinstance" = some (.builtin "isinstance") := by first | exact PyProof.Rows.boot_isinstance | exact PySem.boot_isinstance | decide +kernel
theorem b_sorted : bootBuiltins "sorted" = some (.builtin "sorted") := by first | exact PyProof.Rows.boot_sorted | exact PySem.boot_sorted | decide +kernel
theorem b_repr : bootBuiltins "repr" = some (.builtin "repr") := by first | exact PyProof.Rows.boot_repr | exact PySem.boot_repr | decide +kernel
theorem Cy.hu65 {A : Around} {k : Nat} (c : Cy A k) : A.units + 65 < cLine := by have := c.room.un; omega
section
variable {X : Cx}
abbrev gPlus : DR2 := gI (fun _ _ => True) fun i j => .int (i + j)
theorem ia_add : PIp X .Add (rI0 fun i j => .int (i + j)) ∧ OpC X (rI0 fun i j => .int (i + j)) gPlus := ⟨iop_add, opI0 fun _ _ _ _ => rInt⟩
theorem ia_mul : PIp X .Mult (fun x y H Q => rI CMul (fun i j => .int (i * j)) x y H Q ∨ rI CMulW (fun i j => .int (i * j)) x y H Q) ∧
    OpC X (fun x y H Q => rI CMul (fun i j => .int (i * j)) x y H Q ∨ rI CMulW (fun i j => .int (i * j)) x y H Q) (gI mulOk fun i j => .int (i * j)) := by
  refine ⟨?_, ?_⟩
  · exact OpR.or iop_mul (L2.opI fun _ _ _ _ _ _ _ hc q => PyProof.Rows.imul_int q hc.ok)
  · intro M H d1 d2 v1 v2 R Q m r1 r2 g q
    unfold gI at g
    split at g
    · rename_i i j
      unfold RepV at r1 r2
      rcases g.1 with c | c
      · exact .inl ⟨i, j, r1, r2, c, q _ _ _ _ g.2 .rfl' m rInt⟩
      · exact .inr ⟨i, j, r1, r2, c, q _ _ _ _ g.2 .rfl' m rInt⟩
    · exact g.elim
theorem mt_sub {i : Nat} {k : D} : ∀ d ρ M (Q : Rho → Mp → Prop), dgSub (dV i) (dC k) d ρ M Q → ∃ ρ' M', Q ρ' M' := fun d ρ M Q h => by
  unfold dgSub dV dC at h
  split at h
  · dsimp only at h
    split at h
    · split at h
      · split at h
        · exact ⟨_, _, h⟩
        · exact h.elim
      · exact h.elim
    · exact h.elim
  · exact h.elim
end
end DL
/-! The D layer, part i: words for the readings. -/
namespace DL
open PySem PySem.Spec L2
theorem Wk.rfl' {P : Mp → Prop} {M : Mp} (h : P M) : Wk P M := ⟨M, MLe.rfl', h⟩
/-- a while, by what holds and a number that falls -/
theorem while_by {c : TDb} {t : TDS} {E : DEnds} {ρ : Rho} {M : Mp} (Inv : Rho → Mp → Prop) (μ : Rho → Mp → Nat) (h0 : Inv ρ M)
    (step : ∀ (ρ : Rho) (M : Mp) (P : Rho → Mp → Prop), Inv ρ M → (∀ ρ' M', Inv ρ' M' → μ ρ' M' < μ ρ M → P ρ' M') →
      c ρ M fun b M1 => (b = true → t { E with nx := fun ρ' M' => Wk (P ρ') M', ct := fun ρ' M' => Wk (P ρ') M', bk := E.nx } ρ M1) ∧ (b = false → E.nx ρ M1)) : dWhile c t E ρ M := by
  have key : ∀ (n : Nat) (ρ : Rho) (M : Mp), Inv ρ M → μ ρ M < n → dWhileN c t E n ρ M := by
    intro n
    induction n with
    | zero => intro ρ M _ h; omega
    | succ n ih =>
      intro ρ M hi hm
      exact step ρ M (fun ρ' M' => dWhileN c t E n ρ' M') hi fun ρ' M' hi' hm' => ih ρ' M' hi' (by omega)
  exact ⟨_, key _ ρ M h0 (Nat.lt_succ_self _)⟩
/-- .. the number told with what holds -/
theorem while_byN {c : TDb} {t : TDS} {E : DEnds} {ρ : Rho} {M : Mp} (Inv : Nat → Rho → Mp → Prop) (n : Nat) (h0 : Inv n ρ M)
    (step : ∀ (n : Nat) (ρ : Rho) (M : Mp) (P : Rho → Mp → Prop), Inv n ρ M → (∀ n' ρ' M', Inv n' ρ' M' → n' < n → P ρ' M') →
      c ρ M fun b M1 => (b = true → t { E with nx := fun ρ' M' => Wk (P ρ') M', ct := fun ρ' M' => Wk (P ρ') M', bk := E.nx } ρ M1) ∧ (b = false → E.nx ρ M1)) : dWhile c t E ρ M := by
  have key : ∀ (b : Nat) (n : Nat) (ρ : Rho) (M : Mp), Inv n ρ M → n < b → dWhileN c t E b ρ M := by
    intro b
    induction b with
    | zero => intro n ρ M _ h; omega
    | succ b ih =>
      intro n ρ M hi hm
      exact step n ρ M (fun ρ' M' => dWhileN c t E b ρ' M') hi fun n' ρ' M' hi' hm' => ih n' ρ' M' hi' (by omega)
  exact ⟨_, key _ n ρ M h0 (Nat.lt_succ_self _)⟩
/-- a for, by what holds behind so many turns -/
theorem for_by {g : TDG} {t : TDS} {E : DEnds} {items : List D} {ρ : Rho} {M : Mp} (Inv : Nat → Rho → Mp → Prop) (h0 : Inv 0 ρ M)
    (step : ∀ (i : Nat) (d : D) (ρ : Rho) (M : Mp) (P : Rho → Mp → Prop), items[i]? = some d → Inv i ρ M → (∀ ρ' M', Inv (i + 1) ρ' M' → P ρ' M') →
      g d ρ M fun ρ1 M1 => t { E with nx := fun ρ' M' => Wk (P ρ') M', ct := fun ρ' M' => Wk (P ρ') M', bk := E.nx } ρ1 M1)
    (hd : ∀ ρ M, Inv items.length ρ M → E.nx ρ M) : forL g t E items ρ M := by
  have key : ∀ (xs : List D) (i : Nat) (ρ : Rho) (M : Mp), items.drop i = xs → i ≤ items.length → Inv i ρ M → forL g t E xs ρ M := by
    intro xs
    induction xs with
    | nil =>
      intro i ρ M e hi h
      have : items.length ≤ i := List.drop_eq_nil_iff.mp e
      have : i = items.length := by omega
      subst this
      exact hd ρ M h
    | cons d xs ih =>
      intro i ρ M e hi h
      have hlt : i < items.length := by
        rcases Nat.lt_or_ge i items.length with q | q
        · exact q
        · rw [List.drop_of_length_le q] at e; cases e
      rw [List.drop_eq_getElem_cons hlt] at e
      injection e with e1 e2
      exact step i d ρ M (fun ρ' M' => forL g t E xs ρ' M') (by rw [List.getElem?_eq_getElem hlt, e1]) h fun ρ' M' h' => ih (i + 1) ρ' M' e2 hlt h'
  exact key items 0 ρ M rfl (Nat.zero_le _) h0
/-- a settled name: the list at the head of the map -/
theorem settle_at {i : Nat} {t : TDS} {E : DEnds} {ρ : Rho} {M : Mp} {a : Addr} {ds : List D} (h : ρ[i]? = some (some (.ref a))) (hn : M a = none)
    (k : t E (ρ.set i (some (.lst ds))) M) : dSettle i t E ρ (um M a (.lst ds)) := by
  unfold dSettle
  rw [h]
  simp only [um_same]
  rw [dm_um hn]
  exact k
theorem for_lst {i : Nat} {g : TDG} {t : TDS} {E : DEnds} {ρ : Rho} {M : Mp} {xs : List D} (h : ρ[i]? = some (some (.lst xs))) (k : forL g t E xs ρ M) :
    dFor (dItems (dV i)) g t E ρ M := by
  unfold dFor dItems dV
  rw [h]
  exact k
theorem settle_for {i : Nat} {g : TDG} {t u : TDS} {E : DEnds} {ρ ρ' : Rho} {M : Mp} {a : Addr} {ds : List D} (h : ρ[i]? = some (some (.ref a))) (hn : M a = none) (hr : ρ.set i (some (.lst ds)) = ρ')
    (k : forL g t { E with nx := u E } ds ρ' M) : dSettle i (dSeq (dFor (dItems (dV i)) g t) u) E ρ (um M a (.lst ds)) := by
  subst hr
  refine settle_at h hn (for_lst ?_ k)
  obtain ⟨h1, h2⟩ := List.getElem?_eq_some_iff.mp h
  simp [List.getElem?_set, h1]
theorem rangeD_get {lo hi : Int} {i : Nat} {d : D} (h : (rangeD lo hi)[i]? = some d) : d = .int (lo + i) ∧ (i : Int) < hi - lo := by
  unfold rangeD at h
  rw [List.getElem?_map] at h
  rcases Nat.lt_or_ge i (hi - lo).toNat with q | q
  · rw [List.getElem?_range q] at h
    cases h
    exact ⟨rfl, by omega⟩
  · rw [List.getElem?_eq_none (by rw [List.length_range]; exact q)] at h
    cases h
/-! ### plain data -/
@[simp] theorem pls_ints (n : Nat) (ns : List Int) : pls n (ns.map D.int) = true := by
  induction ns with
  | nil => simp [pls]
  | cons x xs ih => simp [pls, D.pl, ih]
theorem eqv_self {n : Nat} {d : D} (p : d.pl n = true) : D.eqv d d = true := SeqAt.eqv_refl _ (pl_shape n d p).1
theorem eqv_ints (ns ms : List Int) : PyData.eqvAll (pys (ns.map D.int)) (pys (ms.map D.int)) = decide (ns = ms) := by
  induction ns generalizing ms with
  | nil => cases ms <;> simp [pys, PyData.eqvAll]
  | cons x xs ih =>
    cases ms with
    | nil => simp [pys, PyData.eqvAll]
    | cons y ys =>
      simp only [List.map_cons, pys, D.py, PyData.eqvAll, PyData.eqv, ih]
      by_cases h : x = y <;> simp [h]
/-! ### places -/
theorem at0 {α : Type} (x : α) (xs : List α) : atI (x :: xs) 0 = some x := by
  have : atI (x :: xs) ((0 : Nat) : Int) = some x := atI_nat rfl
  simpa using this
theorem at1 {α : Type} (x y : α) (xs : List α) : atI (x :: y :: xs) 1 = some y := by
  have : atI (x :: y :: xs) ((1 : Nat) : Int) = some y := atI_nat rfl
  simpa using this
theorem at2 {α : Type} (x y z : α) (xs : List α) : atI (x :: y :: z :: xs) 2 = some z := by
  have : atI (x :: y :: z :: xs) ((2 : Nat) : Int) = some z := atI_nat rfl
  simpa using this
theorem at3 {α : Type} (x y z w : α) (xs : List α) : atI (x :: y :: z :: w :: xs) 3 = some w := by
  have : atI (x :: y :: z :: w :: xs) ((3 : Nat) : Int) = some w := atI_nat rfl
  simpa using this
theorem ix0 (n : Nat) : ixN (n + 1) 0 = some 0 := by unfold ixN; simp
theorem ix1 (n : Nat) : ixN (n + 1 + 1) 1 = some 1 := by unfold ixN; simp; omega
theorem ix2 (n : Nat) : ixN (n + 1 + 1 + 1) 2 = some 2 := by unfold ixN; simp; omega
/-! ### slices -/
theorem cutL_last {α : Type} (xs : List α) : cutL xs none (some (-1)) = xs.dropLast := by
  have e : HT.sIx xs.length xs.length (some (-1)) = xs.length - 1 := by
    unfold HT.sIx
    simp only [Option.elim]
    try simp
    omega
  unfold cutL
  rw [e, HT.sIx_none, List.drop_zero, Nat.sub_zero, List.dropLast_eq_take]
theorem cutL_from {α : Type} (xs : List α) (k : Nat) : cutL xs (some (k : Int)) none = xs.drop k := by
  unfold cutL
  rw [HT.sIx_nat, HT.sIx_none]
  rcases Nat.le_total k xs.length with h | h
  · rw [Nat.min_eq_left h]
    apply List.take_of_length_le
    rw [List.length_drop]
    exact Nat.le_refl _
  · rw [Nat.min_eq_right h, Nat.sub_self, List.drop_of_length_le h]
    simp
theorem cutL_to {α : Type} (xs : List α) (k : Nat) : cutL xs none (some (k : Int)) = xs.take k := by
  unfold cutL
  rw [HT.sIx_nat, HT.sIx_none, List.drop_zero, Nat.sub_zero]
  rcases Nat.le_total k xs.length with h | h
  · rw [Nat.min_eq_left h]
  · rw [Nat.min_eq_right h, List.take_of_length_le h, List.take_of_length_le (Nat.le_refl _)]
/-! ### answers of isinstance -/
theorem kb_ii : kitB "int" "int" = some true := by decide +kernel
theorem kb_bi : kitB "bool" "int" = some true := by decide +kernel
theorem kb_ni : kitB "NoneType" "int" = some false := by decide +kernel
theorem kb_si : kitB "str" "int" = some false := by decide +kernel
theorem kb_ti : kitB "tuple" "int" = some false := by decide +kernel
theorem kb_li : kitB "list" "int" = some false := by decide +kernel
theorem kb_ib : kitB "int" "bool" = some false := by decide +kernel
theorem kb_bb : kitB "bool" "bool" = some true := by decide +kernel
theorem kb_nb : kitB "NoneType" "bool" = some false := by decide +kernel
theorem kb_sb : kitB "str" "bool" = some false := by decide +kernel
theorem kb_tb : kitB "tuple" "bool" = some false := by decide +kernel
theorem kb_lb : kitB "list" "bool" = some false := by decide +kernel
theorem kb_is : kitB "int" "str" = some false := by decide +kernel
theorem kb_bs : kitB "bool" "str" = some false := by decide +kernel
theorem kb_ns : kitB "NoneType" "str" = some false := by decide +kernel
theorem kb_ss : kitB "str" "str" = some true := by decide +kernel
theorem kb_ts : kitB "tuple" "str" = some false := by decide +kernel
theorem kb_ls : kitB "list" "str" = some false := by decide +kernel
theorem kb_it : kitB "int" "tuple" = some false := by decide +kernel
theorem kb_bt : kitB "bool" "tuple" = some false := by decide +kernel
theorem kb_nt : kitB "NoneType" "tuple" = some false := by decide +kernel
theorem kb_st : kitB "str" "tuple" = some false := by decide +kernel
theorem kb_tt : kitB "tuple" "tuple" = some true := by decide +kernel
theorem kb_lt : kitB "list" "tuple" = some false := by decide +kernel
end DL
namespace Law
open PySem PySem.Spec L2 DL

abbrev N_law_dip : List Str := ["_law_well_here", "_law_many", "_law_digit"]
def wellO (m d c : Int) : MO := .lst [.int m, .int d, .int c]
def WellP (m d c b : Int) : Prop := 0 ≤ m ∧ m < 2147483629 ∧ 0 ≤ d ∧ 0 ≤ c ∧ c ≤ b
def sp_law_dip : DSp := fun ds M Q _ => match ds with
  | [.ref g, .int n] => ∃ m d c b, M g = some (wellO m d c) ∧ WellP m d c b ∧ (1 ≤ n ∧ n < 2 ^ 30) ∧ b < 2 ^ 60 ∧ ∀ r m' d' c', 0 ≤ r → r < n → WellP m' d' c' (b + 1) → Q (.int r) (um M g (wellO m' d' c'))
  | _ => False
theorem len_law_dip : ∀ ds M Q E, sp_law_dip ds M Q E → ds.length = 2 := fun ds M Q E h => by
  unfold sp_law_dip at h; split at h <;> first | rfl | exact h.elim
def t_law_dip (W : DW') : TDS :=
  dSeq (dIfS (dB (dOp (gT fun i j => decide (j < i)) (dOp gIx (dV 0) (dC (.int 1))) (dC (.int 0)))) (dSeq (dAsg (dCB gDivmod (dCons (dOp gIx (dV 0) (dC (.int 1))) (dCons (dV 1) (dNil)))) (dgTup (dgCons (dgSub (dV 0) (dC (.int 1))) (dgCons (dgName 2) (dgNil))))) <|
  dRet (dV 2)) (dNext)) <|
  dSeq (dAsg (dOp gAdd (dOp gIx (dV 0) (dC (.int 2))) (dC (.int 1))) (dgSub (dV 0) (dC (.int 2)))) <|
  dSeq (dAsg (dOp (gI (fun _ j => 0 < j) fun i j => .int (i % j)) (dCB gInt (dCons (dOp gAdd (dOp gAdd (dOp (gI mulOk fun i j => .int (i * j)) (dOp gIx (dV 0) (dC (.int 0))) (dC (.int 39373))) (dOp (gI mulOk fun i j => .int (i * j)) (dOp (gI mulOk fun i j => .int (i * j)) (dC (.int 7)) (dOp gIx (dV 0) (dC (.int 2)))) (dOp gIx (dV 0) (dC (.int 2))))) (dC (.int 101))) (dNil))) (dC (.int 2147483629))) (dgSub (dV 0) (dC (.int 0)))) <|
  dRet (dOp (gI (fun _ j => 0 < j) fun i j => .int (i % j)) (dCB gInt (dCons (dOp (gI divOk fun i j => .int (i / j)) (dOp gIx (dV 0) (dC (.int 0))) (dC (.int 64))) (dNil))) (dV 1))
theorem pure_law_dip (ds : List D) (M : Mp) (Q : DK) (E : XE') (h : sp_law_dip ds M Q E) : t_law_dip (fnW E) { nx := fun _ M' => Wk (Q .non) M', rt := fun d M' => Wk (Q d) M' } (startD N_law_dip ds) M := by
  unfold sp_law_dip at h
  split at h
  · rename_i g n
    obtain ⟨m, d, c, b, hg, ⟨w1, w2, w3, w4, w5⟩, ⟨n1, n2⟩, hb, h⟩ := h
    unfold wellO at hg h
    simp (config := { decide := false }) only [dSeq, dNext, dRet, dRetN, dIfS, dAsg, dgName, dgTup, dgCons, dgNil, dgSub, dPar, dAug, dDrop, dBreak, dCont, dNever, dOp, gI, gT, gPlus, gAdd, gEq, gNe, gIs, gIsNot, gIx, dV, dC, dB, dAnd, dOr, dNot, dAndV, dOrV, dNotV, dIf, dNeg, dChain, dNil, dCons, dTup, dLst, dLstM, dNoPart, dPart, dSl, dCB, dCall, gLen, gAbs, g2, gInt, gStr, gDivmod, gIsTy, gTuple, gList, gSum, gAll, gAny, dAppend, dItems, itemsOf, dRange1, dRange2, dFor, D.onB, D.tyn, D.isNon, asL, rsv, kb_ii, kb_bi, kb_ni, kb_si, kb_ti, kb_li, kb_ib, kb_bb, kb_nb, kb_sb, kb_tb, kb_lb, kb_is, kb_bs, kb_ns, kb_ss, kb_ts, kb_ls, kb_it, kb_bt, kb_nt, kb_st, kb_tt, kb_lt, startD, List.map_cons, List.map_nil, List.length_cons, List.length_nil, List.cons_append, List.nil_append, List.replicate, List.getElem?_cons_zero, List.getElem?_cons_succ, List.set_cons_zero, List.set_cons_succ, List.zip_cons_cons, List.zip_nil_right, List.foldl_cons, List.foldl_nil, Option.bind_some, Option.bind_none, um_same, um_um, Bool.false_eq_true, reduceCtorEq, false_implies, true_implies, forall_const, true_and, and_true, and_self, Bool.not_true, Bool.not_false, implies_true, decide_eq_true_eq, decide_eq_false_iff_not, Bool.not_eq_true, not_true_eq_false, not_false_eq_true, Bool.not_eq_true', Bool.not_eq_false', D.onB, sizeLine_eq, Nat.reduceAdd, Nat.reduceLeDiff, Nat.zero_add, Nat.reduceLT, t_law_dip, hg, at0, at1, at2, at3, ix0, ix1, ix2]
    refine ⟨fun c1 => ⟨⟨by omega, by omega⟩, Wk.of (h _ _ _ _ (Int.emod_nonneg _ (by omega)) (Int.emod_lt_of_pos _ (by omega)) ⟨w1, w2, Int.ediv_nonneg w3 (by omega), w4, by omega⟩)⟩,
      fun c1 => ⟨.inl (.inl ⟨by omega, by omega⟩), .inl (.inl ⟨by decide, by decide⟩), .inl (.inr ⟨by omega, by omega⟩), by decide, ⟨by decide, .inl (by decide)⟩, by omega, ?_⟩⟩
    have e0 := Int.emod_nonneg (m * 39373 + 7 * (c + 1) * (c + 1) + 101) (show (2147483629 : Int) ≠ 0 by decide)
    have e1 := Int.emod_lt_of_pos (m * 39373 + 7 * (c + 1) * (c + 1) + 101) (show (0 : Int) < 2147483629 by decide)
    exact Wk.of (h _ _ _ _ (Int.emod_nonneg _ (by omega)) (Int.emod_lt_of_pos _ (by omega)) ⟨e0, e1, w3, by omega, by omega⟩)
  · exact h.elim
abbrev N_is_integer : List Str := ["value"]
/-- an int, no bool -/
def D.isInt : D → Bool
  | .int _ => true
  | _ => false
def sp_is_integer : DSp := fun ds M Q _ => match ds with
  | [d] => d.tyn M ≠ none ∧ Q (.bl (D.isInt d)) M
  | _ => False
theorem len_is_integer : ∀ ds M Q E, sp_is_integer ds M Q E → ds.length = 1 := fun ds M Q E h => by
  unfold sp_is_integer at h; split at h <;> first | rfl | exact h.elim
def t_is_integer (W : DW') : TDS :=
  dRet (dAndV (dCB gIsTy (dCons (dV 0) (dCons (dC (.ty "int")) (dNil)))) (dNotV (dCB gIsTy (dCons (dV 0) (dCons (dC (.ty "bool")) (dNil))))))
theorem pure_is_integer (ds : List D) (M : Mp) (Q : DK) (E : XE') (h : sp_is_integer ds M Q E) : t_is_integer (fnW E) { nx := fun _ M' => Wk (Q .non) M', rt := fun d M' => Wk (Q d) M' } (startD N_is_integer ds) M := by
  unfold sp_is_integer at h
  split at h
  · rename_i d
    obtain ⟨h0, h⟩ := h
    cases d
    case ref a =>
      simp only [D.tyn] at h0
      split at h0
      · rename_i xs e
        simp (config := { decide := false }) only [dSeq, dNext, dRet, dRetN, dIfS, dAsg, dgName, dgTup, dgCons, dgNil, dgSub, dPar, dAug, dDrop, dBreak, dCont, dNever, dOp, gI, gT, gPlus, gAdd, gEq, gNe, gIs, gIsNot, gIx, dV, dC, dB, dAnd, dOr, dNot, dAndV, dOrV, dNotV, dIf, dNeg, dChain, dNil, dCons, dTup, dLst, dLstM, dNoPart, dPart, dSl, dCB, dCall, gLen, gAbs, g2, gInt, gStr, gDivmod, gIsTy, gTuple, gList, gSum, gAll, gAny, dAppend, dItems, itemsOf, dRange1, dRange2, dFor, D.onB, D.tyn, D.isNon, asL, rsv, kb_ii, kb_bi, kb_ni, kb_si, kb_ti, kb_li, kb_ib, kb_bb, kb_nb, kb_sb, kb_tb, kb_lb, kb_is, kb_bs, kb_ns, kb_ss, kb_ts, kb_ls, kb_it, kb_bt, kb_nt, kb_st, kb_tt, kb_lt, startD, List.map_cons, List.map_nil, List.length_cons, List.length_nil, List.cons_append, List.nil_append, List.replicate, List.getElem?_cons_zero, List.getElem?_cons_succ, List.set_cons_zero, List.set_cons_succ, List.zip_cons_cons, List.zip_nil_right, List.foldl_cons, List.foldl_nil, Option.bind_some, Option.bind_none, um_same, um_um, Bool.false_eq_true, reduceCtorEq, false_implies, true_implies, forall_const, true_and, and_true, and_self, Bool.not_true, Bool.not_false, implies_true, decide_eq_true_eq, decide_eq_false_iff_not, Bool.not_eq_true, not_true_eq_false, not_false_eq_true, Bool.not_eq_true', Bool.not_eq_false', D.onB, sizeLine_eq, Nat.reduceAdd, Nat.reduceLeDiff, Nat.zero_add, Nat.reduceLT, t_is_integer, e]
        exact Wk.of h
      · exact absurd rfl h0
    all_goals first
      | exact absurd rfl h0
      | (simp (config := { decide := false }) only [dSeq, dNext, dRet, dRetN, dIfS, dAsg, dgName, dgTup, dgCons, dgNil, dgSub, dPar, dAug, dDrop, dBreak, dCont, dNever, dOp, gI, gT, gPlus, gAdd, gEq, gNe, gIs, gIsNot, gIx, dV, dC, dB, dAnd, dOr, dNot, dAndV, dOrV, dNotV, dIf, dNeg, dChain, dNil, dCons, dTup, dLst, dLstM, dNoPart, dPart, dSl, dCB, dCall, gLen, gAbs, g2, gInt, gStr, gDivmod, gIsTy, gTuple, gList, gSum, gAll, gAny, dAppend, dItems, itemsOf, dRange1, dRange2, dFor, D.onB, D.tyn, D.isNon, asL, rsv, kb_ii, kb_bi, kb_ni, kb_si, kb_ti, kb_li, kb_ib, kb_bb, kb_nb, kb_sb, kb_tb, kb_lb, kb_is, kb_bs, kb_ns, kb_ss, kb_ts, kb_ls, kb_it, kb_bt, kb_nt, kb_st, kb_tt, kb_lt, startD, List.map_cons, List.map_nil, List.length_cons, List.length_nil, List.cons_append, List.nil_append, List.replicate, List.getElem?_cons_zero, List.getElem?_cons_succ, List.set_cons_zero, List.set_cons_succ, List.zip_cons_cons, List.zip_nil_right, List.foldl_cons, List.foldl_nil, Option.bind_some, Option.bind_none, um_same, um_um, Bool.false_eq_true, reduceCtorEq, false_implies, true_implies, forall_const, true_and, and_true, and_self, Bool.not_true, Bool.not_false, implies_true, decide_eq_true_eq, decide_eq_false_iff_not, Bool.not_eq_true, not_true_eq_false, not_false_eq_true, Bool.not_eq_true', Bool.not_eq_false', D.onB, sizeLine_eq, Nat.reduceAdd, Nat.reduceLeDiff, Nat.zero_add, Nat.reduceLT, t_is_integer]; exact Wk.of h)
  · exact h.elim
abbrev N_is_within : List Str := ["value", "least", "most"]
def D.within : D → Int → Int → Bool
  | .int i, a, b => decide (a ≤ i) && decide (i ≤ b)
  | _, _, _ => false
def sp_is_within : DSp := fun ds M Q _ => match ds with
  | [d, .int a, .int b] => d.tyn M ≠ none ∧ Q (.bl (D.within d a b)) M
  | _ => False
theorem len_is_within : ∀ ds M Q E, sp_is_within ds M Q E → ds.length = 3 := fun ds M Q E h => by
  unfold sp_is_within at h; split at h <;> first | rfl | exact h.elim
def t_is_within (W : DW') : TDS :=
  dRet (dAndV (dCall sp_is_integer W (dCons (dV 0) (dNil))) (dChain (gT fun i j => decide (i ≤ j)) (gT fun i j => decide (i ≤ j)) (dV 1) (dV 0) (dV 2)))
theorem pure_is_within (ds : List D) (M : Mp) (Q : DK) (E : XE') (h : sp_is_within ds M Q E) : t_is_within (fnW E) { nx := fun _ M' => Wk (Q .non) M', rt := fun d M' => Wk (Q d) M' } (startD N_is_within ds) M := by
  unfold sp_is_within at h
  split at h
  · rename_i d a b
    obtain ⟨h0, h⟩ := h
    cases d
    case int i =>
      simp (config := { decide := false }) only [dSeq, dNext, dRet, dRetN, dIfS, dAsg, dgName, dgTup, dgCons, dgNil, dgSub, dPar, dAug, dDrop, dBreak, dCont, dNever, dOp, gI, gT, gPlus, gAdd, gEq, gNe, gIs, gIsNot, gIx, dV, dC, dB, dAnd, dOr, dNot, dAndV, dOrV, dNotV, dIf, dNeg, dChain, dNil, dCons, dTup, dLst, dLstM, dNoPart, dPart, dSl, dCB, dCall, gLen, gAbs, g2, gInt, gStr, gDivmod, gIsTy, gTuple, gList, gSum, gAll, gAny, dAppend, dItems, itemsOf, dRange1, dRange2, dFor, D.onB, D.tyn, D.isNon, asL, rsv, kb_ii, kb_bi, kb_ni, kb_si, kb_ti, kb_li, kb_ib, kb_bb, kb_nb, kb_sb, kb_tb, kb_lb, kb_is, kb_bs, kb_ns, kb_ss, kb_ts, kb_ls, kb_it, kb_bt, kb_nt, kb_st, kb_tt, kb_lt, startD, List.map_cons, List.map_nil, List.length_cons, List.length_nil, List.cons_append, List.nil_append, List.replicate, List.getElem?_cons_zero, List.getElem?_cons_succ, List.set_cons_zero, List.set_cons_succ, List.zip_cons_cons, List.zip_nil_right, List.foldl_cons, List.foldl_nil, Option.bind_some, Option.bind_none, um_same, um_um, Bool.false_eq_true, reduceCtorEq, false_implies, true_implies, forall_const, true_and, and_true, and_self, Bool.not_true, Bool.not_false, implies_true, decide_eq_true_eq, decide_eq_false_iff_not, Bool.not_eq_true, not_true_eq_false, not_false_eq_true, Bool.not_eq_true', Bool.not_eq_false', D.onB, sizeLine_eq, Nat.reduceAdd, Nat.reduceLeDiff, Nat.zero_add, Nat.reduceLT, t_is_within, sp_is_integer, D.isInt]
      refine ⟨h0, fun h1 => ?_, fun h1 => ?_⟩
      · rw [show D.within (.int i) a b = decide (i ≤ b) by simp [D.within, h1]] at h; exact Wk.of h
      · rw [show D.within (.int i) a b = false by simp [D.within, h1]] at h; exact Wk.of h
    all_goals
      simp (config := { decide := false }) only [dSeq, dNext, dRet, dRetN, dIfS, dAsg, dgName, dgTup, dgCons, dgNil, dgSub, dPar, dAug, dDrop, dBreak, dCont, dNever, dOp, gI, gT, gPlus, gAdd, gEq, gNe, gIs, gIsNot, gIx, dV, dC, dB, dAnd, dOr, dNot, dAndV, dOrV, dNotV, dIf, dNeg, dChain, dNil, dCons, dTup, dLst, dLstM, dNoPart, dPart, dSl, dCB, dCall, gLen, gAbs, g2, gInt, gStr, gDivmod, gIsTy, gTuple, gList, gSum, gAll, gAny, dAppend, dItems, itemsOf, dRange1, dRange2, dFor, D.onB, D.tyn, D.isNon, asL, rsv, kb_ii, kb_bi, kb_ni, kb_si, kb_ti, kb_li, kb_ib, kb_bb, kb_nb, kb_sb, kb_tb, kb_lb, kb_is, kb_bs, kb_ns, kb_ss, kb_ts, kb_ls, kb_it, kb_bt, kb_nt, kb_st, kb_tt, kb_lt, startD, List.map_cons, List.map_nil, List.length_cons, List.length_nil, List.cons_append, List.nil_append, List.replicate, List.getElem?_cons_zero, List.getElem?_cons_succ, List.set_cons_zero, List.set_cons_succ, List.zip_cons_cons, List.zip_nil_right, List.foldl_cons, List.foldl_nil, Option.bind_some, Option.bind_none, um_same, um_um, Bool.false_eq_true, reduceCtorEq, false_implies, true_implies, forall_const, true_and, and_true, and_self, Bool.not_true, Bool.not_false, implies_true, decide_eq_true_eq, decide_eq_false_iff_not, Bool.not_eq_true, not_true_eq_false, not_false_eq_true, Bool.not_eq_true', Bool.not_eq_false', D.onB, sizeLine_eq, Nat.reduceAdd, Nat.reduceLeDiff, Nat.zero_add, Nat.reduceLT, t_is_within, sp_is_integer, D.isInt]
      exact ⟨h0, Wk.of h⟩
  · exact h.elim
abbrev N_root_below : List Str := ["number", "low", "high", "middle"]
/-- r is the root of n, rounded down -/
def Fl (n r : Int) : Prop := 0 ≤ r ∧ r * r ≤ n ∧ n < (r + 1) * (r + 1)
theorem Fl.uniq {n r s : Int} (a : Fl n r) (b : Fl n s) : r = s := by
  obtain ⟨a0, a1, a2⟩ := a
  obtain ⟨b0, b1, b2⟩ := b
  rcases Int.lt_trichotomy r s with h | h | h
  · have := Int.mul_le_mul (show r + 1 ≤ s by omega) (show r + 1 ≤ s by omega) (by omega) (by omega)
    omega
  · exact h
  · have := Int.mul_le_mul (show s + 1 ≤ r by omega) (show s + 1 ≤ r by omega) (by omega) (by omega)
    omega
theorem Fl.le {n r : Int} (a : Fl n r) : r ≤ n := by
  obtain ⟨a0, a1, a2⟩ := a
  rcases Int.lt_or_le 0 r with h | h
  · have := Int.mul_le_mul (Int.le_refl r) (show 1 ≤ r by omega) (by omega) (by omega)
    omega
  · have : r = 0 := by omega
    subst this
    omega
theorem sz {n : Nat} (h : n ≤ 16777216) : n ≤ sizeLine := by rw [sizeLine_eq]; exact h
theorem szl {n : Nat} (h : n < 16777216) : n < sizeLine := by rw [sizeLine_eq]; exact h
def sp_root_below : DSp := fun ds M Q _ => match ds with
  | [.int n] => (0 ≤ n ∧ n < 2 ^ 60) ∧ ∀ r, Fl n r → Q (.int r) M
  | _ => False
theorem len_root_below : ∀ ds M Q E, sp_root_below ds M Q E → ds.length = 1 := fun ds M Q E h => by
  unfold sp_root_below at h; split at h <;> first | rfl | exact h.elim
def b1_root_below (W : DW') : TDS :=
  dSeq (dAsg (dOp (gI divOk fun i j => .int (i / j)) (dOp gAdd (dV 1) (dV 2)) (dC (.int 2))) (dgName 3)) <|
  dIfS (dB (dOp (gT fun i j => decide (i ≤ j)) (dOp (gI mulOk fun i j => .int (i * j)) (dV 3) (dV 3)) (dV 0))) (dAsg (dV 3) (dgName 1)) (dAsg (dV 3) (dgName 2))
def c2_root_below (W : DW') : TDb :=
  dB (dOp (gT fun i j => decide (j < i)) (dOp (gI (fun _ _ => True) fun i j => .int (i - j)) (dV 2) (dV 1)) (dC (.int 1)))
def t_root_below (W : DW') : TDS :=
  dSeq (dPar [1, 2] (dCons (dC (.int 0)) (dCons (dOp gAdd (dV 0) (dC (.int 1))) (dNil)))) <|
  dSeq (dWhile (c2_root_below W) (b1_root_below W)) <|
  dRet (dV 1)
theorem pure_root_below (ds : List D) (M : Mp) (Q : DK) (E : XE') (h : sp_root_below ds M Q E) : t_root_below (fnW E) { nx := fun _ M' => Wk (Q .non) M', rt := fun d M' => Wk (Q d) M' } (startD N_root_below ds) M := by
  unfold sp_root_below at h
  split at h
  · rename_i n
    obtain ⟨⟨h0, h1⟩, h⟩ := h
    simp (config := { decide := false }) only [dSeq, dNext, dRet, dRetN, dIfS, dAsg, dgName, dgTup, dgCons, dgNil, dgSub, dPar, dAug, dDrop, dBreak, dCont, dNever, dOp, gI, gT, gPlus, gAdd, gEq, gNe, gIs, gIsNot, gIx, dV, dC, dB, dAnd, dOr, dNot, dAndV, dOrV, dNotV, dIf, dNeg, dChain, dNil, dCons, dTup, dLst, dLstM, dNoPart, dPart, dSl, dCB, dCall, gLen, gAbs, g2, gInt, gStr, gDivmod, gIsTy, gTuple, gList, gSum, gAll, gAny, dAppend, dItems, itemsOf, dRange1, dRange2, dFor, D.onB, D.tyn, D.isNon, asL, rsv, kb_ii, kb_bi, kb_ni, kb_si, kb_ti, kb_li, kb_ib, kb_bb, kb_nb, kb_sb, kb_tb, kb_lb, kb_is, kb_bs, kb_ns, kb_ss, kb_ts, kb_ls, kb_it, kb_bt, kb_nt, kb_st, kb_tt, kb_lt, startD, List.map_cons, List.map_nil, List.length_cons, List.length_nil, List.cons_append, List.nil_append, List.replicate, List.getElem?_cons_zero, List.getElem?_cons_succ, List.set_cons_zero, List.set_cons_succ, List.zip_cons_cons, List.zip_nil_right, List.foldl_cons, List.foldl_nil, Option.bind_some, Option.bind_none, um_same, um_um, Bool.false_eq_true, reduceCtorEq, false_implies, true_implies, forall_const, true_and, and_true, and_self, Bool.not_true, Bool.not_false, implies_true, decide_eq_true_eq, decide_eq_false_iff_not, Bool.not_eq_true, not_true_eq_false, not_false_eq_true, Bool.not_eq_true', Bool.not_eq_false', D.onB, sizeLine_eq, Nat.reduceAdd, Nat.reduceLeDiff, Nat.zero_add, Nat.reduceLT, t_root_below]
    refine while_byN (fun k ρ M' => M' = M ∧ ∃ lo hi x, ρ = [some (.int n), some (.int lo), some (.int hi), x] ∧ 0 ≤ lo ∧ lo * lo ≤ n ∧ n < hi * hi ∧ lo < hi ∧ hi ≤ n + 1 ∧ k = (hi - lo).toNat) _ ⟨rfl, 0, n + 1, none, rfl, by omega, by omega, ?_, by omega, by omega, rfl⟩ ?_
    · have := Int.mul_le_mul (show (1 : Int) ≤ n + 1 by omega) (show n + 1 ≤ n + 1 by omega) (by omega) (by omega)
      omega
    · rintro k ρ M' P ⟨rfl, lo, hi, x, rfl, l0, l1, l2, l3, l4, rfl⟩ hP
      simp (config := { decide := false }) only [dSeq, dNext, dRet, dRetN, dIfS, dAsg, dgName, dgTup, dgCons, dgNil, dgSub, dPar, dAug, dDrop, dBreak, dCont, dNever, dOp, gI, gT, gPlus, gAdd, gEq, gNe, gIs, gIsNot, gIx, dV, dC, dB, dAnd, dOr, dNot, dAndV, dOrV, dNotV, dIf, dNeg, dChain, dNil, dCons, dTup, dLst, dLstM, dNoPart, dPart, dSl, dCB, dCall, gLen, gAbs, g2, gInt, gStr, gDivmod, gIsTy, gTuple, gList, gSum, gAll, gAny, dAppend, dItems, itemsOf, dRange1, dRange2, dFor, D.onB, D.tyn, D.isNon, asL, rsv, kb_ii, kb_bi, kb_ni, kb_si, kb_ti, kb_li, kb_ib, kb_bb, kb_nb, kb_sb, kb_tb, kb_lb, kb_is, kb_bs, kb_ns, kb_ss, kb_ts, kb_ls, kb_it, kb_bt, kb_nt, kb_st, kb_tt, kb_lt, startD, List.map_cons, List.map_nil, List.length_cons, List.length_nil, List.cons_append, List.nil_append, List.replicate, List.getElem?_cons_zero, List.getElem?_cons_succ, List.set_cons_zero, List.set_cons_succ, List.zip_cons_cons, List.zip_nil_right, List.foldl_cons, List.foldl_nil, Option.bind_some, Option.bind_none, um_same, um_um, Bool.false_eq_true, reduceCtorEq, false_implies, true_implies, forall_const, true_and, and_true, and_self, Bool.not_true, Bool.not_false, implies_true, decide_eq_true_eq, decide_eq_false_iff_not, Bool.not_eq_true, not_true_eq_false, not_false_eq_true, Bool.not_eq_true', Bool.not_eq_false', D.onB, sizeLine_eq, Nat.reduceAdd, Nat.reduceLeDiff, Nat.zero_add, Nat.reduceLT, c2_root_below, b1_root_below]
      refine ⟨fun t => ?_, fun t => ?_⟩
      · have hm : 0 < (2 : Int) ∧ ((2 : Int) < 1073741824 ∨ (2 : Int).natAbs.log2 < 9000) := ⟨by decide, .inl (by decide)⟩
        have e : (lo + hi) / 2 * 2 ≤ lo + hi ∧ lo + hi < (lo + hi) / 2 * 2 + 2 := by omega
        generalize (lo + hi) / 2 = mid at *
        refine ⟨hm, .inl (.inl ⟨by omega, by omega⟩), fun c => Wk.of (hP _ _ _ ⟨rfl, _, _, _, rfl, by omega, c, l2, by omega, by omega, rfl⟩ (by omega)), fun c => Wk.of (hP _ _ _ ⟨rfl, _, _, _, rfl, by omega, l1, by omega, by omega, by omega, rfl⟩ (by omega))⟩
      · refine Wk.of (h lo ⟨l0, l1, ?_⟩)
        have : hi = lo + 1 := by omega
        rw [← this]; exact l2
  · exact h.elim
abbrev N_is_root : List Str := ["value", "whole"]
/-- d is a root; w its root rounded down -/
def Rt (d w : Int) : Prop := Fl d w ∧ 2 ≤ d ∧ d ≤ 1000000 ∧ w * w ≠ d
def sp_is_root : DSp := fun ds M Q _ => match ds with
  | [.int d] => ∃ w, Rt d w ∧ Q (.bl true) M
  | _ => False
theorem len_is_root : ∀ ds M Q E, sp_is_root ds M Q E → ds.length = 1 := fun ds M Q E h => by
  unfold sp_is_root at h; split at h <;> first | rfl | exact h.elim
def t_is_root (W : DW') : TDS :=
  dSeq (dIfS (dNot (dB (dCall sp_is_within W (dCons (dV 0) (dCons (dC (.int 2)) (dCons (dC (.int 1000000)) (dNil))))))) (dRet (dC (.bl false))) (dNext)) <|
  dSeq (dAsg (dCall sp_root_below W (dCons (dV 0) (dNil))) (dgName 1)) <|
  dRet (dOp gNe (dOp (gI mulOk fun i j => .int (i * j)) (dV 1) (dV 1)) (dV 0))
theorem pure_is_root (ds : List D) (M : Mp) (Q : DK) (E : XE') (h : sp_is_root ds M Q E) : t_is_root (fnW E) { nx := fun _ M' => Wk (Q .non) M', rt := fun d M' => Wk (Q d) M' } (startD N_is_root ds) M := by
  unfold sp_is_root at h
  split at h
  · rename_i d
    obtain ⟨w, ⟨r1, r2, r3, r4⟩, h⟩ := h
    simp (config := { decide := false }) only [dSeq, dNext, dRet, dRetN, dIfS, dAsg, dgName, dgTup, dgCons, dgNil, dgSub, dPar, dAug, dDrop, dBreak, dCont, dNever, dOp, gI, gT, gPlus, gAdd, gEq, gNe, gIs, gIsNot, gIx, dV, dC, dB, dAnd, dOr, dNot, dAndV, dOrV, dNotV, dIf, dNeg, dChain, dNil, dCons, dTup, dLst, dLstM, dNoPart, dPart, dSl, dCB, dCall, gLen, gAbs, g2, gInt, gStr, gDivmod, gIsTy, gTuple, gList, gSum, gAll, gAny, dAppend, dItems, itemsOf, dRange1, dRange2, dFor, D.onB, D.tyn, D.isNon, asL, rsv, kb_ii, kb_bi, kb_ni, kb_si, kb_ti, kb_li, kb_ib, kb_bb, kb_nb, kb_sb, kb_tb, kb_lb, kb_is, kb_bs, kb_ns, kb_ss, kb_ts, kb_ls, kb_it, kb_bt, kb_nt, kb_st, kb_tt, kb_lt, startD, List.map_cons, List.map_nil, List.length_cons, List.length_nil, List.cons_append, List.nil_append, List.replicate, List.getElem?_cons_zero, List.getElem?_cons_succ, List.set_cons_zero, List.set_cons_succ, List.zip_cons_cons, List.zip_nil_right, List.foldl_cons, List.foldl_nil, Option.bind_some, Option.bind_none, um_same, um_um, Bool.false_eq_true, reduceCtorEq, false_implies, true_implies, forall_const, true_and, and_true, and_self, Bool.not_true, Bool.not_false, implies_true, decide_eq_true_eq, decide_eq_false_iff_not, Bool.not_eq_true, not_true_eq_false, not_false_eq_true, Bool.not_eq_true', Bool.not_eq_false', D.onB, sizeLine_eq, Nat.reduceAdd, Nat.reduceLeDiff, Nat.zero_add, Nat.reduceLT, t_is_root, sp_is_within, sp_root_below, D.within]
    refine ⟨by decide, fun c => ?_, fun c => ⟨⟨by omega, by omega⟩, fun r hr => ?_⟩⟩
    · simp [r2, r3] at c
    · obtain rfl := hr.uniq r1
      refine ⟨.inl (.inl ⟨?_, ?_⟩), ?_⟩
      · have := r1.1; omega
      · have := r1.le; omega
      · have e : (!decide (r * r = d)) = true := by simp [r4]
        rw [e]; exact Wk.of h
  · exact h.elim
abbrev N_check_root : List Str := ["value"]
def sp_check_root : DSp := fun ds M Q _ => match ds with
  | [.int d] => ∃ w, Rt d w ∧ Q .non M
  | _ => False
theorem len_check_root : ∀ ds M Q E, sp_check_root ds M Q E → ds.length = 1 := fun ds M Q E h => by
  unfold sp_check_root at h; split at h <;> first | rfl | exact h.elim
def t_check_root (W : DW') : TDS :=
  dIfS (dNot (dB (dCall sp_is_root W (dCons (dV 0) (dNil))))) (dNever) (dNext)
theorem pure_check_root (ds : List D) (M : Mp) (Q : DK) (E : XE') (h : sp_check_root ds M Q E) : t_check_root (fnW E) { nx := fun _ M' => Wk (Q .non) M', rt := fun d M' => Wk (Q d) M' } (startD N_check_root ds) M := by
  unfold sp_check_root at h
  split at h
  · rename_i d
    obtain ⟨w, r, h⟩ := h
    simp (config := { decide := false }) only [dSeq, dNext, dRet, dRetN, dIfS, dAsg, dgName, dgTup, dgCons, dgNil, dgSub, dPar, dAug, dDrop, dBreak, dCont, dNever, dOp, gI, gT, gPlus, gAdd, gEq, gNe, gIs, gIsNot, gIx, dV, dC, dB, dAnd, dOr, dNot, dAndV, dOrV, dNotV, dIf, dNeg, dChain, dNil, dCons, dTup, dLst, dLstM, dNoPart, dPart, dSl, dCB, dCall, gLen, gAbs, g2, gInt, gStr, gDivmod, gIsTy, gTuple, gList, gSum, gAll, gAny, dAppend, dItems, itemsOf, dRange1, dRange2, dFor, D.onB, D.tyn, D.isNon, asL, rsv, kb_ii, kb_bi, kb_ni, kb_si, kb_ti, kb_li, kb_ib, kb_bb, kb_nb, kb_sb, kb_tb, kb_lb, kb_is, kb_bs, kb_ns, kb_ss, kb_ts, kb_ls, kb_it, kb_bt, kb_nt, kb_st, kb_tt, kb_lt, startD, List.map_cons, List.map_nil, List.length_cons, List.length_nil, List.cons_append, List.nil_append, List.replicate, List.getElem?_cons_zero, List.getElem?_cons_succ, List.set_cons_zero, List.set_cons_succ, List.zip_cons_cons, List.zip_nil_right, List.foldl_cons, List.foldl_nil, Option.bind_some, Option.bind_none, um_same, um_um, Bool.false_eq_true, reduceCtorEq, false_implies, true_implies, forall_const, true_and, and_true, and_self, Bool.not_true, Bool.not_false, implies_true, decide_eq_true_eq, decide_eq_false_iff_not, Bool.not_eq_true, not_true_eq_false, not_false_eq_true, Bool.not_eq_true', Bool.not_eq_false', D.onB, sizeLine_eq, Nat.reduceAdd, Nat.reduceLeDiff, Nat.zero_add, Nat.reduceLT, t_check_root, sp_is_root]
    exact ⟨w, r, Wk.of h⟩
  · exact h.elim
abbrev N_fraction_of : List Str := ["root", "whole", "m", "k", "a", "found"]
/-- the continued fraction, by the turns that are left -/
def fracGo (d w : Int) : Nat → Int → Int → Int → List Int → Option (List Int)
  | 0, _, _, a, acc => if a = 2 * w then some acc else none
  | n + 1, m, k, a, acc => if a = 2 * w then some acc else
    let m' := k * a - m
    let k' := (d - m' * m') / k
    if 0 < k ∧ 0 < k' ∧ k < 2 ^ 40 ∧ k' < 2 ^ 40 ∧ -(2 ^ 40) < m' ∧ m' < 2 ^ 40 ∧ acc.length < 10000000 then fracGo d w n m' k' ((w + m') / k') (acc ++ [(w + m') / k']) else none
/-- the continued fraction of the root d is (w, ts) -/
def CF (d w : Int) (ts : List Int) : Prop := Rt d w ∧ ∃ n, fracGo d w n 0 1 w [] = some ts
theorem log_lt {k : Int} (h : 0 < k) (h' : k < 2 ^ 40) : k.natAbs.log2 < 9000 := by
  have e : k.natAbs < 2 ^ 40 := by omega
  exact Nat.lt_of_lt_of_le ((Nat.log2_lt (by omega)).mpr e) (by decide)
def sp_fraction_of : DSp := fun ds M Q _ => match ds with
  | [.int d] => ∃ w ts, CF d w ts ∧ Q (.tup [.int w, .tup (ts.map .int)]) M
  | _ => False
theorem len_fraction_of : ∀ ds M Q E, sp_fraction_of ds M Q E → ds.length = 1 := fun ds M Q E h => by
  unfold sp_fraction_of at h; split at h <;> first | rfl | exact h.elim
def b1_fraction_of (W : DW') : TDS :=
  dSeq (dAsg (dOp (gI (fun _ _ => True) fun i j => .int (i - j)) (dOp (gI mulOk fun i j => .int (i * j)) (dV 3) (dV 4)) (dV 2)) (dgName 2)) <|
  dSeq (dAsg (dOp (gI divOk fun i j => .int (i / j)) (dOp (gI (fun _ _ => True) fun i j => .int (i - j)) (dV 0) (dOp (gI mulOk fun i j => .int (i * j)) (dV 2) (dV 2))) (dV 3)) (dgName 3)) <|
  dSeq (dAsg (dOp (gI divOk fun i j => .int (i / j)) (dOp gAdd (dV 1) (dV 2)) (dV 3)) (dgName 4)) <|
  dDrop (dAppend (dV 5) (dCons (dV 4) (dNil)))
def c2_fraction_of (W : DW') : TDb :=
  dB (dOp gNe (dV 4) (dOp (gI mulOk fun i j => .int (i * j)) (dC (.int 2)) (dV 1)))
def t_fraction_of (W : DW') : TDS :=
  dSeq (dAsg (dCall sp_root_below W (dCons (dV 0) (dNil))) (dgName 1)) <|
  dSeq (dAsg (dTup (dCons (dC (.int 0)) (dCons (dC (.int 1)) (dCons (dV 1) (dCons (dLstM (dNil)) (dNil)))))) (dgTup (dgCons (dgName 2) (dgCons (dgName 3) (dgCons (dgName 4) (dgCons (dgName 5) (dgNil))))))) <|
  dSeq (dWhile (c2_fraction_of W) (b1_fraction_of W)) <|
  dRet (dTup (dCons (dV 1) (dCons (dCB gTuple (dCons (dV 5) (dNil))) (dNil))))
theorem pure_fraction_of (ds : List D) (M : Mp) (Q : DK) (E : XE') (h : sp_fraction_of ds M Q E) : t_fraction_of (fnW E) { nx := fun _ M' => Wk (Q .non) M', rt := fun d M' => Wk (Q d) M' } (startD N_fraction_of ds) M := by
  unfold sp_fraction_of at h
  split at h
  · rename_i d
    obtain ⟨w, ts, ⟨⟨r1, r2, r3, r4⟩, n, hn⟩, h⟩ := h
    have hw : w < 1001 ∧ 0 ≤ w := by
      refine ⟨?_, r1.1⟩
      rcases Int.lt_or_le w 1001 with q | q
      · exact q
      · have := Int.mul_le_mul (show (1001 : Int) ≤ w by omega) (show 1001 ≤ w by omega) (by omega) (by omega)
        have := r1.2.1
        omega
    simp (config := { decide := false }) only [dSeq, dNext, dRet, dRetN, dIfS, dAsg, dgName, dgTup, dgCons, dgNil, dgSub, dPar, dAug, dDrop, dBreak, dCont, dNever, dOp, gI, gT, gPlus, gAdd, gEq, gNe, gIs, gIsNot, gIx, dV, dC, dB, dAnd, dOr, dNot, dAndV, dOrV, dNotV, dIf, dNeg, dChain, dNil, dCons, dTup, dLst, dLstM, dNoPart, dPart, dSl, dCB, dCall, gLen, gAbs, g2, gInt, gStr, gDivmod, gIsTy, gTuple, gList, gSum, gAll, gAny, dAppend, dItems, itemsOf, dRange1, dRange2, dFor, D.onB, D.tyn, D.isNon, asL, rsv, kb_ii, kb_bi, kb_ni, kb_si, kb_ti, kb_li, kb_ib, kb_bb, kb_nb, kb_sb, kb_tb, kb_lb, kb_is, kb_bs, kb_ns, kb_ss, kb_ts, kb_ls, kb_it, kb_bt, kb_nt, kb_st, kb_tt, kb_lt, startD, List.map_cons, List.map_nil, List.length_cons, List.length_nil, List.cons_append, List.nil_append, List.replicate, List.getElem?_cons_zero, List.getElem?_cons_succ, List.set_cons_zero, List.set_cons_succ, List.zip_cons_cons, List.zip_nil_right, List.foldl_cons, List.foldl_nil, Option.bind_some, Option.bind_none, um_same, um_um, Bool.false_eq_true, reduceCtorEq, false_implies, true_implies, forall_const, true_and, and_true, and_self, Bool.not_true, Bool.not_false, implies_true, decide_eq_true_eq, decide_eq_false_iff_not, Bool.not_eq_true, not_true_eq_false, not_false_eq_true, Bool.not_eq_true', Bool.not_eq_false', D.onB, sizeLine_eq, Nat.reduceAdd, Nat.reduceLeDiff, Nat.zero_add, Nat.reduceLT, t_fraction_of, sp_root_below]
    refine ⟨⟨by omega, by omega⟩, fun r hr => ?_⟩
    obtain rfl := hr.uniq r1
    intro p hp
    refine while_byN (fun j ρ M' => ∃ m k a acc, ρ = [some (.int d), some (.int r), some (.int m), some (.int k), some (.int a), some (.ref p)] ∧ M' = um M p (.lst (acc.map .int)) ∧ fracGo d r j m k a acc = some ts) n ⟨0, 1, r, [], rfl, rfl, hn⟩ ?_
    rintro j ρ M' P ⟨m, k, a, acc, rfl, rfl, e⟩ hP
    simp (config := { decide := false }) only [dSeq, dNext, dRet, dRetN, dIfS, dAsg, dgName, dgTup, dgCons, dgNil, dgSub, dPar, dAug, dDrop, dBreak, dCont, dNever, dOp, gI, gT, gPlus, gAdd, gEq, gNe, gIs, gIsNot, gIx, dV, dC, dB, dAnd, dOr, dNot, dAndV, dOrV, dNotV, dIf, dNeg, dChain, dNil, dCons, dTup, dLst, dLstM, dNoPart, dPart, dSl, dCB, dCall, gLen, gAbs, g2, gInt, gStr, gDivmod, gIsTy, gTuple, gList, gSum, gAll, gAny, dAppend, dItems, itemsOf, dRange1, dRange2, dFor, D.onB, D.tyn, D.isNon, asL, rsv, kb_ii, kb_bi, kb_ni, kb_si, kb_ti, kb_li, kb_ib, kb_bb, kb_nb, kb_sb, kb_tb, kb_lb, kb_is, kb_bs, kb_ns, kb_ss, kb_ts, kb_ls, kb_it, kb_bt, kb_nt, kb_st, kb_tt, kb_lt, startD, List.map_cons, List.map_nil, List.length_cons, List.length_nil, List.cons_append, List.nil_append, List.replicate, List.getElem?_cons_zero, List.getElem?_cons_succ, List.set_cons_zero, List.set_cons_succ, List.zip_cons_cons, List.zip_nil_right, List.foldl_cons, List.foldl_nil, Option.bind_some, Option.bind_none, um_same, um_um, Bool.false_eq_true, reduceCtorEq, false_implies, true_implies, forall_const, true_and, and_true, and_self, Bool.not_true, Bool.not_false, implies_true, decide_eq_true_eq, decide_eq_false_iff_not, Bool.not_eq_true, not_true_eq_false, not_false_eq_true, Bool.not_eq_true', Bool.not_eq_false', D.onB, sizeLine_eq, Nat.reduceAdd, Nat.reduceLeDiff, Nat.zero_add, Nat.reduceLT, c2_fraction_of, b1_fraction_of]
    refine ⟨.inl (.inl ⟨by decide, by decide⟩), fun c => ?_, fun c => ?_⟩
    · cases j with
      | zero => simp only [fracGo] at e; rw [if_neg (by simpa using c)] at e; cases e
      | succ j =>
        simp only [fracGo] at e
        rw [if_neg (by simpa using c)] at e
        split at e
        · rename_i q
          obtain ⟨q1, q2, q3, q4, q5, q6, q7⟩ := q
          refine ⟨.inl (.inl ⟨by omega, by omega⟩), .inl (.inl ⟨by omega, by omega⟩), ⟨q1, .inr ?_⟩, ⟨q2, .inr ?_⟩, ⟨_, rfl⟩, (by rw [List.length_map]; omega), Wk.of (hP j _ _ ⟨_, _, _, _, rfl, by simp, e⟩ (Nat.lt_succ_self j))⟩
          · exact log_lt q1 q3
          · exact log_lt q2 q4
        · cases e
    · have c' : a = 2 * r := by simpa using c
      have e' : acc = ts := by
        cases j with
        | zero => simp only [fracGo] at e; rw [if_pos c'] at e; exact Option.some.inj e
        | succ j => simp only [fracGo] at e; rw [if_pos c'] at e; exact Option.some.inj e
      subst e'
      exact ⟨M, MLe.um hp, h⟩
  · exact h.elim
abbrev N_least_of : List Str := ["root", "whole", "period", "terms", "x", "before_x", "y", "before_y", "term"]
/-- x, y with the ones before them -/
def conv : List Int → Int × Int × Int × Int → Int × Int × Int × Int
  | [], s => s
  | t :: ts, (x, bx, y, py) => conv ts (t * x + bx, x, t * y + py, y)
def lterms (ts : List Int) : List Int := if ts.length % 2 = 0 then ts.dropLast else ts ++ ts.dropLast
/-- the least solution, from the continued fraction -/
def lsol (w : Int) (ts : List Int) : Int × Int := ((conv (lterms ts) (w, 1, 1, 0)).1, (conv (lterms ts) (w, 1, 1, 0)).2.2.1)
def sp_least_of : DSp := fun ds M Q _ => match ds with
  | [.int d] => ∃ w ts, CF d w ts ∧ ts ≠ [] ∧ (∀ t ∈ ts, 0 ≤ t ∧ t < 2 ^ 60) ∧ ts.length < 8000000 ∧ Q (.tup [.int (lsol w ts).1, .int (lsol w ts).2]) M
  | _ => False
theorem len_least_of : ∀ ds M Q E, sp_least_of ds M Q E → ds.length = 1 := fun ds M Q E h => by
  unfold sp_least_of at h; split at h <;> first | rfl | exact h.elim
def b1_least_of (W : DW') : TDS :=
  dSeq (dPar [4, 5] (dCons (dOp gAdd (dOp (gI mulOk fun i j => .int (i * j)) (dV 8) (dV 4)) (dV 5)) (dCons (dV 4) (dNil)))) <|
  dPar [6, 7] (dCons (dOp gAdd (dOp (gI mulOk fun i j => .int (i * j)) (dV 8) (dV 6)) (dV 7)) (dCons (dV 6) (dNil)))
def t_least_of (W : DW') : TDS :=
  dSeq (dAsg (dCall sp_fraction_of W (dCons (dV 0) (dNil))) (dgTup (dgCons (dgName 1) (dgCons (dgName 2) (dgNil))))) <|
  dSeq (dAsg (dIf (dB (dOp gEq (dOp (gI (fun _ j => 0 < j) fun i j => .int (i % j)) (dCB gLen (dCons (dV 2) (dNil))) (dC (.int 2))) (dC (.int 0)))) (dSl (dV 2) (dNoPart) (dPart (dNeg (dC (.int 1))))) (dOp gAdd (dV 2) (dSl (dV 2) (dNoPart) (dPart (dNeg (dC (.int 1))))))) (dgName 3)) <|
  dSeq (dAsg (dTup (dCons (dV 1) (dCons (dC (.int 1)) (dCons (dC (.int 1)) (dCons (dC (.int 0)) (dNil)))))) (dgTup (dgCons (dgName 4) (dgCons (dgName 5) (dgCons (dgName 6) (dgCons (dgName 7) (dgNil))))))) <|
  dSeq (dFor (dItems (dV 3)) (dgName 8) (b1_least_of W)) <|
  dRet (dTup (dCons (dV 4) (dCons (dV 6) (dNil))))
theorem pure_least_of (ds : List D) (M : Mp) (Q : DK) (E : XE') (h : sp_least_of ds M Q E) : t_least_of (fnW E) { nx := fun _ M' => Wk (Q .non) M', rt := fun d M' => Wk (Q d) M' } (startD N_least_of ds) M := by
  unfold sp_least_of at h
  split at h
  · rename_i d
    obtain ⟨w, ts, cf, hne, hb, hl, h⟩ := h
    simp (config := { decide := false }) only [dSeq, dNext, dRet, dRetN, dIfS, dAsg, dgName, dgTup, dgCons, dgNil, dgSub, dPar, dAug, dDrop, dBreak, dCont, dNever, dOp, gI, gT, gPlus, gAdd, gEq, gNe, gIs, gIsNot, gIx, dV, dC, dB, dAnd, dOr, dNot, dAndV, dOrV, dNotV, dIf, dNeg, dChain, dNil, dCons, dTup, dLst, dLstM, dNoPart, dPart, dSl, dCB, dCall, gLen, gAbs, g2, gInt, gStr, gDivmod, gIsTy, gTuple, gList, gSum, gAll, gAny, dAppend, dItems, itemsOf, dRange1, dRange2, dFor, D.onB, D.tyn, D.isNon, asL, rsv, kb_ii, kb_bi, kb_ni, kb_si, kb_ti, kb_li, kb_ib, kb_bb, kb_nb, kb_sb, kb_tb, kb_lb, kb_is, kb_bs, kb_ns, kb_ss, kb_ts, kb_ls, kb_it, kb_bt, kb_nt, kb_st, kb_tt, kb_lt, startD, List.map_cons, List.map_nil, List.length_cons, List.length_nil, List.cons_append, List.nil_append, List.replicate, List.getElem?_cons_zero, List.getElem?_cons_succ, List.set_cons_zero, List.set_cons_succ, List.zip_cons_cons, List.zip_nil_right, List.foldl_cons, List.foldl_nil, Option.bind_some, Option.bind_none, um_same, um_um, Bool.false_eq_true, reduceCtorEq, false_implies, true_implies, forall_const, true_and, and_true, and_self, Bool.not_true, Bool.not_false, implies_true, decide_eq_true_eq, decide_eq_false_iff_not, Bool.not_eq_true, not_true_eq_false, not_false_eq_true, Bool.not_eq_true', Bool.not_eq_false', D.onB, sizeLine_eq, Nat.reduceAdd, Nat.reduceLeDiff, Nat.zero_add, Nat.reduceLT, t_least_of, sp_fraction_of]
    refine ⟨w, ts, cf, by decide, ?_⟩
    have fl : ∀ (us : List Int) (t0 : D), (∀ t ∈ us, 0 ≤ t ∧ t < 2 ^ 60) → conv us (w, 1, 1, 0) = conv (lterms ts) (w, 1, 1, 0) →
        forL (dgName 8) (b1_least_of (fnW E)) { nx := dRet (dTup (dCons (dV 4) (dCons (dV 6) dNil))) { nx := fun x M' => Wk (Q D.non) M', rt := fun d M' => Wk (Q d) M' }, rt := fun d M' => Wk (Q d) M' }
          (us.map .int) [some (.int d), some (.int w), some (.tup (ts.map .int)), some t0, some (.int w), some (.int 1), some (.int 1), some (.int 0), none] M := by
      intro us t0 hu he
      refine for_by (fun i ρ M' => M' = M ∧ ∃ x bx y py z, ρ = [some (.int d), some (.int w), some (.tup (ts.map .int)), some t0, some (.int x), some (.int bx), some (.int y), some (.int py), z] ∧ conv (us.drop i) (x, bx, y, py) = conv us (w, 1, 1, 0)) ⟨rfl, w, 1, 1, 0, none, rfl, rfl⟩ ?_ ?_
      · rintro i dd ρ M' P hi ⟨rfl, x, bx, y, py, z, rfl, e⟩ hP
        rw [List.getElem?_map] at hi
        cases q : us[i]? with
        | none => rw [q] at hi; cases hi
        | some t =>
          rw [q] at hi
          cases hi
          have ht := hu t (List.mem_of_getElem? q)
          have hd : us.drop i = t :: us.drop (i + 1) := by
            obtain ⟨h1, h2⟩ := List.getElem?_eq_some_iff.mp q
            rw [List.drop_eq_getElem_cons h1, h2]
          rw [hd] at e
          simp (config := { decide := false }) only [dSeq, dNext, dRet, dRetN, dIfS, dAsg, dgName, dgTup, dgCons, dgNil, dgSub, dPar, dAug, dDrop, dBreak, dCont, dNever, dOp, gI, gT, gPlus, gAdd, gEq, gNe, gIs, gIsNot, gIx, dV, dC, dB, dAnd, dOr, dNot, dAndV, dOrV, dNotV, dIf, dNeg, dChain, dNil, dCons, dTup, dLst, dLstM, dNoPart, dPart, dSl, dCB, dCall, gLen, gAbs, g2, gInt, gStr, gDivmod, gIsTy, gTuple, gList, gSum, gAll, gAny, dAppend, dItems, itemsOf, dRange1, dRange2, dFor, D.onB, D.tyn, D.isNon, asL, rsv, kb_ii, kb_bi, kb_ni, kb_si, kb_ti, kb_li, kb_ib, kb_bb, kb_nb, kb_sb, kb_tb, kb_lb, kb_is, kb_bs, kb_ns, kb_ss, kb_ts, kb_ls, kb_it, kb_bt, kb_nt, kb_st, kb_tt, kb_lt, startD, List.map_cons, List.map_nil, List.length_cons, List.length_nil, List.cons_append, List.nil_append, List.replicate, List.getElem?_cons_zero, List.getElem?_cons_succ, List.set_cons_zero, List.set_cons_succ, List.zip_cons_cons, List.zip_nil_right, List.foldl_cons, List.foldl_nil, Option.bind_some, Option.bind_none, um_same, um_um, Bool.false_eq_true, reduceCtorEq, false_implies, true_implies, forall_const, true_and, and_true, and_self, Bool.not_true, Bool.not_false, implies_true, decide_eq_true_eq, decide_eq_false_iff_not, Bool.not_eq_true, not_true_eq_false, not_false_eq_true, Bool.not_eq_true', Bool.not_eq_false', D.onB, sizeLine_eq, Nat.reduceAdd, Nat.reduceLeDiff, Nat.zero_add, Nat.reduceLT, b1_least_of]
          refine ⟨.inl (.inl ⟨by omega, by omega⟩), .inl (.inl ⟨by omega, by omega⟩), Wk.of (hP _ _ ⟨rfl, _, _, _, _, _, rfl, e⟩)⟩
      · rintro ρ M' ⟨rfl, x, bx, y, py, z, rfl, e⟩
        rw [List.length_map, List.drop_length] at e
        simp (config := { decide := false }) only [dSeq, dNext, dRet, dRetN, dIfS, dAsg, dgName, dgTup, dgCons, dgNil, dgSub, dPar, dAug, dDrop, dBreak, dCont, dNever, dOp, gI, gT, gPlus, gAdd, gEq, gNe, gIs, gIsNot, gIx, dV, dC, dB, dAnd, dOr, dNot, dAndV, dOrV, dNotV, dIf, dNeg, dChain, dNil, dCons, dTup, dLst, dLstM, dNoPart, dPart, dSl, dCB, dCall, gLen, gAbs, g2, gInt, gStr, gDivmod, gIsTy, gTuple, gList, gSum, gAll, gAny, dAppend, dItems, itemsOf, dRange1, dRange2, dFor, D.onB, D.tyn, D.isNon, asL, rsv, kb_ii, kb_bi, kb_ni, kb_si, kb_ti, kb_li, kb_ib, kb_bb, kb_nb, kb_sb, kb_tb, kb_lb, kb_is, kb_bs, kb_ns, kb_ss, kb_ts, kb_ls, kb_it, kb_bt, kb_nt, kb_st, kb_tt, kb_lt, startD, List.map_cons, List.map_nil, List.length_cons, List.length_nil, List.cons_append, List.nil_append, List.replicate, List.getElem?_cons_zero, List.getElem?_cons_succ, List.set_cons_zero, List.set_cons_succ, List.zip_cons_cons, List.zip_nil_right, List.foldl_cons, List.foldl_nil, Option.bind_some, Option.bind_none, um_same, um_um, Bool.false_eq_true, reduceCtorEq, false_implies, true_implies, forall_const, true_and, and_true, and_self, Bool.not_true, Bool.not_false, implies_true, decide_eq_true_eq, decide_eq_false_iff_not, Bool.not_eq_true, not_true_eq_false, not_false_eq_true, Bool.not_eq_true', Bool.not_eq_false', D.onB, sizeLine_eq, Nat.reduceAdd, Nat.reduceLeDiff, Nat.zero_add, Nat.reduceLT]
        have e2 : (x, bx, y, py) = conv (lterms ts) (w, 1, 1, 0) := by rw [← he, ← e]; rfl
        unfold lsol at h
        rw [← e2] at h
        exact Wk.of h
    have em : (List.map D.int ts).dropLast = ts.dropLast.map D.int := by rw [List.dropLast_eq_take, List.dropLast_eq_take, List.map_take, List.length_map]
    have ln : ts.dropLast.length ≤ ts.length := by rw [List.length_dropLast]; omega
    refine ⟨fun c => ?_, fun c => ⟨?_, ?_⟩⟩
    · rw [cutL_last, em]
      refine fl ts.dropLast _ (fun t ht => hb t ((List.dropLast_sublist ts).subset ht)) ?_
      rw [List.length_map] at c
      rw [lterms, if_pos (by omega)]
    · rw [cutL_last, em, List.length_map, List.length_map]; omega
    · rw [cutL_last, em, ← List.map_append]
      refine fl (ts ++ ts.dropLast) _ (fun t ht => ?_) ?_
      · rcases List.mem_append.mp ht with q | q
        · exact hb t q
        · exact hb t ((List.dropLast_sublist ts).subset q)
      · rw [List.length_map] at c
        rw [lterms, if_neg (by omega)]
  · exact h.elim
abbrev N_least_solution : List Str := ["root"]
def sp_least_solution : DSp := sp_least_of
theorem len_least_solution : ∀ ds M Q E, sp_least_solution ds M Q E → ds.length = 1 := len_least_of
def t_least_solution (W : DW') : TDS :=
  dSeq (dDrop (dCall sp_check_root W (dCons (dV 0) (dNil)))) <|
  dRet (dCall sp_least_of W (dCons (dV 0) (dNil)))
theorem pure_least_solution (ds : List D) (M : Mp) (Q : DK) (E : XE') (h : sp_least_solution ds M Q E) : t_least_solution (fnW E) { nx := fun _ M' => Wk (Q .non) M', rt := fun d M' => Wk (Q d) M' } (startD N_least_solution ds) M := by
  unfold sp_least_solution sp_least_of at h
  split at h
  · rename_i d
    obtain ⟨w, ts, cf, hne, hb, hl, h⟩ := h
    simp (config := { decide := false }) only [dSeq, dNext, dRet, dRetN, dIfS, dAsg, dgName, dgTup, dgCons, dgNil, dgSub, dPar, dAug, dDrop, dBreak, dCont, dNever, dOp, gI, gT, gPlus, gAdd, gEq, gNe, gIs, gIsNot, gIx, dV, dC, dB, dAnd, dOr, dNot, dAndV, dOrV, dNotV, dIf, dNeg, dChain, dNil, dCons, dTup, dLst, dLstM, dNoPart, dPart, dSl, dCB, dCall, gLen, gAbs, g2, gInt, gStr, gDivmod, gIsTy, gTuple, gList, gSum, gAll, gAny, dAppend, dItems, itemsOf, dRange1, dRange2, dFor, D.onB, D.tyn, D.isNon, asL, rsv, kb_ii, kb_bi, kb_ni, kb_si, kb_ti, kb_li, kb_ib, kb_bb, kb_nb, kb_sb, kb_tb, kb_lb, kb_is, kb_bs, kb_ns, kb_ss, kb_ts, kb_ls, kb_it, kb_bt, kb_nt, kb_st, kb_tt, kb_lt, startD, List.map_cons, List.map_nil, List.length_cons, List.length_nil, List.cons_append, List.nil_append, List.replicate, List.getElem?_cons_zero, List.getElem?_cons_succ, List.set_cons_zero, List.set_cons_succ, List.zip_cons_cons, List.zip_nil_right, List.foldl_cons, List.foldl_nil, Option.bind_some, Option.bind_none, um_same, um_um, Bool.false_eq_true, reduceCtorEq, false_implies, true_implies, forall_const, true_and, and_true, and_self, Bool.not_true, Bool.not_false, implies_true, decide_eq_true_eq, decide_eq_false_iff_not, Bool.not_eq_true, not_true_eq_false, not_false_eq_true, Bool.not_eq_true', Bool.not_eq_false', D.onB, sizeLine_eq, Nat.reduceAdd, Nat.reduceLeDiff, Nat.zero_add, Nat.reduceLT, t_least_solution, sp_check_root, sp_least_of]
    exact ⟨w, cf.1, w, ts, cf, hne, hb, hl, Wk.of h⟩
  · exact h.elim
abbrev N_fraction : List Str := ["root"]
def sp_fraction : DSp := sp_fraction_of
theorem len_fraction : ∀ ds M Q E, sp_fraction ds M Q E → ds.length = 1 := len_fraction_of
def t_fraction (W : DW') : TDS :=
  dSeq (dDrop (dCall sp_check_root W (dCons (dV 0) (dNil)))) <|
  dRet (dCall sp_fraction_of W (dCons (dV 0) (dNil)))
theorem pure_fraction (ds : List D) (M : Mp) (Q : DK) (E : XE') (h : sp_fraction ds M Q E) : t_fraction (fnW E) { nx := fun _ M' => Wk (Q .non) M', rt := fun d M' => Wk (Q d) M' } (startD N_fraction ds) M := by
  unfold sp_fraction sp_fraction_of at h
  split at h
  · rename_i d
    obtain ⟨w, ts, cf, h⟩ := h
    simp (config := { decide := false }) only [dSeq, dNext, dRet, dRetN, dIfS, dAsg, dgName, dgTup, dgCons, dgNil, dgSub, dPar, dAug, dDrop, dBreak, dCont, dNever, dOp, gI, gT, gPlus, gAdd, gEq, gNe, gIs, gIsNot, gIx, dV, dC, dB, dAnd, dOr, dNot, dAndV, dOrV, dNotV, dIf, dNeg, dChain, dNil, dCons, dTup, dLst, dLstM, dNoPart, dPart, dSl, dCB, dCall, gLen, gAbs, g2, gInt, gStr, gDivmod, gIsTy, gTuple, gList, gSum, gAll, gAny, dAppend, dItems, itemsOf, dRange1, dRange2, dFor, D.onB, D.tyn, D.isNon, asL, rsv, kb_ii, kb_bi, kb_ni, kb_si, kb_ti, kb_li, kb_ib, kb_bb, kb_nb, kb_sb, kb_tb, kb_lb, kb_is, kb_bs, kb_ns, kb_ss, kb_ts, kb_ls, kb_it, kb_bt, kb_nt, kb_st, kb_tt, kb_lt, startD, List.map_cons, List.map_nil, List.length_cons, List.length_nil, List.cons_append, List.nil_append, List.replicate, List.getElem?_cons_zero, List.getElem?_cons_succ, List.set_cons_zero, List.set_cons_succ, List.zip_cons_cons, List.zip_nil_right, List.foldl_cons, List.foldl_nil, Option.bind_some, Option.bind_none, um_same, um_um, Bool.false_eq_true, reduceCtorEq, false_implies, true_implies, forall_const, true_and, and_true, and_self, Bool.not_true, Bool.not_false, implies_true, decide_eq_true_eq, decide_eq_false_iff_not, Bool.not_eq_true, not_true_eq_false, not_false_eq_true, Bool.not_eq_true', Bool.not_eq_false', D.onB, sizeLine_eq, Nat.reduceAdd, Nat.reduceLeDiff, Nat.zero_add, Nat.reduceLT, t_fraction, sp_check_root, sp_fraction_of]
    exact ⟨w, cf.1, w, ts, cf, Wk.of h⟩
  · exact h.elim
abbrev N_next_of : List Str := ["root", "least", "pair", "x", "y", "u", "v"]
def sp_next_of : DSp := fun _ _ _ _ => False
theorem len_next_of : ∀ ds M Q E, sp_next_of ds M Q E → ds.length = 3 := fun _ _ _ _ h => h.elim
def t_next_of (W : DW') : TDS :=
  dSeq (dAsg (dV 1) (dgTup (dgCons (dgName 3) (dgCons (dgName 4) (dgNil))))) <|
  dSeq (dAsg (dV 2) (dgTup (dgCons (dgName 5) (dgCons (dgName 6) (dgNil))))) <|
  dRet (dTup (dCons (dOp gAdd (dOp (gI mulOk fun i j => .int (i * j)) (dV 3) (dV 5)) (dOp (gI mulOk fun i j => .int (i * j)) (dOp (gI mulOk fun i j => .int (i * j)) (dV 0) (dV 4)) (dV 6))) (dCons (dOp gAdd (dOp (gI mulOk fun i j => .int (i * j)) (dV 3) (dV 6)) (dOp (gI mulOk fun i j => .int (i * j)) (dV 4) (dV 5))) (dNil))))
theorem pure_next_of (ds : List D) (M : Mp) (Q : DK) (E : XE') (h : sp_next_of ds M Q E) : t_next_of (fnW E) { nx := fun _ M' => Wk (Q .non) M', rt := fun d M' => Wk (Q d) M' } (startD N_next_of ds) M := h.elim
abbrev N_place_of : List Str := ["root", "x", "y", "least", "here", "found"]
def sp_place_of : DSp := fun ds M Q _ => match ds with
  | [.int d, .int x, .int y] => ∃ w ts, CF d w ts ∧ ts ≠ [] ∧ (∀ t ∈ ts, 0 ≤ t ∧ t < 2 ^ 60) ∧ ts.length < 8000000 ∧ lsol w ts = (x, y) ∧ (1 ≤ x ∧ x < 2 ^ 64 ∧ 1 ≤ y ∧ y < 2 ^ 64 ∧ x * x - d * y * y = 1) ∧ Q (.int 1) M
  | _ => False
theorem len_place_of : ∀ ds M Q E, sp_place_of ds M Q E → ds.length = 3 := fun ds M Q E h => by
  unfold sp_place_of at h; split at h <;> first | rfl | exact h.elim
def b1_place_of (W : DW') : TDS :=
  dPar [4, 5] (dCons (dCall sp_next_of W (dCons (dV 0) (dCons (dV 3) (dCons (dV 4) (dNil))))) (dCons (dOp gAdd (dV 5) (dC (.int 1))) (dNil)))
def c2_place_of (W : DW') : TDb :=
  dB (dOp gNe (dV 4) (dTup (dCons (dV 1) (dCons (dV 2) (dNil)))))
def t_place_of (W : DW') : TDS :=
  dSeq (dDrop (dCall sp_check_root W (dCons (dV 0) (dNil)))) <|
  dSeq (dIfS (dOr (dNot (dB (dCall sp_is_integer W (dCons (dV 1) (dNil))))) (dOr (dNot (dB (dCall sp_is_integer W (dCons (dV 2) (dNil))))) (dOr (dB (dOp (gT fun i j => decide (i < j)) (dV 1) (dC (.int 1)))) (dOr (dB (dOp (gT fun i j => decide (i < j)) (dV 2) (dC (.int 1)))) (dB (dOp gNe (dOp (gI (fun _ _ => True) fun i j => .int (i - j)) (dOp (gI mulOk fun i j => .int (i * j)) (dV 1) (dV 1)) (dOp (gI mulOk fun i j => .int (i * j)) (dOp (gI mulOk fun i j => .int (i * j)) (dV 0) (dV 2)) (dV 2))) (dC (.int 1)))))))) (dRet (dC .non)) (dNext)) <|
  dSeq (dAsg (dCall sp_least_of W (dCons (dV 0) (dNil))) (dgName 3)) <|
  dSeq (dPar [4, 5] (dCons (dV 3) (dCons (dC (.int 1)) (dNil)))) <|
  dSeq (dWhile (c2_place_of W) (b1_place_of W)) <|
  dRet (dV 5)
theorem pure_place_of (ds : List D) (M : Mp) (Q : DK) (E : XE') (h : sp_place_of ds M Q E) : t_place_of (fnW E) { nx := fun _ M' => Wk (Q .non) M', rt := fun d M' => Wk (Q d) M' } (startD N_place_of ds) M := by
  unfold sp_place_of at h
  split at h
  · rename_i d x y
    obtain ⟨w, ts, cf, hne, hb, hl, e, ⟨x1, x2, y1, y2, xy⟩, h⟩ := h
    have hd := cf.1.2
    simp (config := { decide := false }) only [dSeq, dNext, dRet, dRetN, dIfS, dAsg, dgName, dgTup, dgCons, dgNil, dgSub, dPar, dAug, dDrop, dBreak, dCont, dNever, dOp, gI, gT, gPlus, gAdd, gEq, gNe, gIs, gIsNot, gIx, dV, dC, dB, dAnd, dOr, dNot, dAndV, dOrV, dNotV, dIf, dNeg, dChain, dNil, dCons, dTup, dLst, dLstM, dNoPart, dPart, dSl, dCB, dCall, gLen, gAbs, g2, gInt, gStr, gDivmod, gIsTy, gTuple, gList, gSum, gAll, gAny, dAppend, dItems, itemsOf, dRange1, dRange2, dFor, D.onB, D.tyn, D.isNon, asL, rsv, kb_ii, kb_bi, kb_ni, kb_si, kb_ti, kb_li, kb_ib, kb_bb, kb_nb, kb_sb, kb_tb, kb_lb, kb_is, kb_bs, kb_ns, kb_ss, kb_ts, kb_ls, kb_it, kb_bt, kb_nt, kb_st, kb_tt, kb_lt, startD, List.map_cons, List.map_nil, List.length_cons, List.length_nil, List.cons_append, List.nil_append, List.replicate, List.getElem?_cons_zero, List.getElem?_cons_succ, List.set_cons_zero, List.set_cons_succ, List.zip_cons_cons, List.zip_nil_right, List.foldl_cons, List.foldl_nil, Option.bind_some, Option.bind_none, um_same, um_um, Bool.false_eq_true, reduceCtorEq, false_implies, true_implies, forall_const, true_and, and_true, and_self, Bool.not_true, Bool.not_false, implies_true, decide_eq_true_eq, decide_eq_false_iff_not, Bool.not_eq_true, not_true_eq_false, not_false_eq_true, Bool.not_eq_true', Bool.not_eq_false', D.onB, sizeLine_eq, Nat.reduceAdd, Nat.reduceLeDiff, Nat.zero_add, Nat.reduceLT, t_place_of, sp_check_root, sp_is_integer, D.isInt, sp_least_of]
    refine ⟨w, cf.1, by decide, by decide, fun c => absurd c (by omega), fun _ => ⟨fun c => absurd c (by omega), fun _ => ⟨.inl (.inl ⟨by omega, by omega⟩), .inl (.inl ⟨by omega, by omega⟩), .inl (.inr ⟨by omega, by omega⟩), fun c => absurd xy c, fun _ => ?_⟩⟩⟩
    refine ⟨w, ts, cf, hne, hb, hl, ?_⟩
    rw [e]
    refine while_byN (fun j ρ M' => M' = M ∧ ρ = [some (.int d), some (.int x), some (.int y), some (.tup [.int x, .int y]), some (.tup [.int x, .int y]), some (.int 1)]) 0 ⟨rfl, rfl⟩ ?_
    rintro j ρ M' P ⟨rfl, rfl⟩ hP
    simp (config := { decide := false }) only [dSeq, dNext, dRet, dRetN, dIfS, dAsg, dgName, dgTup, dgCons, dgNil, dgSub, dPar, dAug, dDrop, dBreak, dCont, dNever, dOp, gI, gT, gPlus, gAdd, gEq, gNe, gIs, gIsNot, gIx, dV, dC, dB, dAnd, dOr, dNot, dAndV, dOrV, dNotV, dIf, dNeg, dChain, dNil, dCons, dTup, dLst, dLstM, dNoPart, dPart, dSl, dCB, dCall, gLen, gAbs, g2, gInt, gStr, gDivmod, gIsTy, gTuple, gList, gSum, gAll, gAny, dAppend, dItems, itemsOf, dRange1, dRange2, dFor, D.onB, D.tyn, D.isNon, asL, rsv, kb_ii, kb_bi, kb_ni, kb_si, kb_ti, kb_li, kb_ib, kb_bb, kb_nb, kb_sb, kb_tb, kb_lb, kb_is, kb_bs, kb_ns, kb_ss, kb_ts, kb_ls, kb_it, kb_bt, kb_nt, kb_st, kb_tt, kb_lt, startD, List.map_cons, List.map_nil, List.length_cons, List.length_nil, List.cons_append, List.nil_append, List.replicate, List.getElem?_cons_zero, List.getElem?_cons_succ, List.set_cons_zero, List.set_cons_succ, List.zip_cons_cons, List.zip_nil_right, List.foldl_cons, List.foldl_nil, Option.bind_some, Option.bind_none, um_same, um_um, Bool.false_eq_true, reduceCtorEq, false_implies, true_implies, forall_const, true_and, and_true, and_self, Bool.not_true, Bool.not_false, implies_true, decide_eq_true_eq, decide_eq_false_iff_not, Bool.not_eq_true, not_true_eq_false, not_false_eq_true, Bool.not_eq_true', Bool.not_eq_false', D.onB, sizeLine_eq, Nat.reduceAdd, Nat.reduceLeDiff, Nat.zero_add, Nat.reduceLT, c2_place_of, b1_place_of, D.pl, pls, D.eqv, D.py, pys, PyData.eqv, PyData.eqvAll, Bool.and_true, Bool.true_and, Bool.and_self, beq_self_eq_true]
    exact Wk.of h
  · exact h.elim
abbrev N_law_right : List Str := ["_law_well_here", "_law_n", "_law_known", "_law_root_here", "_law_pair", "_law_told", "_law_famous", "_law_x", "_law_y"]
def sp_law_right : DSp := fun ds M Q _ => match ds with
  | [.ref g] => ∃ m d, M g = some (wellO m d 0) ∧ WellP m d 0 0 ∧ ∀ m' d' c', Q (.bl true) (um M g (wellO m' d' c'))
  | _ => False
theorem len_law_right : ∀ ds M Q E, sp_law_right ds M Q E → ds.length = 1 := fun ds M Q E h => by
  unfold sp_law_right at h; split at h <;> first | rfl | exact h.elim
/-- whether (w, ts) is the continued fraction of d, and (x, y) the least solution from it -/
def cfB (d w : Int) (ts : List Int) (x y : Int) : Bool :=
  decide (0 ≤ w) && decide (w * w < d) && decide (d < (w + 1) * (w + 1)) && decide (2 ≤ d) && decide (d ≤ 1000000) && decide (fracGo d w 40 0 1 w [] = some ts) && decide (ts ≠ []) && ts.all (fun t => decide (0 ≤ t) && decide (t < 2 ^ 60)) && decide (ts.length < 100) &&
  decide (lsol w ts = (x, y)) && decide (1 ≤ x) && decide (x < 2 ^ 64) && decide (1 ≤ y) && decide (y < 2 ^ 64) && decide (x * x - d * y * y = 1)
structure Kn (d w : Int) (ts : List Int) (x y : Int) : Prop where
  cf : CF d w ts
  ne : ts ≠ []
  bd : ∀ t ∈ ts, 0 ≤ t ∧ t < 2 ^ 60
  ln : ts.length < 8000000
  ls : lsol w ts = (x, y)
  xy : 1 ≤ x ∧ x < 2 ^ 64 ∧ 1 ≤ y ∧ y < 2 ^ 64 ∧ x * x - d * y * y = 1
theorem cfB_ok {d w : Int} {ts : List Int} {x y : Int} (h : cfB d w ts x y = true) : Kn d w ts x y := by
  simp only [cfB, Bool.and_eq_true, decide_eq_true_eq, List.all_eq_true] at h
  obtain ⟨⟨⟨⟨⟨⟨⟨⟨⟨⟨⟨⟨⟨⟨a1, a2⟩, a3⟩, a4⟩, a5⟩, a6⟩, a7⟩, a8⟩, a9⟩, b1⟩, b2⟩, b3⟩, b4⟩, b5⟩, b6⟩ := h
  exact ⟨⟨⟨⟨a1, by omega, a3⟩, a4, a5, by omega⟩, 40, a6⟩, a7, a8, by omega, b1, b2, b3, b4, b5, b6⟩
def lessB (n : Int) : Bool := match fracGo (n * n - 2) (n - 1) 40 0 1 (n - 1) [] with | some ts => cfB (n * n - 2) (n - 1) ts (n * n - 1) n | none => false
def famB (n : Int) : Bool := cfB (n * n - 1) (n - 1) [1, 2 * n - 2] n 1 && cfB (n * n + 1) n [2 * n] (2 * n * n + 1) (2 * n) && cfB (n * n + 2) n [n, 2 * n] (n * n + 1) n && cfB (n * n + n) n [2, 2 * n] (2 * n + 1) 2 && (decide (n ≤ 2) || lessB n)
theorem fam_all : (List.range 997).all (fun i => famB (2 + (i : Int))) = true := by decide +kernel
theorem fam_of {n : Int} (h : 2 ≤ n ∧ n ≤ 998) : famB n = true := by
  have := List.all_eq_true.mp fam_all (n - 2).toNat (List.mem_range.mpr (by omega))
  have e : 2 + (((n - 2).toNat : Nat) : Int) = n := by omega
  rwa [e] at this
def item (d w : Int) (ts : List Int) (x y : Int) : D := .tup [.int d, .tup [.int x, .int y], .tup [.int w, .tup (ts.map .int)]]
def known (n : Int) : List D := [item (n * n - 1) (n - 1) [1, 2 * n - 2] n 1, item (n * n + 1) n [2 * n] (2 * n * n + 1) (2 * n), item (n * n + 2) n [n, 2 * n] (n * n + 1) n, item (n * n + n) n [2, 2 * n] (2 * n + 1) 2]
def b1_law_right (W : DW') : TDS :=
  dSeq (dIfS (dOr (dB (dOp gNe (dCall sp_least_solution W (dCons (dV 3) (dNil))) (dV 4))) (dB (dOp gNe (dCall sp_fraction W (dCons (dV 3) (dNil))) (dV 5)))) (dRet (dC (.bl false))) (dNext)) <|
  dIfS (dB (dOp gNe (dCall sp_place_of W (dCons (dV 3) (dCons (dOp gIx (dV 4) (dC (.int 0))) (dCons (dOp gIx (dV 4) (dC (.int 1))) (dNil))))) (dC (.int 1)))) (dRet (dC (.bl false))) (dNext)
def r9_law_right (W : DW') : TDS :=
  dRet (dAndV (dOp gEq (dOp (gI (fun _ _ => True) fun i j => .int (i - j)) (dOp (gI mulOk fun i j => .int (i * j)) (dV 7) (dV 7)) (dOp (gI mulOk fun i j => .int (i * j)) (dOp (gI mulOk fun i j => .int (i * j)) (dV 3) (dV 8)) (dV 8))) (dC (.int 1))) (dOp gEq (dCall sp_least_solution W (dCons (dV 3) (dNil))) (dTup (dCons (dV 7) (dCons (dV 8) (dNil))))))
def r8_law_right (W : DW') : TDS :=
  dSeq (dAsg (dOp gIx (dV 6) (dCall sp_law_dip W (dCons (dV 0) (dCons (dC (.int 7)) (dNil))))) (dgTup (dgCons (dgName 3) (dgCons (dgName 7) (dgCons (dgName 8) (dgNil)))))) <|
  r9_law_right W
def r7_law_right (W : DW') : TDS :=
  dSeq (dAsg (dOp gAdd (dV 6) (dLst (dCons (dTup (dCons (dC (.int 46)) (dCons (dC (.int 24335)) (dCons (dC (.int 3588)) (dNil))))) (dCons (dTup (dCons (dC (.int 94)) (dCons (dC (.int 2143295)) (dCons (dC (.int 221064)) (dNil))))) (dCons (dTup (dCons (dC (.int 53)) (dCons (dC (.int 66249)) (dCons (dC (.int 9100)) (dNil))))) (dNil)))))) (dgName 6)) <|
  r8_law_right W
def r6_law_right (W : DW') : TDS :=
  dSeq (dAsg (dLst (dCons (dTup (dCons (dC (.int 61)) (dCons (dC (.int 1766319049)) (dCons (dC (.int 226153980)) (dNil))))) (dCons (dTup (dCons (dC (.int 109)) (dCons (dC (.int 158070671986249)) (dCons (dC (.int 15140424455100)) (dNil))))) (dCons (dTup (dCons (dC (.int 13)) (dCons (dC (.int 649)) (dCons (dC (.int 180)) (dNil))))) (dCons (dTup (dCons (dC (.int 29)) (dCons (dC (.int 9801)) (dCons (dC (.int 1820)) (dNil))))) (dNil)))))) (dgName 6)) <|
  r7_law_right W
def r5_law_right (W : DW') : TDS :=
  dSeq (dIfS (dAnd (dB (dOp (gT fun i j => decide (j < i)) (dV 1) (dC (.int 2)))) (dB (dOp gNe (dCall sp_least_solution W (dCons (dOp (gI (fun _ _ => True) fun i j => .int (i - j)) (dOp (gI mulOk fun i j => .int (i * j)) (dV 1) (dV 1)) (dC (.int 2))) (dNil))) (dTup (dCons (dOp (gI (fun _ _ => True) fun i j => .int (i - j)) (dOp (gI mulOk fun i j => .int (i * j)) (dV 1) (dV 1)) (dC (.int 1))) (dCons (dV 1) (dNil))))))) (dRet (dC (.bl false))) (dNext)) <|
  r6_law_right W
def r4_law_right (W : DW') : TDS :=
  dSettle 2 <| dSeq (dFor (dItems (dV 2)) (dgTup (dgCons (dgName 3) (dgCons (dgName 4) (dgCons (dgName 5) (dgNil))))) (b1_law_right W)) <|
  r5_law_right W
def r3_law_right (W : DW') : TDS :=
  dSeq (dDrop (dAppend (dV 2) (dCons (dTup (dCons (dOp gAdd (dOp (gI mulOk fun i j => .int (i * j)) (dV 1) (dV 1)) (dV 1)) (dCons (dTup (dCons (dOp gAdd (dOp (gI mulOk fun i j => .int (i * j)) (dC (.int 2)) (dV 1)) (dC (.int 1))) (dCons (dC (.int 2)) (dNil)))) (dCons (dTup (dCons (dV 1) (dCons (dTup (dCons (dC (.int 2)) (dCons (dOp (gI mulOk fun i j => .int (i * j)) (dC (.int 2)) (dV 1)) (dNil)))) (dNil)))) (dNil))))) (dNil)))) <|
  r4_law_right W
def r2_law_right (W : DW') : TDS :=
  dSeq (dDrop (dAppend (dV 2) (dCons (dTup (dCons (dOp gAdd (dOp (gI mulOk fun i j => .int (i * j)) (dV 1) (dV 1)) (dC (.int 2))) (dCons (dTup (dCons (dOp gAdd (dOp (gI mulOk fun i j => .int (i * j)) (dV 1) (dV 1)) (dC (.int 1))) (dCons (dV 1) (dNil)))) (dCons (dTup (dCons (dV 1) (dCons (dTup (dCons (dV 1) (dCons (dOp (gI mulOk fun i j => .int (i * j)) (dC (.int 2)) (dV 1)) (dNil)))) (dNil)))) (dNil))))) (dNil)))) <|
  r3_law_right W
def r1_law_right (W : DW') : TDS :=
  dSeq (dAsg (dLstM (dCons (dTup (dCons (dOp (gI (fun _ _ => True) fun i j => .int (i - j)) (dOp (gI mulOk fun i j => .int (i * j)) (dV 1) (dV 1)) (dC (.int 1))) (dCons (dTup (dCons (dV 1) (dCons (dC (.int 1)) (dNil)))) (dCons (dTup (dCons (dOp (gI (fun _ _ => True) fun i j => .int (i - j)) (dV 1) (dC (.int 1))) (dCons (dTup (dCons (dC (.int 1)) (dCons (dOp (gI (fun _ _ => True) fun i j => .int (i - j)) (dOp (gI mulOk fun i j => .int (i * j)) (dC (.int 2)) (dV 1)) (dC (.int 2))) (dNil)))) (dNil)))) (dNil))))) (dCons (dTup (dCons (dOp gAdd (dOp (gI mulOk fun i j => .int (i * j)) (dV 1) (dV 1)) (dC (.int 1))) (dCons (dTup (dCons (dOp gAdd (dOp (gI mulOk fun i j => .int (i * j)) (dOp (gI mulOk fun i j => .int (i * j)) (dC (.int 2)) (dV 1)) (dV 1)) (dC (.int 1))) (dCons (dOp (gI mulOk fun i j => .int (i * j)) (dC (.int 2)) (dV 1)) (dNil)))) (dCons (dTup (dCons (dV 1) (dCons (dTup (dCons (dOp (gI mulOk fun i j => .int (i * j)) (dC (.int 2)) (dV 1)) (dNil))) (dNil)))) (dNil))))) (dNil)))) (dgName 2)) <|
  r2_law_right W
def t_law_right (W : DW') : TDS :=
  dSeq (dAsg (dOp gAdd (dC (.int 2)) (dCall sp_law_dip W (dCons (dV 0) (dCons (dC (.int 997)) (dNil))))) (dgName 1)) <|
  r1_law_right W
theorem pl_item {w x y : Int} {ts : List Int} : (D.tup [.int x, .int y]).pl 12 = true ∧ (D.tup [.int w, .tup (ts.map .int)]).pl 12 = true := by
  simp [D.pl, pls]
theorem kn_eq (n : Int) : ([D.tup [D.int (n * n - 1), D.tup [D.int n, D.int 1], D.tup [D.int (n - 1), D.tup [D.int 1, D.int (2 * n - 2)]]],
            D.tup [D.int (n * n + 1), D.tup [D.int (2 * n * n + 1), D.int (2 * n)], D.tup [D.int n, D.tup [D.int (2 * n)]]],
            D.tup [D.int (n * n + 2), D.tup [D.int (n * n + 1), D.int n], D.tup [D.int n, D.tup [D.int n, D.int (2 * n)]]],
            D.tup [D.int (n * n + n), D.tup [D.int (2 * n + 1), D.int 2], D.tup [D.int n, D.tup [D.int 2, D.int (2 * n)]]]] : List D) = known n := rfl
theorem known_mem {n : Int} {i : Nat} {d : D} (hf : famB n = true) (h : (known n)[i]? = some d) : ∃ e w ts x y, d = item e w ts x y ∧ cfB e w ts x y = true := by
  unfold famB at hf
  simp only [Bool.and_eq_true] at hf
  obtain ⟨⟨⟨⟨f1, f2⟩, f3⟩, f4⟩, f5⟩ := hf
  match i, h with
  | 0, h => cases h; exact ⟨_, _, _, _, _, rfl, f1⟩
  | 1, h => cases h; exact ⟨_, _, _, _, _, rfl, f2⟩
  | 2, h => cases h; exact ⟨_, _, _, _, _, rfl, f3⟩
  | 3, h => cases h; exact ⟨_, _, _, _, _, rfl, f4⟩
  | k + 4, h => cases h
theorem st_body {d w : Int} {ts : List Int} {x y : Int} (k : Kn d w ts x y) {E : DEnds} {M : Mp} {a b c : Option D} {e f g : Option D} {W : DW'} (h : E.nx [a, b, c, some (.int d), some (.tup [.int x, .int y]), some (.tup [.int w, .tup (ts.map .int)]), e, f, g] M) :
    b1_law_right W E [a, b, c, some (.int d), some (.tup [.int x, .int y]), some (.tup [.int w, .tup (ts.map .int)]), e, f, g] M := by
  simp (config := { decide := false }) only [dSeq, dNext, dRet, dRetN, dIfS, dAsg, dgName, dgTup, dgCons, dgNil, dgSub, dPar, dAug, dDrop, dBreak, dCont, dNever, dOp, gI, gT, gPlus, gAdd, gEq, gNe, gIs, gIsNot, gIx, dV, dC, dB, dAnd, dOr, dNot, dAndV, dOrV, dNotV, dIf, dNeg, dChain, dNil, dCons, dTup, dLst, dLstM, dNoPart, dPart, dSl, dCB, dCall, gLen, gAbs, g2, gInt, gStr, gDivmod, gIsTy, gTuple, gList, gSum, gAll, gAny, dAppend, dItems, itemsOf, dRange1, dRange2, dFor, D.onB, D.tyn, D.isNon, asL, rsv, kb_ii, kb_bi, kb_ni, kb_si, kb_ti, kb_li, kb_ib, kb_bb, kb_nb, kb_sb, kb_tb, kb_lb, kb_is, kb_bs, kb_ns, kb_ss, kb_ts, kb_ls, kb_it, kb_bt, kb_nt, kb_st, kb_tt, kb_lt, startD, List.map_cons, List.map_nil, List.length_cons, List.length_nil, List.cons_append, List.nil_append, List.replicate, List.getElem?_cons_zero, List.getElem?_cons_succ, List.set_cons_zero, List.set_cons_succ, List.zip_cons_cons, List.zip_nil_right, List.foldl_cons, List.foldl_nil, Option.bind_some, Option.bind_none, um_same, um_um, Bool.false_eq_true, reduceCtorEq, false_implies, true_implies, forall_const, true_and, and_true, and_self, Bool.not_true, Bool.not_false, implies_true, decide_eq_true_eq, decide_eq_false_iff_not, Bool.not_eq_true, not_true_eq_false, not_false_eq_true, Bool.not_eq_true', Bool.not_eq_false', D.onB, sizeLine_eq, Nat.reduceAdd, Nat.reduceLeDiff, Nat.zero_add, Nat.reduceLT, b1_law_right, sp_least_solution, sp_least_of, sp_fraction, sp_fraction_of, sp_place_of, at0, at1, at2, at3, ix0, ix1, ix2]
  have p := @pl_item w x y ts
  refine ⟨w, ts, k.cf, k.ne, k.bd, k.ln, ?_⟩
  rw [k.ls]
  refine ⟨⟨p.1, p.1⟩, fun c => absurd c (by rw [eqv_self p.1]; decide), fun _ => ⟨w, ts, k.cf, ⟨p.2, p.2⟩, fun c => absurd c (by rw [eqv_self p.2]; decide), fun _ => ⟨w, ts, k.cf, k.ne, k.bd, k.ln, k.ls, k.xy, h⟩⟩⟩
theorem fame61 : cfB 61 7 [1, 4, 3, 1, 2, 2, 1, 3, 4, 1, 14] 1766319049 226153980 = true := by decide +kernel
theorem fame109 : cfB 109 10 [2, 3, 1, 2, 4, 1, 6, 6, 1, 4, 2, 1, 3, 2, 20] 158070671986249 15140424455100 = true := by decide +kernel
theorem fame13 : cfB 13 3 [1, 1, 1, 1, 6] 649 180 = true := by decide +kernel
theorem fame29 : cfB 29 5 [2, 1, 1, 2, 10] 9801 1820 = true := by decide +kernel
theorem fame46 : cfB 46 6 [1, 3, 1, 1, 2, 6, 2, 1, 1, 3, 1, 12] 24335 3588 = true := by decide +kernel
theorem fame94 : cfB 94 9 [1, 2, 3, 1, 1, 5, 1, 8, 1, 5, 1, 1, 3, 2, 1, 18] 2143295 221064 = true := by decide +kernel
theorem fame53 : cfB 53 7 [3, 1, 1, 3, 14] 66249 9100 = true := by decide +kernel
theorem st_end {E : XE'} {Q : DK} {M : Mp} {g : Addr} {m d : Int} {a b c e f h6 : Option D} {cc : Int} (hg : M g = some (wellO m d cc)) (wp : WellP m d cc (0 + 1)) (h : ∀ m' d' c', Q (.bl true) (um M g (wellO m' d' c'))) (z : Option D) :
    r6_law_right (fnW E) { nx := fun _ M' => Wk (Q .non) M', rt := fun d M' => Wk (Q d) M' } [some (.ref g), a, b, c, e, f, h6, z, z] M := by
  simp (config := { decide := false }) only [dSeq, dNext, dRet, dRetN, dIfS, dAsg, dgName, dgTup, dgCons, dgNil, dgSub, dPar, dAug, dDrop, dBreak, dCont, dNever, dOp, gI, gT, gPlus, gAdd, gEq, gNe, gIs, gIsNot, gIx, dV, dC, dB, dAnd, dOr, dNot, dAndV, dOrV, dNotV, dIf, dNeg, dChain, dNil, dCons, dTup, dLst, dLstM, dNoPart, dPart, dSl, dCB, dCall, gLen, gAbs, g2, gInt, gStr, gDivmod, gIsTy, gTuple, gList, gSum, gAll, gAny, dAppend, dItems, itemsOf, dRange1, dRange2, dFor, D.onB, D.tyn, D.isNon, asL, rsv, kb_ii, kb_bi, kb_ni, kb_si, kb_ti, kb_li, kb_ib, kb_bb, kb_nb, kb_sb, kb_tb, kb_lb, kb_is, kb_bs, kb_ns, kb_ss, kb_ts, kb_ls, kb_it, kb_bt, kb_nt, kb_st, kb_tt, kb_lt, startD, List.map_cons, List.map_nil, List.length_cons, List.length_nil, List.cons_append, List.nil_append, List.replicate, List.getElem?_cons_zero, List.getElem?_cons_succ, List.set_cons_zero, List.set_cons_succ, List.zip_cons_cons, List.zip_nil_right, List.foldl_cons, List.foldl_nil, Option.bind_some, Option.bind_none, um_same, um_um, Bool.false_eq_true, reduceCtorEq, false_implies, true_implies, forall_const, true_and, and_true, and_self, Bool.not_true, Bool.not_false, implies_true, decide_eq_true_eq, decide_eq_false_iff_not, Bool.not_eq_true, not_true_eq_false, not_false_eq_true, Bool.not_eq_true', Bool.not_eq_false', D.onB, sizeLine_eq, Nat.reduceAdd, Nat.reduceLeDiff, Nat.zero_add, Nat.reduceLT, r6_law_right, r7_law_right, r8_law_right, sp_law_dip]
  refine ⟨m, d, cc, 0 + 1, hg, wp, by decide, by decide, fun r m' d' c' r0 r1 wp' => ?_⟩
  have fin : ∀ (dd x y w : Int) (ts : List Int) (xs : List D), cfB dd w ts x y = true → r9_law_right (fnW E) { nx := fun _ M' => Wk (Q .non) M', rt := fun d M' => Wk (Q d) M' } [some (.ref g), a, b, some (.int dd), e, f, some (.lst xs), some (.int x), some (.int y)] (um M g (wellO m' d' c')) := by
    intro dd x y w ts xs kk
    have k := cfB_ok kk
    have hd := k.cf.1.2
    have hx := k.xy
    have p := @pl_item w x y ts
    simp (config := { decide := false }) only [dSeq, dNext, dRet, dRetN, dIfS, dAsg, dgName, dgTup, dgCons, dgNil, dgSub, dPar, dAug, dDrop, dBreak, dCont, dNever, dOp, gI, gT, gPlus, gAdd, gEq, gNe, gIs, gIsNot, gIx, dV, dC, dB, dAnd, dOr, dNot, dAndV, dOrV, dNotV, dIf, dNeg, dChain, dNil, dCons, dTup, dLst, dLstM, dNoPart, dPart, dSl, dCB, dCall, gLen, gAbs, g2, gInt, gStr, gDivmod, gIsTy, gTuple, gList, gSum, gAll, gAny, dAppend, dItems, itemsOf, dRange1, dRange2, dFor, D.onB, D.tyn, D.isNon, asL, rsv, kb_ii, kb_bi, kb_ni, kb_si, kb_ti, kb_li, kb_ib, kb_bb, kb_nb, kb_sb, kb_tb, kb_lb, kb_is, kb_bs, kb_ns, kb_ss, kb_ts, kb_ls, kb_it, kb_bt, kb_nt, kb_st, kb_tt, kb_lt, startD, List.map_cons, List.map_nil, List.length_cons, List.length_nil, List.cons_append, List.nil_append, List.replicate, List.getElem?_cons_zero, List.getElem?_cons_succ, List.set_cons_zero, List.set_cons_succ, List.zip_cons_cons, List.zip_nil_right, List.foldl_cons, List.foldl_nil, Option.bind_some, Option.bind_none, um_same, um_um, Bool.false_eq_true, reduceCtorEq, false_implies, true_implies, forall_const, true_and, and_true, and_self, Bool.not_true, Bool.not_false, implies_true, decide_eq_true_eq, decide_eq_false_iff_not, Bool.not_eq_true, not_true_eq_false, not_false_eq_true, Bool.not_eq_true', Bool.not_eq_false', D.onB, sizeLine_eq, Nat.reduceAdd, Nat.reduceLeDiff, Nat.zero_add, Nat.reduceLT, r9_law_right, sp_least_solution, sp_least_of]
    refine ⟨.inl (.inl ⟨by omega, by omega⟩), .inl (.inl ⟨by omega, by omega⟩), .inl (.inr ⟨by omega, by omega⟩), fun _ => ⟨w, ts, k.cf, k.ne, k.bd, k.ln, ?_⟩, fun c => absurd hx.2.2.2.2 c⟩
    rw [k.ls]
    exact ⟨⟨p.1, p.1⟩, by rw [eqv_self p.1]; exact Wk.of (h _ _ _)⟩
  have r7 : r = 0 ∨ r = 1 ∨ r = 2 ∨ r = 3 ∨ r = 4 ∨ r = 5 ∨ r = 6 := by omega
  rcases r7 with rfl | rfl | rfl | rfl | rfl | rfl | rfl
  · exact fin 61 1766319049 226153980 7 _ _ fame61
  · exact fin 109 158070671986249 15140424455100 10 _ _ fame109
  · exact fin 13 649 180 3 _ _ fame13
  · exact fin 29 9801 1820 5 _ _ fame29
  · exact fin 46 24335 3588 6 _ _ fame46
  · exact fin 94 2143295 221064 9 _ _ fame94
  · exact fin 53 66249 9100 7 _ _ fame53
theorem st_r5 {E : XE'} {Q : DK} {M : Mp} {g : Addr} {m d n : Int} {a b c e : Option D} {cc : Int} (hg : M g = some (wellO m d cc)) (wp : WellP m d cc (0 + 1)) (h : ∀ m' d' c', Q (.bl true) (um M g (wellO m' d' c')))
    (hf : famB n = true) (n0 : 2 ≤ n ∧ n ≤ 998) :
    r5_law_right (fnW E) { nx := fun _ M' => Wk (Q .non) M', rt := fun d M' => Wk (Q d) M' } [some (.ref g), some (.int n), e, a, b, c, none, none, none] M := by
  simp (config := { decide := false }) only [dSeq, dNext, dRet, dRetN, dIfS, dAsg, dgName, dgTup, dgCons, dgNil, dgSub, dPar, dAug, dDrop, dBreak, dCont, dNever, dOp, gI, gT, gPlus, gAdd, gEq, gNe, gIs, gIsNot, gIx, dV, dC, dB, dAnd, dOr, dNot, dAndV, dOrV, dNotV, dIf, dNeg, dChain, dNil, dCons, dTup, dLst, dLstM, dNoPart, dPart, dSl, dCB, dCall, gLen, gAbs, g2, gInt, gStr, gDivmod, gIsTy, gTuple, gList, gSum, gAll, gAny, dAppend, dItems, itemsOf, dRange1, dRange2, dFor, D.onB, D.tyn, D.isNon, asL, rsv, kb_ii, kb_bi, kb_ni, kb_si, kb_ti, kb_li, kb_ib, kb_bb, kb_nb, kb_sb, kb_tb, kb_lb, kb_is, kb_bs, kb_ns, kb_ss, kb_ts, kb_ls, kb_it, kb_bt, kb_nt, kb_st, kb_tt, kb_lt, startD, List.map_cons, List.map_nil, List.length_cons, List.length_nil, List.cons_append, List.nil_append, List.replicate, List.getElem?_cons_zero, List.getElem?_cons_succ, List.set_cons_zero, List.set_cons_succ, List.zip_cons_cons, List.zip_nil_right, List.foldl_cons, List.foldl_nil, Option.bind_some, Option.bind_none, um_same, um_um, Bool.false_eq_true, reduceCtorEq, false_implies, true_implies, forall_const, true_and, and_true, and_self, Bool.not_true, Bool.not_false, implies_true, decide_eq_true_eq, decide_eq_false_iff_not, Bool.not_eq_true, not_true_eq_false, not_false_eq_true, Bool.not_eq_true', Bool.not_eq_false', D.onB, sizeLine_eq, Nat.reduceAdd, Nat.reduceLeDiff, Nat.zero_add, Nat.reduceLT, r5_law_right, sp_least_solution, sp_least_of]
  have ge : r6_law_right (fnW E) { nx := fun _ M' => Wk (Q .non) M', rt := fun d M' => Wk (Q d) M' } [some (.ref g), some (.int n), e, a, b, c, none, none, none] M := st_end hg wp h none
  have mo : mulOk n n := .inl (.inl ⟨by omega, by omega⟩)
  refine ⟨fun c2 => ?_, fun _ => ge⟩
  unfold famB at hf
  rw [Bool.and_eq_true, Bool.or_eq_true, decide_eq_true_eq] at hf
  rcases hf.2 with q | q
  · omega
  unfold lessB at q
  split at q
  · rename_i ts _
    have k := cfB_ok q
    have p := @pl_item (n - 1) (n * n - 1) n ts
    refine ⟨mo, n - 1, ts, k.cf, k.ne, k.bd, k.ln, mo, ?_⟩
    rw [k.ls]
    exact ⟨⟨p.1, p.1⟩, fun c => absurd c (by rw [eqv_self p.1]; decide), fun _ => ge⟩
  · cases q
theorem pure_law_right (ds : List D) (M : Mp) (Q : DK) (E : XE') (h : sp_law_right ds M Q E) : t_law_right (fnW E) { nx := fun _ M' => Wk (Q .non) M', rt := fun d M' => Wk (Q d) M' } (startD N_law_right ds) M := by
  unfold sp_law_right at h
  split at h
  · rename_i g
    obtain ⟨m, d, hg, wp, h⟩ := h
    simp (config := { decide := false }) only [dSeq, dNext, dRet, dRetN, dIfS, dAsg, dgName, dgTup, dgCons, dgNil, dgSub, dPar, dAug, dDrop, dBreak, dCont, dNever, dOp, gI, gT, gPlus, gAdd, gEq, gNe, gIs, gIsNot, gIx, dV, dC, dB, dAnd, dOr, dNot, dAndV, dOrV, dNotV, dIf, dNeg, dChain, dNil, dCons, dTup, dLst, dLstM, dNoPart, dPart, dSl, dCB, dCall, gLen, gAbs, g2, gInt, gStr, gDivmod, gIsTy, gTuple, gList, gSum, gAll, gAny, dAppend, dItems, itemsOf, dRange1, dRange2, dFor, D.onB, D.tyn, D.isNon, asL, rsv, kb_ii, kb_bi, kb_ni, kb_si, kb_ti, kb_li, kb_ib, kb_bb, kb_nb, kb_sb, kb_tb, kb_lb, kb_is, kb_bs, kb_ns, kb_ss, kb_ts, kb_ls, kb_it, kb_bt, kb_nt, kb_st, kb_tt, kb_lt, startD, List.map_cons, List.map_nil, List.length_cons, List.length_nil, List.cons_append, List.nil_append, List.replicate, List.getElem?_cons_zero, List.getElem?_cons_succ, List.set_cons_zero, List.set_cons_succ, List.zip_cons_cons, List.zip_nil_right, List.foldl_cons, List.foldl_nil, Option.bind_some, Option.bind_none, um_same, um_um, Bool.false_eq_true, reduceCtorEq, false_implies, true_implies, forall_const, true_and, and_true, and_self, Bool.not_true, Bool.not_false, implies_true, decide_eq_true_eq, decide_eq_false_iff_not, Bool.not_eq_true, not_true_eq_false, not_false_eq_true, Bool.not_eq_true', Bool.not_eq_false', D.onB, sizeLine_eq, Nat.reduceAdd, Nat.reduceLeDiff, Nat.zero_add, Nat.reduceLT, t_law_right, sp_law_dip]
    refine ⟨m, d, 0, 0, hg, wp, by decide, by decide, fun r m' d' c' r0 r1 wp' => ?_⟩
    have n0 : 2 ≤ 2 + r ∧ 2 + r ≤ 998 := by omega
    generalize 2 + r = n at n0 ⊢
    clear r0 r1 hg wp
    simp (config := { decide := false }) only [dSeq, dNext, dRet, dRetN, dIfS, dAsg, dgName, dgTup, dgCons, dgNil, dgSub, dPar, dAug, dDrop, dBreak, dCont, dNever, dOp, gI, gT, gPlus, gAdd, gEq, gNe, gIs, gIsNot, gIx, dV, dC, dB, dAnd, dOr, dNot, dAndV, dOrV, dNotV, dIf, dNeg, dChain, dNil, dCons, dTup, dLst, dLstM, dNoPart, dPart, dSl, dCB, dCall, gLen, gAbs, g2, gInt, gStr, gDivmod, gIsTy, gTuple, gList, gSum, gAll, gAny, dAppend, dItems, itemsOf, dRange1, dRange2, dFor, D.onB, D.tyn, D.isNon, asL, rsv, kb_ii, kb_bi, kb_ni, kb_si, kb_ti, kb_li, kb_ib, kb_bb, kb_nb, kb_sb, kb_tb, kb_lb, kb_is, kb_bs, kb_ns, kb_ss, kb_ts, kb_ls, kb_it, kb_bt, kb_nt, kb_st, kb_tt, kb_lt, startD, List.map_cons, List.map_nil, List.length_cons, List.length_nil, List.cons_append, List.nil_append, List.replicate, List.getElem?_cons_zero, List.getElem?_cons_succ, List.set_cons_zero, List.set_cons_succ, List.zip_cons_cons, List.zip_nil_right, List.foldl_cons, List.foldl_nil, Option.bind_some, Option.bind_none, um_same, um_um, Bool.false_eq_true, reduceCtorEq, false_implies, true_implies, forall_const, true_and, and_true, and_self, Bool.not_true, Bool.not_false, implies_true, decide_eq_true_eq, decide_eq_false_iff_not, Bool.not_eq_true, not_true_eq_false, not_false_eq_true, Bool.not_eq_true', Bool.not_eq_false', D.onB, sizeLine_eq, Nat.reduceAdd, Nat.reduceLeDiff, Nat.zero_add, Nat.reduceLT, r1_law_right]
    repeat (refine And.intro (by first | omega | decide | exact .inl (.inl ⟨by omega, by omega⟩) | exact .inl (.inr ⟨by omega, by omega⟩) | exact ⟨by omega, .inl (by omega)⟩ | exact ⟨_, rfl⟩) ?_)
    intro p hp
    simp (config := { decide := false }) only [dSeq, dNext, dRet, dRetN, dIfS, dAsg, dgName, dgTup, dgCons, dgNil, dgSub, dPar, dAug, dDrop, dBreak, dCont, dNever, dOp, gI, gT, gPlus, gAdd, gEq, gNe, gIs, gIsNot, gIx, dV, dC, dB, dAnd, dOr, dNot, dAndV, dOrV, dNotV, dIf, dNeg, dChain, dNil, dCons, dTup, dLst, dLstM, dNoPart, dPart, dSl, dCB, dCall, gLen, gAbs, g2, gInt, gStr, gDivmod, gIsTy, gTuple, gList, gSum, gAll, gAny, dAppend, dItems, itemsOf, dRange1, dRange2, dFor, D.onB, D.tyn, D.isNon, asL, rsv, kb_ii, kb_bi, kb_ni, kb_si, kb_ti, kb_li, kb_ib, kb_bb, kb_nb, kb_sb, kb_tb, kb_lb, kb_is, kb_bs, kb_ns, kb_ss, kb_ts, kb_ls, kb_it, kb_bt, kb_nt, kb_st, kb_tt, kb_lt, startD, List.map_cons, List.map_nil, List.length_cons, List.length_nil, List.cons_append, List.nil_append, List.replicate, List.getElem?_cons_zero, List.getElem?_cons_succ, List.set_cons_zero, List.set_cons_succ, List.zip_cons_cons, List.zip_nil_right, List.foldl_cons, List.foldl_nil, Option.bind_some, Option.bind_none, um_same, um_um, Bool.false_eq_true, reduceCtorEq, false_implies, true_implies, forall_const, true_and, and_true, and_self, Bool.not_true, Bool.not_false, implies_true, decide_eq_true_eq, decide_eq_false_iff_not, Bool.not_eq_true, not_true_eq_false, not_false_eq_true, Bool.not_eq_true', Bool.not_eq_false', D.onB, sizeLine_eq, Nat.reduceAdd, Nat.reduceLeDiff, Nat.zero_add, Nat.reduceLT, r2_law_right]
    repeat (refine And.intro (by first | omega | decide | exact .inl (.inl ⟨by omega, by omega⟩) | exact .inl (.inr ⟨by omega, by omega⟩) | exact ⟨by omega, .inl (by omega)⟩ | exact ⟨_, rfl⟩) ?_)
    simp (config := { decide := false }) only [dSeq, dNext, dRet, dRetN, dIfS, dAsg, dgName, dgTup, dgCons, dgNil, dgSub, dPar, dAug, dDrop, dBreak, dCont, dNever, dOp, gI, gT, gPlus, gAdd, gEq, gNe, gIs, gIsNot, gIx, dV, dC, dB, dAnd, dOr, dNot, dAndV, dOrV, dNotV, dIf, dNeg, dChain, dNil, dCons, dTup, dLst, dLstM, dNoPart, dPart, dSl, dCB, dCall, gLen, gAbs, g2, gInt, gStr, gDivmod, gIsTy, gTuple, gList, gSum, gAll, gAny, dAppend, dItems, itemsOf, dRange1, dRange2, dFor, D.onB, D.tyn, D.isNon, asL, rsv, kb_ii, kb_bi, kb_ni, kb_si, kb_ti, kb_li, kb_ib, kb_bb, kb_nb, kb_sb, kb_tb, kb_lb, kb_is, kb_bs, kb_ns, kb_ss, kb_ts, kb_ls, kb_it, kb_bt, kb_nt, kb_st, kb_tt, kb_lt, startD, List.map_cons, List.map_nil, List.length_cons, List.length_nil, List.cons_append, List.nil_append, List.replicate, List.getElem?_cons_zero, List.getElem?_cons_succ, List.set_cons_zero, List.set_cons_succ, List.zip_cons_cons, List.zip_nil_right, List.foldl_cons, List.foldl_nil, Option.bind_some, Option.bind_none, um_same, um_um, Bool.false_eq_true, reduceCtorEq, false_implies, true_implies, forall_const, true_and, and_true, and_self, Bool.not_true, Bool.not_false, implies_true, decide_eq_true_eq, decide_eq_false_iff_not, Bool.not_eq_true, not_true_eq_false, not_false_eq_true, Bool.not_eq_true', Bool.not_eq_false', D.onB, sizeLine_eq, Nat.reduceAdd, Nat.reduceLeDiff, Nat.zero_add, Nat.reduceLT, r3_law_right]
    repeat (refine And.intro (by first | omega | decide | exact .inl (.inl ⟨by omega, by omega⟩) | exact .inl (.inr ⟨by omega, by omega⟩) | exact ⟨by omega, .inl (by omega)⟩ | exact ⟨_, rfl⟩) ?_)
    have hf := fam_of n0
    rw [kn_eq]
    unfold r4_law_right
    refine settle_for (ρ' := [some (.ref g), some (.int n), some (.lst (known n)), none, none, none, none, none, none]) rfl hp rfl ?_
    refine for_by (fun _ ρ M' => M' = um M g (wellO m' d' c') ∧ ∃ a b c, ρ = [some (.ref g), some (.int n), some (.lst (known n)), a, b, c, none, none, none]) ⟨rfl, none, none, none, rfl⟩ ?_ ?_
    · rintro i dd ρ M' P hi ⟨rfl, a, b, c, rfl⟩ hP
      obtain ⟨d1, w1, t1, x1, y1, rfl, k1⟩ := known_mem hf hi
      simp only [item, dgTup, dgCons, dgName, dgNil, asL, List.set_cons_zero, List.set_cons_succ]
      refine st_body (cfB_ok k1) ?_
      exact Wk.of (hP _ _ ⟨rfl, _, _, _, rfl⟩)
    · rintro ρ M' ⟨rfl, a, b, c, rfl⟩
      refine st_r5 (um_same ..) ?_ (fun m1 d1 c1 => by rw [um_um]; exact h m1 d1 c1) hf n0
      exact wp'
  · exact h.elim
abbrev N_law_well : List Str := ["_law_script", "_law_k", "_law_cell", "_law_mixed", "_law_each"]
def sp_law_well : DSp := fun ds M Q _ => match ds with
  | [.scr ns, .int k] => (0 ≤ k ∧ k < 1000) ∧ ∀ p m d, M p = none → WellP m d 0 0 → Q (.ref p) (um M p (wellO m d 0))
  | _ => False
theorem len_law_well : ∀ ds M Q E, sp_law_well ds M Q E → ds.length = 2 := fun ds M Q E h => by
  unfold sp_law_well at h; split at h <;> first | rfl | exact h.elim
theorem emod_in (x n : Int) (h : 0 < n) : 0 ≤ x % n ∧ x % n < n := ⟨Int.emod_nonneg _ (by omega), Int.emod_lt_of_pos _ h⟩
def b1_law_well (W : DW') : TDS :=
  dAsg (dOp (gI (fun _ j => 0 < j) fun i j => .int (i % j)) (dCB gInt (dCons (dOp gAdd (dOp gAdd (dOp (gI mulOk fun i j => .int (i * j)) (dV 3) (dC (.int 48271))) (dOp (gI (fun _ j => 0 < j) fun i j => .int (i % j)) (dCB gInt (dCons (dV 4) (dNil))) (dC (.int 2147483587)))) (dC (.int 13))) (dNil))) (dC (.int 2147483629))) (dgName 3)
def t_law_well (W : DW') : TDS :=
  dSeq (dAsg (dIf (dB (dOp (gT fun i j => decide (i < j)) (dV 1) (dCB gLen (dCons (dV 0) (dNil))))) (dOp gIx (dV 0) (dV 1)) (dC (.int 0))) (dgName 2)) <|
  dSeq (dAsg (dOp gAdd (dC (.int 104729)) (dOp (gI mulOk fun i j => .int (i * j)) (dC (.int 7907)) (dV 1))) (dgName 3)) <|
  dSeq (dFor (dItems (dSl (dV 0) (dNoPart) (dPart (dC (.int 4))))) (dgName 4) (b1_law_well W)) <|
  dSeq (dAsg (dOp (gI (fun _ j => 0 < j) fun i j => .int (i % j)) (dCB gInt (dCons (dOp gAdd (dOp gAdd (dOp (gI mulOk fun i j => .int (i * j)) (dV 3) (dC (.int 69621))) (dOp (gI (fun _ j => 0 < j) fun i j => .int (i % j)) (dCB gInt (dCons (dV 2) (dNil))) (dC (.int 2147483579)))) (dC (.int 5))) (dNil))) (dC (.int 2147483629))) (dgName 3)) <|
  dRet (dLstM (dCons (dV 3) (dCons (dIf (dB (dOp (gT fun i j => decide (j ≤ i)) (dCB gAbs (dCons (dV 2) (dNil))) (dOp (gI CPow fun i j => .int (i ^ j.toNat)) (dC (.int 10)) (dC (.int 18))))) (dCB gAbs (dCons (dV 2) (dNil))) (dC (.int 0))) (dCons (dC (.int 0)) (dNil)))))
theorem pure_law_well (ds : List D) (M : Mp) (Q : DK) (E : XE') (h : sp_law_well ds M Q E) : t_law_well (fnW E) { nx := fun _ M' => Wk (Q .non) M', rt := fun d M' => Wk (Q d) M' } (startD N_law_well ds) M := by
  unfold sp_law_well at h
  split at h
  · rename_i ns k
    obtain ⟨⟨k0, k1⟩, h⟩ := h
    have main : ∀ x : Int, forL (dgName 4) (b1_law_well (fnW E)) { nx := dSeq (dAsg (dOp (gI (fun _ j => 0 < j) fun i j => .int (i % j)) (dCB gInt (dCons (dOp gAdd (dOp gAdd (dOp (gI mulOk fun i j => .int (i * j)) (dV 3) (dC (.int 69621))) (dOp (gI (fun _ j => 0 < j) fun i j => .int (i % j)) (dCB gInt (dCons (dV 2) dNil)) (dC (.int 2147483579)))) (dC (.int 5))) dNil)) (dC (.int 2147483629))) (dgName 3)) (dRet (dLstM (dCons (dV 3) (dCons (dIf (dB (dOp (gT fun i j => decide (j ≤ i)) (dCB gAbs (dCons (dV 2) dNil)) (dOp (gI CPow fun i j => .int (i ^ j.toNat)) (dC (.int 10)) (dC (.int 18))))) (dCB gAbs (dCons (dV 2) dNil)) (dC (.int 0))) (dCons (dC (.int 0)) dNil))))) { nx := fun _ M' => Wk (Q .non) M', rt := fun d M' => Wk (Q d) M' }, rt := fun d M' => Wk (Q d) M' } ((cutL ns none (some 4)).map .int)
        [some (.scr ns), some (.int k), some (.int x), some (.int (104729 + 7907 * k)), none] M := by
      intro x
      refine for_by (fun i ρ M' => M' = M ∧ ∃ m z, ρ = [some (.scr ns), some (.int k), some (.int x), some (.int m), z] ∧ -(2 ^ 40) < m ∧ m < 2 ^ 40) ⟨rfl, _, none, rfl, by omega, by omega⟩ ?_ ?_
      · rintro i dd ρ M' P hi ⟨rfl, m, z, rfl, m0, m1⟩ hP
        rw [List.getElem?_map] at hi
        cases q : (cutL ns none (some 4))[i]? with
        | none => rw [q] at hi; cases hi
        | some t =>
          rw [q] at hi
          cases hi
          simp (config := { decide := false }) only [dSeq, dNext, dRet, dRetN, dIfS, dAsg, dgName, dgTup, dgCons, dgNil, dgSub, dPar, dAug, dDrop, dBreak, dCont, dNever, dOp, gI, gT, gPlus, gAdd, gEq, gNe, gIs, gIsNot, gIx, dV, dC, dB, dAnd, dOr, dNot, dAndV, dOrV, dNotV, dIf, dNeg, dChain, dNil, dCons, dTup, dLst, dLstM, dNoPart, dPart, dSl, dCB, dCall, gLen, gAbs, g2, gInt, gStr, gDivmod, gIsTy, gTuple, gList, gSum, gAll, gAny, dAppend, dItems, itemsOf, dRange1, dRange2, dFor, D.onB, D.tyn, D.isNon, asL, rsv, kb_ii, kb_bi, kb_ni, kb_si, kb_ti, kb_li, kb_ib, kb_bb, kb_nb, kb_sb, kb_tb, kb_lb, kb_is, kb_bs, kb_ns, kb_ss, kb_ts, kb_ls, kb_it, kb_bt, kb_nt, kb_st, kb_tt, kb_lt, startD, List.map_cons, List.map_nil, List.length_cons, List.length_nil, List.cons_append, List.nil_append, List.replicate, List.getElem?_cons_zero, List.getElem?_cons_succ, List.set_cons_zero, List.set_cons_succ, List.zip_cons_cons, List.zip_nil_right, List.foldl_cons, List.foldl_nil, Option.bind_some, Option.bind_none, um_same, um_um, Bool.false_eq_true, reduceCtorEq, false_implies, true_implies, forall_const, true_and, and_true, and_self, Bool.not_true, Bool.not_false, implies_true, decide_eq_true_eq, decide_eq_false_iff_not, Bool.not_eq_true, not_true_eq_false, not_false_eq_true, Bool.not_eq_true', Bool.not_eq_false', D.onB, sizeLine_eq, Nat.reduceAdd, Nat.reduceLeDiff, Nat.zero_add, Nat.reduceLT, b1_law_well]
          have := emod_in (m * 48271 + t % 2147483587 + 13) 2147483629 (by decide)
          exact ⟨.inl (.inl ⟨by omega, by omega⟩), by decide, by decide, Wk.of (hP _ _ ⟨rfl, _, _, rfl, by omega, by omega⟩)⟩
      · rintro ρ M' ⟨rfl, m, z, rfl, m0, m1⟩
        simp (config := { decide := false }) only [dSeq, dNext, dRet, dRetN, dIfS, dAsg, dgName, dgTup, dgCons, dgNil, dgSub, dPar, dAug, dDrop, dBreak, dCont, dNever, dOp, gI, gT, gPlus, gAdd, gEq, gNe, gIs, gIsNot, gIx, dV, dC, dB, dAnd, dOr, dNot, dAndV, dOrV, dNotV, dIf, dNeg, dChain, dNil, dCons, dTup, dLst, dLstM, dNoPart, dPart, dSl, dCB, dCall, gLen, gAbs, g2, gInt, gStr, gDivmod, gIsTy, gTuple, gList, gSum, gAll, gAny, dAppend, dItems, itemsOf, dRange1, dRange2, dFor, D.onB, D.tyn, D.isNon, asL, rsv, kb_ii, kb_bi, kb_ni, kb_si, kb_ti, kb_li, kb_ib, kb_bb, kb_nb, kb_sb, kb_tb, kb_lb, kb_is, kb_bs, kb_ns, kb_ss, kb_ts, kb_ls, kb_it, kb_bt, kb_nt, kb_st, kb_tt, kb_lt, startD, List.map_cons, List.map_nil, List.length_cons, List.length_nil, List.cons_append, List.nil_append, List.replicate, List.getElem?_cons_zero, List.getElem?_cons_succ, List.set_cons_zero, List.set_cons_succ, List.zip_cons_cons, List.zip_nil_right, List.foldl_cons, List.foldl_nil, Option.bind_some, Option.bind_none, um_same, um_um, Bool.false_eq_true, reduceCtorEq, false_implies, true_implies, forall_const, true_and, and_true, and_self, Bool.not_true, Bool.not_false, implies_true, decide_eq_true_eq, decide_eq_false_iff_not, Bool.not_eq_true, not_true_eq_false, not_false_eq_true, Bool.not_eq_true', Bool.not_eq_false', D.onB, sizeLine_eq, Nat.reduceAdd, Nat.reduceLeDiff, Nat.zero_add, Nat.reduceLT]
        have := emod_in (m * 69621 + x % 2147483579 + 5) 2147483629 (by decide)
        have cp : CPow 10 18 := ⟨by decide, by decide, by decide⟩
        refine ⟨.inl (.inl ⟨by omega, by omega⟩), by decide, by decide, cp, fun c p hp => Wk.of (h _ _ _ hp ⟨by omega, by omega, by omega, by omega, by omega⟩), fun c p hp => Wk.of (h _ _ _ hp ⟨by omega, by omega, by omega, by omega, by omega⟩)⟩
    simp (config := { decide := false }) only [dSeq, dNext, dRet, dRetN, dIfS, dAsg, dgName, dgTup, dgCons, dgNil, dgSub, dPar, dAug, dDrop, dBreak, dCont, dNever, dOp, gI, gT, gPlus, gAdd, gEq, gNe, gIs, gIsNot, gIx, dV, dC, dB, dAnd, dOr, dNot, dAndV, dOrV, dNotV, dIf, dNeg, dChain, dNil, dCons, dTup, dLst, dLstM, dNoPart, dPart, dSl, dCB, dCall, gLen, gAbs, g2, gInt, gStr, gDivmod, gIsTy, gTuple, gList, gSum, gAll, gAny, dAppend, dItems, itemsOf, dRange1, dRange2, dFor, D.onB, D.tyn, D.isNon, asL, rsv, kb_ii, kb_bi, kb_ni, kb_si, kb_ti, kb_li, kb_ib, kb_bb, kb_nb, kb_sb, kb_tb, kb_lb, kb_is, kb_bs, kb_ns, kb_ss, kb_ts, kb_ls, kb_it, kb_bt, kb_nt, kb_st, kb_tt, kb_lt, startD, List.map_cons, List.map_nil, List.length_cons, List.length_nil, List.cons_append, List.nil_append, List.replicate, List.getElem?_cons_zero, List.getElem?_cons_succ, List.set_cons_zero, List.set_cons_succ, List.zip_cons_cons, List.zip_nil_right, List.foldl_cons, List.foldl_nil, Option.bind_some, Option.bind_none, um_same, um_um, Bool.false_eq_true, reduceCtorEq, false_implies, true_implies, forall_const, true_and, and_true, and_self, Bool.not_true, Bool.not_false, implies_true, decide_eq_true_eq, decide_eq_false_iff_not, Bool.not_eq_true, not_true_eq_false, not_false_eq_true, Bool.not_eq_true', Bool.not_eq_false', D.onB, sizeLine_eq, Nat.reduceAdd, Nat.reduceLeDiff, Nat.zero_add, Nat.reduceLT, t_law_well]
    refine ⟨fun c => ?_, fun c => ?_⟩
    · have hk : k.toNat < ns.length := by omega
      have e : atI ns k = some ns[k.toNat] := by
        have : atI ns ((k.toNat : Nat) : Int) = some ns[k.toNat] := atI_nat (List.getElem?_eq_getElem hk)
        rwa [Int.toNat_of_nonneg k0] at this
      rw [e]
      exact ⟨.inl (.inl ⟨by decide, by decide⟩), main _⟩
    · exact ⟨.inl (.inl ⟨by decide, by decide⟩), main _⟩
  · exact h.elim
abbrev N_law : List Str := ["_law_script", "_law_k"]
abbrev sp_law : DSp := spLaw
theorem len_law : ∀ ds M Q E, sp_law ds M Q E → ds.length = 1 := fun ds M Q E h => by
  unfold sp_law spLaw at h; split at h <;> first | rfl | exact h.elim
theorem law_is : ∀ ds M Q E, spLaw ds M Q E → sp_law ds M Q E := fun _ _ _ _ h => h
def b1_law (W : DW') : TDS :=
  dIfS (dNot (dB (dCall sp_law_right W (dCons (dCall sp_law_well W (dCons (dV 0) (dCons (dV 1) (dNil)))) (dNil))))) (dRet (dC (.bl false))) (dNext)
def t_law (W : DW') : TDS :=
  dSeq (dFor (dRange1 (dCons (dCB (g2 max) (dCons (dC (.int 2)) (dCons (dCB (g2 min) (dCons (dCB gLen (dCons (dV 0) (dNil))) (dCons (dC (.int 6)) (dNil)))) (dNil)))) (dNil))) (dgName 1) (b1_law W)) <|
  dRet (dC (.bl true))
theorem pure_law (ds : List D) (M : Mp) (Q : DK) (E : XE') (h : sp_law ds M Q E) : t_law (fnW E) { nx := fun _ M' => Wk (Q .non) M', rt := fun d M' => Wk (Q d) M' } (startD N_law ds) M := by
  unfold sp_law spLaw at h
  split at h
  · rename_i ns
    obtain ⟨hl, h⟩ := h
    simp (config := { decide := false }) only [dSeq, dNext, dRet, dRetN, dIfS, dAsg, dgName, dgTup, dgCons, dgNil, dgSub, dPar, dAug, dDrop, dBreak, dCont, dNever, dOp, gI, gT, gPlus, gAdd, gEq, gNe, gIs, gIsNot, gIx, dV, dC, dB, dAnd, dOr, dNot, dAndV, dOrV, dNotV, dIf, dNeg, dChain, dNil, dCons, dTup, dLst, dLstM, dNoPart, dPart, dSl, dCB, dCall, gLen, gAbs, g2, gInt, gStr, gDivmod, gIsTy, gTuple, gList, gSum, gAll, gAny, dAppend, dItems, itemsOf, dRange1, dRange2, dFor, D.onB, D.tyn, D.isNon, asL, rsv, kb_ii, kb_bi, kb_ni, kb_si, kb_ti, kb_li, kb_ib, kb_bb, kb_nb, kb_sb, kb_tb, kb_lb, kb_is, kb_bs, kb_ns, kb_ss, kb_ts, kb_ls, kb_it, kb_bt, kb_nt, kb_st, kb_tt, kb_lt, startD, List.map_cons, List.map_nil, List.length_cons, List.length_nil, List.cons_append, List.nil_append, List.replicate, List.getElem?_cons_zero, List.getElem?_cons_succ, List.set_cons_zero, List.set_cons_succ, List.zip_cons_cons, List.zip_nil_right, List.foldl_cons, List.foldl_nil, Option.bind_some, Option.bind_none, um_same, um_um, Bool.false_eq_true, reduceCtorEq, false_implies, true_implies, forall_const, true_and, and_true, and_self, Bool.not_true, Bool.not_false, implies_true, decide_eq_true_eq, decide_eq_false_iff_not, Bool.not_eq_true, not_true_eq_false, not_false_eq_true, Bool.not_eq_true', Bool.not_eq_false', D.onB, sizeLine_eq, Nat.reduceAdd, Nat.reduceLeDiff, Nat.zero_add, Nat.reduceLT, t_law]
    refine ⟨⟨by omega, by omega⟩, ?_⟩
    refine for_by (fun i ρ M' => ∃ z, ρ = [some (.scr ns), z] ∧ MLe M M') ⟨none, rfl, MLe.rfl'⟩ ?_ ?_
    · rintro i dd ρ M' P hi ⟨z, rfl, le⟩ hP
      obtain ⟨rfl, hi'⟩ := rangeD_get hi
      simp (config := { decide := false }) only [dSeq, dNext, dRet, dRetN, dIfS, dAsg, dgName, dgTup, dgCons, dgNil, dgSub, dPar, dAug, dDrop, dBreak, dCont, dNever, dOp, gI, gT, gPlus, gAdd, gEq, gNe, gIs, gIsNot, gIx, dV, dC, dB, dAnd, dOr, dNot, dAndV, dOrV, dNotV, dIf, dNeg, dChain, dNil, dCons, dTup, dLst, dLstM, dNoPart, dPart, dSl, dCB, dCall, gLen, gAbs, g2, gInt, gStr, gDivmod, gIsTy, gTuple, gList, gSum, gAll, gAny, dAppend, dItems, itemsOf, dRange1, dRange2, dFor, D.onB, D.tyn, D.isNon, asL, rsv, kb_ii, kb_bi, kb_ni, kb_si, kb_ti, kb_li, kb_ib, kb_bb, kb_nb, kb_sb, kb_tb, kb_lb, kb_is, kb_bs, kb_ns, kb_ss, kb_ts, kb_ls, kb_it, kb_bt, kb_nt, kb_st, kb_tt, kb_lt, startD, List.map_cons, List.map_nil, List.length_cons, List.length_nil, List.cons_append, List.nil_append, List.replicate, List.getElem?_cons_zero, List.getElem?_cons_succ, List.set_cons_zero, List.set_cons_succ, List.zip_cons_cons, List.zip_nil_right, List.foldl_cons, List.foldl_nil, Option.bind_some, Option.bind_none, um_same, um_um, Bool.false_eq_true, reduceCtorEq, false_implies, true_implies, forall_const, true_and, and_true, and_self, Bool.not_true, Bool.not_false, implies_true, decide_eq_true_eq, decide_eq_false_iff_not, Bool.not_eq_true, not_true_eq_false, not_false_eq_true, Bool.not_eq_true', Bool.not_eq_false', D.onB, sizeLine_eq, Nat.reduceAdd, Nat.reduceLeDiff, Nat.zero_add, Nat.reduceLT, b1_law, sp_law_well, sp_law_right]
      refine ⟨⟨by omega, by omega⟩, fun p m d hp hw => ⟨m, d, rfl, hw, fun m' d' c' => Wk.of (hP _ _ ⟨_, rfl, MLe.trans le (MLe.um hp)⟩)⟩⟩
    · rintro ρ M' ⟨z, rfl, le⟩
      simp (config := { decide := false }) only [dSeq, dNext, dRet, dRetN, dIfS, dAsg, dgName, dgTup, dgCons, dgNil, dgSub, dPar, dAug, dDrop, dBreak, dCont, dNever, dOp, gI, gT, gPlus, gAdd, gEq, gNe, gIs, gIsNot, gIx, dV, dC, dB, dAnd, dOr, dNot, dAndV, dOrV, dNotV, dIf, dNeg, dChain, dNil, dCons, dTup, dLst, dLstM, dNoPart, dPart, dSl, dCB, dCall, gLen, gAbs, g2, gInt, gStr, gDivmod, gIsTy, gTuple, gList, gSum, gAll, gAny, dAppend, dItems, itemsOf, dRange1, dRange2, dFor, D.onB, D.tyn, D.isNon, asL, rsv, kb_ii, kb_bi, kb_ni, kb_si, kb_ti, kb_li, kb_ib, kb_bb, kb_nb, kb_sb, kb_tb, kb_lb, kb_is, kb_bs, kb_ns, kb_ss, kb_ts, kb_ls, kb_it, kb_bt, kb_nt, kb_st, kb_tt, kb_lt, startD, List.map_cons, List.map_nil, List.length_cons, List.length_nil, List.cons_append, List.nil_append, List.replicate, List.getElem?_cons_zero, List.getElem?_cons_succ, List.set_cons_zero, List.set_cons_succ, List.zip_cons_cons, List.zip_nil_right, List.foldl_cons, List.foldl_nil, Option.bind_some, Option.bind_none, um_same, um_um, Bool.false_eq_true, reduceCtorEq, false_implies, true_implies, forall_const, true_and, and_true, and_self, Bool.not_true, Bool.not_false, implies_true, decide_eq_true_eq, decide_eq_false_iff_not, Bool.not_eq_true, not_true_eq_false, not_false_eq_true, Bool.not_eq_true', Bool.not_eq_false', D.onB, sizeLine_eq, Nat.reduceAdd, Nat.reduceLeDiff, Nat.zero_add, Nat.reduceLT]
      exact ⟨M, le, h⟩
  · exact h.elim
/-! ### the text -/
def topS (i : Nat) : Stmt := PySem.Challenge.pw_smoothpairs_k28_known_equations.main.body.getD i (.Pass ⟨0, 0, 0, 0⟩)
abbrev s_law_dip : Stmt := topS 19
theorem sc_law_dip : FnScope N_law_dip ["_law_well_here", "_law_many"] (defScope s_law_dip) := ⟨rfl, rfl, rfl, by decide +kernel, rfl, by decide +kernel, by decide +kernel⟩
abbrev s_is_integer : Stmt := topS 5
theorem sc_is_integer : FnScope N_is_integer ["value"] (defScope s_is_integer) := ⟨rfl, rfl, rfl, by decide +kernel, rfl, by decide +kernel, by decide +kernel⟩
abbrev s_is_within : Stmt := topS 6
theorem sc_is_within : FnScope N_is_within ["value", "least", "most"] (defScope s_is_within) := ⟨rfl, rfl, rfl, by decide +kernel, rfl, by decide +kernel, by decide +kernel⟩
abbrev s_root_below : Stmt := topS 8
theorem sc_root_below : FnScope N_root_below ["number"] (defScope s_root_below) := ⟨rfl, rfl, rfl, by decide +kernel, rfl, by decide +kernel, by decide +kernel⟩
abbrev s_is_root : Stmt := topS 9
theorem sc_is_root : FnScope N_is_root ["value"] (defScope s_is_root) := ⟨rfl, rfl, rfl, by decide +kernel, rfl, by decide +kernel, by decide +kernel⟩
abbrev s_check_root : Stmt := topS 10
theorem sc_check_root : FnScope N_check_root ["value"] (defScope s_check_root) := ⟨rfl, rfl, rfl, by decide +kernel, rfl, by decide +kernel, by decide +kernel⟩
abbrev s_fraction_of : Stmt := topS 11
theorem sc_fraction_of : FnScope N_fraction_of ["root"] (defScope s_fraction_of) := ⟨rfl, rfl, rfl, by decide +kernel, rfl, by decide +kernel, by decide +kernel⟩
abbrev s_least_of : Stmt := topS 12
theorem sc_least_of : FnScope N_least_of ["root"] (defScope s_least_of) := ⟨rfl, rfl, rfl, by decide +kernel, rfl, by decide +kernel, by decide +kernel⟩
abbrev s_least_solution : Stmt := topS 15
theorem sc_least_solution : FnScope N_least_solution ["root"] (defScope s_least_solution) := ⟨rfl, rfl, rfl, by decide +kernel, rfl, by decide +kernel, by decide +kernel⟩
abbrev s_fraction : Stmt := topS 14
theorem sc_fraction : FnScope N_fraction ["root"] (defScope s_fraction) := ⟨rfl, rfl, rfl, by decide +kernel, rfl, by decide +kernel, by decide +kernel⟩
abbrev s_next_of : Stmt := topS 13
theorem sc_next_of : FnScope N_next_of ["root", "least", "pair"] (defScope s_next_of) := ⟨rfl, rfl, rfl, by decide +kernel, rfl, by decide +kernel, by decide +kernel⟩
abbrev s_place_of : Stmt := topS 16
theorem sc_place_of : FnScope N_place_of ["root", "x", "y"] (defScope s_place_of) := ⟨rfl, rfl, rfl, by decide +kernel, rfl, by decide +kernel, by decide +kernel⟩
abbrev s_law_right : Stmt := topS 20
theorem sc_law_right : FnScope N_law_right ["_law_well_here"] (defScope s_law_right) := ⟨rfl, rfl, rfl, by decide +kernel, rfl, by decide +kernel, by decide +kernel⟩
abbrev s_law_well : Stmt := topS 18
theorem sc_law_well : FnScope N_law_well ["_law_script", "_law_k"] (defScope s_law_well) := ⟨rfl, rfl, rfl, by decide +kernel, rfl, by decide +kernel, by decide +kernel⟩
abbrev s_law : Stmt := topS 21
theorem sc_law : FnScope N_law ["_law_script"] (defScope s_law) := ⟨rfl, rfl, rfl, by decide +kernel, rfl, by decide +kernel, by decide +kernel⟩
structure Txt (mg : Str → Option Value) : Prop where
  f_range : mg "range" = none
  f_max : mg "max" = none
  f_min : mg "min" = none
  f_len : mg "len" = none
  f_divmod : mg "divmod" = none
  f_int : mg "int" = none
  i_MOST_ROOT : ∃ t, mg "MOST_ROOT" = some (.int 1000000 t)
  f_isinstance : mg "isinstance" = none
  f_bool : mg "bool" = none
  f_tuple : mg "tuple" = none
  f_abs : mg "abs" = none
section
variable {P : Program} {w : World} {K : PySem.W.Frag} {mg : Str → Option Value} {base : Heap}
theorem dd_law_dip (T : Txt mg)  {f : Addr} {cdv : Value} {A : Around} {outer : List Env} {s : Shared} {H : Hp} {M : Mp} {E : XE'} (c : Cy (A.deeper (PyProof.Rows.envOfC "_law_dip" (defScope s_law_dip) s.heap.objs.size f cdv)) 0) :
    DSs (cxD P w K mg base N_law_dip "_law_dip" s_law_dip f cdv A outer s H M E) ⟨M, H⟩ (defBody s_law_dip) (t_law_dip (fnW E)) :=
  have S := sc_law_dip
  have tk := tk_fn (P := P) (w := w) (K := K) (mg := mg) (base := base) (N := N_law_dip) (qual := "_law_dip") (st := s_law_dip) (f := f) (cdv := cdv) (A := A) (outer := outer) (s := s) (H := H) (M := M) (E := E)
  (dss_cons (ds_if (dt_cmp cd_gt (de_ix (dv 0) de_int) de_int) (dss_cons (ds_asg (de_callB c_divmod rfl T.f_divmod b_divmod (da_cons (de_ix (dv 0) de_int) (da_cons (dv 1) da_nil))) (dg_tup rfl (dgs_cons (dg_sub (dv 0) de_int) (dgs_cons (dg_name (i := 2) S.nd rfl (.inl rfl)) dgs_nil)) (ul_cons mt_sub (ul_cons mt_name ul_nil))))
  (dss_one (ds_ret (dv 2)))) dss_nil)
  (dss_cons (ds_asg (de_add (de_ix (dv 0) de_int) de_int) (dg_sub (dv 0) de_int))
  (dss_cons (ds_asg (de_mod (de_callTy c_int rfl T.f_int b_int (da_cons (de_add (de_add (de_mul (de_ix (dv 0) de_int) de_int) (de_mul (de_mul de_int (de_ix (dv 0) de_int)) (de_ix (dv 0) de_int))) de_int) da_nil)) de_int) (dg_sub (dv 0) de_int))
  (dss_one (ds_ret (de_mod (de_callTy c_int rfl T.f_int b_int (da_cons (de_div (de_ix (dv 0) de_int) de_int) da_nil)) (dv 1)))))))
theorem ok_law_dip (T : Txt mg)  {f : Addr} {fd : FuncData} (F : FunP K "_law_dip" "_law_dip" s_law_dip f fd) : DFn P w K mg base 1 f fd ["_law_well_here", "_law_many"] sp_law_dip :=
  dfn_of F sc_law_dip len_law_dip fun cdv A outer s H M ds Q E c h => ⟨_, dd_law_dip T  c, pure_law_dip ds M Q E h⟩
theorem dd_is_integer (T : Txt mg)  {f : Addr} {cdv : Value} {A : Around} {outer : List Env} {s : Shared} {H : Hp} {M : Mp} {E : XE'} (c : Cy (A.deeper (PyProof.Rows.envOfC "is_integer" (defScope s_is_integer) s.heap.objs.size f cdv)) 0) :
    DSs (cxD P w K mg base N_is_integer "is_integer" s_is_integer f cdv A outer s H M E) ⟨M, H⟩ (defBody s_is_integer) (t_is_integer (fnW E)) :=
  have S := sc_is_integer
  have tk := tk_fn (P := P) (w := w) (K := K) (mg := mg) (base := base) (N := N_is_integer) (qual := "is_integer") (st := s_is_integer) (f := f) (cdv := cdv) (A := A) (outer := outer) (s := s) (H := H) (M := M) (E := E)
  (dss_one (ds_ret (de_and (de_callB c_isTy rfl T.f_isinstance b_isinstance (da_cons (dv 0) (da_cons (de_ty rfl T.f_int b_int) da_nil))) (de_one (de_not (de_callB c_isTy rfl T.f_isinstance b_isinstance (da_cons (dv 0) (da_cons (de_ty rfl T.f_bool b_bool) da_nil))))))))
theorem ok_is_integer (T : Txt mg)  {f : Addr} {fd : FuncData} (F : FunP K "is_integer" "is_integer" s_is_integer f fd) : DFn P w K mg base 1 f fd ["value"] sp_is_integer :=
  dfn_of F sc_is_integer len_is_integer fun cdv A outer s H M ds Q E c h => ⟨_, dd_is_integer T  c, pure_is_integer ds M Q E h⟩
theorem dd_is_within (T : Txt mg) (G_is_integer : GFn P w K mg base 1 "is_integer" sp_is_integer) {f : Addr} {cdv : Value} {A : Around} {outer : List Env} {s : Shared} {H : Hp} {M : Mp} {E : XE'} (c : Cy (A.deeper (PyProof.Rows.envOfC "is_within" (defScope s_is_within) s.heap.objs.size f cdv)) 1) :
    DSs (cxD P w K mg base N_is_within "is_within" s_is_within f cdv A outer s H M E) ⟨M, H⟩ (defBody s_is_within) (t_is_within (fnW E)) :=
  have S := sc_is_within
  have tk := tk_fn (P := P) (w := w) (K := K) (mg := mg) (base := base) (N := N_is_within) (qual := "is_within") (st := s_is_within) (f := f) (cdv := cdv) (A := A) (outer := outer) (s := s) (H := H) (M := M) (E := E)
  (dss_one (ds_ret (de_and (de_call (G_is_integer.mono (by decide)) c tk rfl (da_cons (dv 0) da_nil)) (de_one (de_chain cd_le cd_le (dv 1) (dv 0) (dv 2))))))
theorem ok_is_within (T : Txt mg) (G_is_integer : GFn P w K mg base 1 "is_integer" sp_is_integer) {f : Addr} {fd : FuncData} (F : FunP K "is_within" "is_within" s_is_within f fd) : DFn P w K mg base 2 f fd ["value", "least", "most"] sp_is_within :=
  dfn_of F sc_is_within len_is_within fun cdv A outer s H M ds Q E c h => ⟨_, dd_is_within T G_is_integer c, pure_is_within ds M Q E h⟩
theorem dd_root_below (T : Txt mg)  {f : Addr} {cdv : Value} {A : Around} {outer : List Env} {s : Shared} {H : Hp} {M : Mp} {E : XE'} (c : Cy (A.deeper (PyProof.Rows.envOfC "root_below" (defScope s_root_below) s.heap.objs.size f cdv)) 0) :
    DSs (cxD P w K mg base N_root_below "root_below" s_root_below f cdv A outer s H M E) ⟨M, H⟩ (defBody s_root_below) (t_root_below (fnW E)) :=
  have S := sc_root_below
  have tk := tk_fn (P := P) (w := w) (K := K) (mg := mg) (base := base) (N := N_root_below) (qual := "root_below") (st := s_root_below) (f := f) (cdv := cdv) (A := A) (outer := outer) (s := s) (H := H) (M := M) (E := E)
  (dss_cons (ds_par (i := 1) (j := 2) rfl S.nd rfl rfl (by decide) rfl rfl (da_cons de_int (da_cons (de_add (dv 0) de_int) da_nil)) (by rfl))
  (dss_cons (ds_while (passes_of rfl) (dt_cmp cd_gt (de_sub (dv 2) (dv 1)) de_int) (dss_cons (ds_set (i := 3) S.nd rfl (.inl rfl) (de_div (de_add (dv 1) (dv 2)) de_int))
  (dss_one (ds_if (dt_cmp cd_le (de_mul (dv 3) (dv 3)) (dv 0)) (dss_one (ds_set (i := 1) S.nd rfl (.inl rfl) (dv 3))) (dss_one (ds_set (i := 2) S.nd rfl (.inl rfl) (dv 3)))))))
  (dss_one (ds_ret (dv 1)))))
theorem ok_root_below (T : Txt mg)  {f : Addr} {fd : FuncData} (F : FunP K "root_below" "root_below" s_root_below f fd) : DFn P w K mg base 1 f fd ["number"] sp_root_below :=
  dfn_of F sc_root_below len_root_below fun cdv A outer s H M ds Q E c h => ⟨_, dd_root_below T  c, pure_root_below ds M Q E h⟩
theorem dd_is_root (T : Txt mg) (G_is_within : GFn P w K mg base 2 "is_within" sp_is_within) (G_root_below : GFn P w K mg base 1 "root_below" sp_root_below) {f : Addr} {cdv : Value} {A : Around} {outer : List Env} {s : Shared} {H : Hp} {M : Mp} {E : XE'} (c : Cy (A.deeper (PyProof.Rows.envOfC "is_root" (defScope s_is_root) s.heap.objs.size f cdv)) 2) :
    DSs (cxD P w K mg base N_is_root "is_root" s_is_root f cdv A outer s H M E) ⟨M, H⟩ (defBody s_is_root) (t_is_root (fnW E)) :=
  have S := sc_is_root
  have tk := tk_fn (P := P) (w := w) (K := K) (mg := mg) (base := base) (N := N_is_root) (qual := "is_root") (st := s_is_root) (f := f) (cdv := cdv) (A := A) (outer := outer) (s := s) (H := H) (M := M) (E := E)
  (dss_cons (ds_if (dt_not (dt_val (de_call (G_is_within.mono (by decide)) c tk rfl (da_cons (dv 0) (da_cons de_int (da_cons (de_gI rfl T.i_MOST_ROOT) da_nil)))))) (dss_one (ds_ret de_bl)) dss_nil)
  (dss_cons (ds_set (i := 1) S.nd rfl (.inl rfl) (de_call (G_root_below.mono (by decide)) c tk rfl (da_cons (dv 0) da_nil)))
  (dss_one (ds_ret (de_cmp (cd_ne c.hu) (de_mul (dv 1) (dv 1)) (dv 0))))))
theorem ok_is_root (T : Txt mg) (G_is_within : GFn P w K mg base 2 "is_within" sp_is_within) (G_root_below : GFn P w K mg base 1 "root_below" sp_root_below) {f : Addr} {fd : FuncData} (F : FunP K "is_root" "is_root" s_is_root f fd) : DFn P w K mg base 3 f fd ["value"] sp_is_root :=
  dfn_of F sc_is_root len_is_root fun cdv A outer s H M ds Q E c h => ⟨_, dd_is_root T G_is_within G_root_below c, pure_is_root ds M Q E h⟩
theorem dd_check_root (T : Txt mg) (G_is_root : GFn P w K mg base 3 "is_root" sp_is_root) {f : Addr} {cdv : Value} {A : Around} {outer : List Env} {s : Shared} {H : Hp} {M : Mp} {E : XE'} (c : Cy (A.deeper (PyProof.Rows.envOfC "check_root" (defScope s_check_root) s.heap.objs.size f cdv)) 3) :
    DSs (cxD P w K mg base N_check_root "check_root" s_check_root f cdv A outer s H M E) ⟨M, H⟩ (defBody s_check_root) (t_check_root (fnW E)) :=
  have S := sc_check_root
  have tk := tk_fn (P := P) (w := w) (K := K) (mg := mg) (base := base) (N := N_check_root) (qual := "check_root") (st := s_check_root) (f := f) (cdv := cdv) (A := A) (outer := outer) (s := s) (H := H) (M := M) (E := E)
  (dss_one (ds_if (dt_not (dt_val (de_call (G_is_root.mono (by decide)) c tk rfl (da_cons (dv 0) da_nil)))) (dss_one ds_never) dss_nil))
theorem ok_check_root (T : Txt mg) (G_is_root : GFn P w K mg base 3 "is_root" sp_is_root) {f : Addr} {fd : FuncData} (F : FunP K "check_root" "check_root" s_check_root f fd) : DFn P w K mg base 4 f fd ["value"] sp_check_root :=
  dfn_of F sc_check_root len_check_root fun cdv A outer s H M ds Q E c h => ⟨_, dd_check_root T G_is_root c, pure_check_root ds M Q E h⟩
theorem dd_fraction_of (T : Txt mg) (G_root_below : GFn P w K mg base 1 "root_below" sp_root_below) {f : Addr} {cdv : Value} {A : Around} {outer : List Env} {s : Shared} {H : Hp} {M : Mp} {E : XE'} (c : Cy (A.deeper (PyProof.Rows.envOfC "fraction_of" (defScope s_fraction_of) s.heap.objs.size f cdv)) 1) :
    DSs (cxD P w K mg base N_fraction_of "fraction_of" s_fraction_of f cdv A outer s H M E) ⟨M, H⟩ (defBody s_fraction_of) (t_fraction_of (fnW E)) :=
  have S := sc_fraction_of
  have tk := tk_fn (P := P) (w := w) (K := K) (mg := mg) (base := base) (N := N_fraction_of) (qual := "fraction_of") (st := s_fraction_of) (f := f) (cdv := cdv) (A := A) (outer := outer) (s := s) (H := H) (M := M) (E := E)
  (dss_cons (ds_set (i := 1) S.nd rfl (.inl rfl) (de_call (G_root_below.mono (by decide)) c tk rfl (da_cons (dv 0) da_nil)))
  (dss_cons (ds_asg (de_tup (da_cons de_int (da_cons de_int (da_cons (dv 1) (da_cons (de_lstM da_nil) da_nil))))) (dg_tup rfl (dgs_cons (dg_name (i := 2) S.nd rfl (.inl rfl)) (dgs_cons (dg_name (i := 3) S.nd rfl (.inl rfl)) (dgs_cons (dg_name (i := 4) S.nd rfl (.inl rfl)) (dgs_cons (dg_name (i := 5) S.nd rfl (.inl rfl)) dgs_nil)))) (ul_cons mt_name (ul_cons mt_name (ul_cons mt_name (ul_cons mt_name ul_nil))))))
  (dss_cons (ds_while (passes_of rfl) (dt_cmp (cd_ne c.hu) (dv 4) (de_mul de_int (dv 1))) (dss_cons (ds_set (i := 2) S.nd rfl (.inl rfl) (de_sub (de_mul (dv 3) (dv 4)) (dv 2)))
  (dss_cons (ds_set (i := 3) S.nd rfl (.inl rfl) (de_div (de_sub (dv 0) (de_mul (dv 2) (dv 2))) (dv 3)))
  (dss_cons (ds_set (i := 4) S.nd rfl (.inl rfl) (de_div (de_add (dv 1) (dv 2)) (dv 3)))
  (dss_one (ds_expr (de_append (dv 5) (da_cons (dv 4) da_nil))))))))
  (dss_one (ds_ret (de_tup (da_cons (dv 1) (da_cons (de_callTy c_tuple rfl T.f_tuple b_tuple (da_cons (dv 5) da_nil)) da_nil))))))))
theorem ok_fraction_of (T : Txt mg) (G_root_below : GFn P w K mg base 1 "root_below" sp_root_below) {f : Addr} {fd : FuncData} (F : FunP K "fraction_of" "fraction_of" s_fraction_of f fd) : DFn P w K mg base 2 f fd ["root"] sp_fraction_of :=
  dfn_of F sc_fraction_of len_fraction_of fun cdv A outer s H M ds Q E c h => ⟨_, dd_fraction_of T G_root_below c, pure_fraction_of ds M Q E h⟩
theorem dd_least_of (T : Txt mg) (G_fraction_of : GFn P w K mg base 2 "fraction_of" sp_fraction_of) {f : Addr} {cdv : Value} {A : Around} {outer : List Env} {s : Shared} {H : Hp} {M : Mp} {E : XE'} (c : Cy (A.deeper (PyProof.Rows.envOfC "least_of" (defScope s_least_of) s.heap.objs.size f cdv)) 2) :
    DSs (cxD P w K mg base N_least_of "least_of" s_least_of f cdv A outer s H M E) ⟨M, H⟩ (defBody s_least_of) (t_least_of (fnW E)) :=
  have S := sc_least_of
  have tk := tk_fn (P := P) (w := w) (K := K) (mg := mg) (base := base) (N := N_least_of) (qual := "least_of") (st := s_least_of) (f := f) (cdv := cdv) (A := A) (outer := outer) (s := s) (H := H) (M := M) (E := E)
  (dss_cons (ds_asg (de_call (G_fraction_of.mono (by decide)) c tk rfl (da_cons (dv 0) da_nil)) (dg_tup rfl (dgs_cons (dg_name (i := 1) S.nd rfl (.inl rfl)) (dgs_cons (dg_name (i := 2) S.nd rfl (.inl rfl)) dgs_nil)) (ul_cons mt_name (ul_cons mt_name ul_nil))))
  (dss_cons (ds_set (i := 3) S.nd rfl (.inl rfl) (de_if (dt_cmp (cd_eq c.hu) (de_mod (de_callB c_len rfl T.f_len b_len (da_cons (dv 2) da_nil)) de_int) de_int) (de_slice (dv 2) do_none (do_some (de_neg de_int))) (de_add (dv 2) (de_slice (dv 2) do_none (do_some (de_neg de_int))))))
  (dss_cons (ds_asg (de_tup (da_cons (dv 1) (da_cons de_int (da_cons de_int (da_cons de_int da_nil))))) (dg_tup rfl (dgs_cons (dg_name (i := 4) S.nd rfl (.inl rfl)) (dgs_cons (dg_name (i := 5) S.nd rfl (.inl rfl)) (dgs_cons (dg_name (i := 6) S.nd rfl (.inl rfl)) (dgs_cons (dg_name (i := 7) S.nd rfl (.inl rfl)) dgs_nil)))) (ul_cons mt_name (ul_cons mt_name (ul_cons mt_name (ul_cons mt_name ul_nil))))))
  (dss_cons (ds_for (passes_of rfl) rfl (di_items (dv 3)) (dg_name (i := 8) S.nd rfl (.inl rfl)) (dss_cons (ds_par (i := 4) (j := 5) rfl S.nd rfl rfl (by decide) rfl rfl (da_cons (de_add (de_mul (dv 8) (dv 4)) (dv 5)) (da_cons (dv 4) da_nil)) (by rfl))
  (dss_one (ds_par (i := 6) (j := 7) rfl S.nd rfl rfl (by decide) rfl rfl (da_cons (de_add (de_mul (dv 8) (dv 6)) (dv 7)) (da_cons (dv 6) da_nil)) (by rfl)))))
  (dss_one (ds_ret (de_tup (da_cons (dv 4) (da_cons (dv 6) da_nil)))))))))
theorem ok_least_of (T : Txt mg) (G_fraction_of : GFn P w K mg base 2 "fraction_of" sp_fraction_of) {f : Addr} {fd : FuncData} (F : FunP K "least_of" "least_of" s_least_of f fd) : DFn P w K mg base 3 f fd ["root"] sp_least_of :=
  dfn_of F sc_least_of len_least_of fun cdv A outer s H M ds Q E c h => ⟨_, dd_least_of T G_fraction_of c, pure_least_of ds M Q E h⟩
theorem dd_least_solution (T : Txt mg) (G_check_root : GFn P w K mg base 4 "check_root" sp_check_root) (G_least_of : GFn P w K mg base 3 "least_of" sp_least_of) {f : Addr} {cdv : Value} {A : Around} {outer : List Env} {s : Shared} {H : Hp} {M : Mp} {E : XE'} (c : Cy (A.deeper (PyProof.Rows.envOfC "least_solution" (defScope s_least_solution) s.heap.objs.size f cdv)) 4) :
    DSs (cxD P w K mg base N_least_solution "least_solution" s_least_solution f cdv A outer s H M E) ⟨M, H⟩ (defBody s_least_solution) (t_least_solution (fnW E)) :=
  have S := sc_least_solution
  have tk := tk_fn (P := P) (w := w) (K := K) (mg := mg) (base := base) (N := N_least_solution) (qual := "least_solution") (st := s_least_solution) (f := f) (cdv := cdv) (A := A) (outer := outer) (s := s) (H := H) (M := M) (E := E)
  (dss_cons (ds_expr (de_call (G_check_root.mono (by decide)) c tk rfl (da_cons (dv 0) da_nil)))
  (dss_one (ds_ret (de_call (G_least_of.mono (by decide)) c tk rfl (da_cons (dv 0) da_nil)))))
theorem ok_least_solution (T : Txt mg) (G_check_root : GFn P w K mg base 4 "check_root" sp_check_root) (G_least_of : GFn P w K mg base 3 "least_of" sp_least_of) {f : Addr} {fd : FuncData} (F : FunP K "least_solution" "least_solution" s_least_solution f fd) : DFn P w K mg base 5 f fd ["root"] sp_least_solution :=
  dfn_of F sc_least_solution len_least_solution fun cdv A outer s H M ds Q E c h => ⟨_, dd_least_solution T G_check_root G_least_of c, pure_least_solution ds M Q E h⟩
theorem dd_fraction (T : Txt mg) (G_check_root : GFn P w K mg base 4 "check_root" sp_check_root) (G_fraction_of : GFn P w K mg base 2 "fraction_of" sp_fraction_of) {f : Addr} {cdv : Value} {A : Around} {outer : List Env} {s : Shared} {H : Hp} {M : Mp} {E : XE'} (c : Cy (A.deeper (PyProof.Rows.envOfC "fraction" (defScope s_fraction) s.heap.objs.size f cdv)) 4) :
    DSs (cxD P w K mg base N_fraction "fraction" s_fraction f cdv A outer s H M E) ⟨M, H⟩ (defBody s_fraction) (t_fraction (fnW E)) :=
  have S := sc_fraction
  have tk := tk_fn (P := P) (w := w) (K := K) (mg := mg) (base := base) (N := N_fraction) (qual := "fraction") (st := s_fraction) (f := f) (cdv := cdv) (A := A) (outer := outer) (s := s) (H := H) (M := M) (E := E)
  (dss_cons (ds_expr (de_call (G_check_root.mono (by decide)) c tk rfl (da_cons (dv 0) da_nil)))
  (dss_one (ds_ret (de_call (G_fraction_of.mono (by decide)) c tk rfl (da_cons (dv 0) da_nil)))))
theorem ok_fraction (T : Txt mg) (G_check_root : GFn P w K mg base 4 "check_root" sp_check_root) (G_fraction_of : GFn P w K mg base 2 "fraction_of" sp_fraction_of) {f : Addr} {fd : FuncData} (F : FunP K "fraction" "fraction" s_fraction f fd) : DFn P w K mg base 5 f fd ["root"] sp_fraction :=
  dfn_of F sc_fraction len_fraction fun cdv A outer s H M ds Q E c h => ⟨_, dd_fraction T G_check_root G_fraction_of c, pure_fraction ds M Q E h⟩
theorem dd_next_of (T : Txt mg)  {f : Addr} {cdv : Value} {A : Around} {outer : List Env} {s : Shared} {H : Hp} {M : Mp} {E : XE'} (c : Cy (A.deeper (PyProof.Rows.envOfC "next_of" (defScope s_next_of) s.heap.objs.size f cdv)) 0) :
    DSs (cxD P w K mg base N_next_of "next_of" s_next_of f cdv A outer s H M E) ⟨M, H⟩ (defBody s_next_of) (t_next_of (fnW E)) :=
  have S := sc_next_of
  have tk := tk_fn (P := P) (w := w) (K := K) (mg := mg) (base := base) (N := N_next_of) (qual := "next_of") (st := s_next_of) (f := f) (cdv := cdv) (A := A) (outer := outer) (s := s) (H := H) (M := M) (E := E)
  (dss_cons (ds_asg (dv 1) (dg_tup rfl (dgs_cons (dg_name (i := 3) S.nd rfl (.inl rfl)) (dgs_cons (dg_name (i := 4) S.nd rfl (.inl rfl)) dgs_nil)) (ul_cons mt_name (ul_cons mt_name ul_nil))))
  (dss_cons (ds_asg (dv 2) (dg_tup rfl (dgs_cons (dg_name (i := 5) S.nd rfl (.inl rfl)) (dgs_cons (dg_name (i := 6) S.nd rfl (.inl rfl)) dgs_nil)) (ul_cons mt_name (ul_cons mt_name ul_nil))))
  (dss_one (ds_ret (de_tup (da_cons (de_add (de_mul (dv 3) (dv 5)) (de_mul (de_mul (dv 0) (dv 4)) (dv 6))) (da_cons (de_add (de_mul (dv 3) (dv 6)) (de_mul (dv 4) (dv 5))) da_nil)))))))
theorem ok_next_of (T : Txt mg)  {f : Addr} {fd : FuncData} (F : FunP K "next_of" "next_of" s_next_of f fd) : DFn P w K mg base 1 f fd ["root", "least", "pair"] sp_next_of :=
  dfn_of F sc_next_of len_next_of fun cdv A outer s H M ds Q E c h => ⟨_, dd_next_of T  c, pure_next_of ds M Q E h⟩
theorem dd_place_of (T : Txt mg) (G_check_root : GFn P w K mg base 4 "check_root" sp_check_root) (G_is_integer : GFn P w K mg base 1 "is_integer" sp_is_integer) (G_least_of : GFn P w K mg base 3 "least_of" sp_least_of) (G_next_of : GFn P w K mg base 1 "next_of" sp_next_of) {f : Addr} {cdv : Value} {A : Around} {outer : List Env} {s : Shared} {H : Hp} {M : Mp} {E : XE'} (c : Cy (A.deeper (PyProof.Rows.envOfC "place_of" (defScope s_place_of) s.heap.objs.size f cdv)) 4) :
    DSs (cxD P w K mg base N_place_of "place_of" s_place_of f cdv A outer s H M E) ⟨M, H⟩ (defBody s_place_of) (t_place_of (fnW E)) :=
  have S := sc_place_of
  have tk := tk_fn (P := P) (w := w) (K := K) (mg := mg) (base := base) (N := N_place_of) (qual := "place_of") (st := s_place_of) (f := f) (cdv := cdv) (A := A) (outer := outer) (s := s) (H := H) (M := M) (E := E)
  (dss_cons (ds_expr (de_call (G_check_root.mono (by decide)) c tk rfl (da_cons (dv 0) da_nil)))
  (dss_cons (ds_if (dw (dw_or (dt_not (dt_val (de_call (G_is_integer.mono (by decide)) c tk rfl (da_cons (dv 1) da_nil)))) (dw_or (dt_not (dt_val (de_call (G_is_integer.mono (by decide)) c tk rfl (da_cons (dv 2) da_nil)))) (dw_or (dt_cmp cd_lt (dv 1) de_int) (dw_or (dt_cmp cd_lt (dv 2) de_int) (dw_or1 (dt_cmp (cd_ne c.hu) (de_sub (de_mul (dv 1) (dv 1)) (de_mul (de_mul (dv 0) (dv 2)) (dv 2))) de_int))))))) (dss_one (ds_ret de_non)) dss_nil)
  (dss_cons (ds_set (i := 3) S.nd rfl (.inl rfl) (de_call (G_least_of.mono (by decide)) c tk rfl (da_cons (dv 0) da_nil)))
  (dss_cons (ds_par (i := 4) (j := 5) rfl S.nd rfl rfl (by decide) rfl rfl (da_cons (dv 3) (da_cons de_int da_nil)) (by rfl))
  (dss_cons (ds_while (passes_of rfl) (dt_cmp (cd_ne c.hu) (dv 4) (de_tup (da_cons (dv 1) (da_cons (dv 2) da_nil)))) (dss_one (ds_par (i := 4) (j := 5) rfl S.nd rfl rfl (by decide) rfl rfl (da_cons (de_call (G_next_of.mono (by decide)) c tk rfl (da_cons (dv 0) (da_cons (dv 3) (da_cons (dv 4) da_nil)))) (da_cons (de_add (dv 5) de_int) da_nil)) (by rfl))))
  (dss_one (ds_ret (dv 5))))))))
theorem ok_place_of (T : Txt mg) (G_check_root : GFn P w K mg base 4 "check_root" sp_check_root) (G_is_integer : GFn P w K mg base 1 "is_integer" sp_is_integer) (G_least_of : GFn P w K mg base 3 "least_of" sp_least_of) (G_next_of : GFn P w K mg base 1 "next_of" sp_next_of) {f : Addr} {fd : FuncData} (F : FunP K "place_of" "place_of" s_place_of f fd) : DFn P w K mg base 5 f fd ["root", "x", "y"] sp_place_of :=
  dfn_of F sc_place_of len_place_of fun cdv A outer s H M ds Q E c h => ⟨_, dd_place_of T G_check_root G_is_integer G_least_of G_next_of c, pure_place_of ds M Q E h⟩
theorem dd_law_right (T : Txt mg) (G_law_dip : GFn P w K mg base 1 "_law_dip" sp_law_dip) (G_least_solution : GFn P w K mg base 5 "least_solution" sp_least_solution) (G_fraction : GFn P w K mg base 5 "fraction" sp_fraction) (G_place_of : GFn P w K mg base 5 "place_of" sp_place_of) {f : Addr} {cdv : Value} {A : Around} {outer : List Env} {s : Shared} {H : Hp} {M : Mp} {E : XE'} (c : Cy (A.deeper (PyProof.Rows.envOfC "_law_right" (defScope s_law_right) s.heap.objs.size f cdv)) 5) :
    DSs (cxD P w K mg base N_law_right "_law_right" s_law_right f cdv A outer s H M E) ⟨M, H⟩ (defBody s_law_right) (t_law_right (fnW E)) :=
  have S := sc_law_right
  have tk := tk_fn (P := P) (w := w) (K := K) (mg := mg) (base := base) (N := N_law_right) (qual := "_law_right") (st := s_law_right) (f := f) (cdv := cdv) (A := A) (outer := outer) (s := s) (H := H) (M := M) (E := E)
  (dss_cons (ds_set (i := 1) S.nd rfl (.inl rfl) (de_add de_int (de_call (G_law_dip.mono (by decide)) c tk rfl (da_cons (dv 0) (da_cons de_int da_nil)))))
  (dss_cons (ds_set (i := 2) S.nd rfl (.inl rfl) (de_lstM (da_cons (de_tup (da_cons (de_sub (de_mul (dv 1) (dv 1)) de_int) (da_cons (de_tup (da_cons (dv 1) (da_cons de_int da_nil))) (da_cons (de_tup (da_cons (de_sub (dv 1) de_int) (da_cons (de_tup (da_cons de_int (da_cons (de_sub (de_mul de_int (dv 1)) de_int) da_nil))) da_nil))) da_nil)))) (da_cons (de_tup (da_cons (de_add (de_mul (dv 1) (dv 1)) de_int) (da_cons (de_tup (da_cons (de_add (de_mul (de_mul de_int (dv 1)) (dv 1)) de_int) (da_cons (de_mul de_int (dv 1)) da_nil))) (da_cons (de_tup (da_cons (dv 1) (da_cons (de_tup (da_cons (de_mul de_int (dv 1)) da_nil)) da_nil))) da_nil)))) da_nil))))
  (dss_cons (ds_expr (de_append (dv 2) (da_cons (de_tup (da_cons (de_add (de_mul (dv 1) (dv 1)) de_int) (da_cons (de_tup (da_cons (de_add (de_mul (dv 1) (dv 1)) de_int) (da_cons (dv 1) da_nil))) (da_cons (de_tup (da_cons (dv 1) (da_cons (de_tup (da_cons (dv 1) (da_cons (de_mul de_int (dv 1)) da_nil))) da_nil))) da_nil)))) da_nil)))
  (dss_cons (ds_expr (de_append (dv 2) (da_cons (de_tup (da_cons (de_add (de_mul (dv 1) (dv 1)) (dv 1)) (da_cons (de_tup (da_cons (de_add (de_mul de_int (dv 1)) de_int) (da_cons de_int da_nil))) (da_cons (de_tup (da_cons (dv 1) (da_cons (de_tup (da_cons de_int (da_cons (de_mul de_int (dv 1)) da_nil))) da_nil))) da_nil)))) da_nil)))
  (dss_settle 2 (dss_cons (ds_for (passes_of rfl) rfl (di_items (dv 2)) (dg_tup rfl (dgs_cons (dg_name (i := 3) S.nd rfl (.inl rfl)) (dgs_cons (dg_name (i := 4) S.nd rfl (.inl rfl)) (dgs_cons (dg_name (i := 5) S.nd rfl (.inl rfl)) dgs_nil))) (ul_cons mt_name (ul_cons mt_name (ul_cons mt_name ul_nil)))) (dss_cons (ds_if (dw (dw_or (dt_cmp (cd_ne c.hu) (de_call (G_least_solution.mono (by decide)) c tk rfl (da_cons (dv 3) da_nil)) (dv 4)) (dw_or1 (dt_cmp (cd_ne c.hu) (de_call (G_fraction.mono (by decide)) c tk rfl (da_cons (dv 3) da_nil)) (dv 5))))) (dss_one (ds_ret de_bl)) dss_nil)
  (dss_one (ds_if (dt_cmp (cd_ne c.hu) (de_call (G_place_of.mono (by decide)) c tk rfl (da_cons (dv 3) (da_cons (de_ix (dv 4) de_int) (da_cons (de_ix (dv 4) de_int) da_nil)))) de_int) (dss_one (ds_ret de_bl)) dss_nil))))
  (dss_cons (ds_if (dw (dw_and (dt_cmp cd_gt (dv 1) de_int) (dw_and1 (dt_cmp (cd_ne c.hu) (de_call (G_least_solution.mono (by decide)) c tk rfl (da_cons (de_sub (de_mul (dv 1) (dv 1)) de_int) da_nil)) (de_tup (da_cons (de_sub (de_mul (dv 1) (dv 1)) de_int) (da_cons (dv 1) da_nil))))))) (dss_one (ds_ret de_bl)) dss_nil)
  (dss_cons (ds_set (i := 6) S.nd rfl (.inl rfl) (de_lst (da_cons (de_tup (da_cons de_int (da_cons de_int (da_cons de_int da_nil)))) (da_cons (de_tup (da_cons de_int (da_cons de_int (da_cons de_int da_nil)))) (da_cons (de_tup (da_cons de_int (da_cons de_int (da_cons de_int da_nil)))) (da_cons (de_tup (da_cons de_int (da_cons de_int (da_cons de_int da_nil)))) da_nil))))))
  (dss_cons (ds_set (i := 6) S.nd rfl (.inl rfl) (de_add (dv 6) (de_lst (da_cons (de_tup (da_cons de_int (da_cons de_int (da_cons de_int da_nil)))) (da_cons (de_tup (da_cons de_int (da_cons de_int (da_cons de_int da_nil)))) (da_cons (de_tup (da_cons de_int (da_cons de_int (da_cons de_int da_nil)))) da_nil))))))
  (dss_cons (ds_asg (de_ix (dv 6) (de_call (G_law_dip.mono (by decide)) c tk rfl (da_cons (dv 0) (da_cons de_int da_nil)))) (dg_tup rfl (dgs_cons (dg_name (i := 3) S.nd rfl (.inl rfl)) (dgs_cons (dg_name (i := 7) S.nd rfl (.inl rfl)) (dgs_cons (dg_name (i := 8) S.nd rfl (.inl rfl)) dgs_nil))) (ul_cons mt_name (ul_cons mt_name (ul_cons mt_name ul_nil)))))
  (dss_one (ds_ret (de_and (de_cmp (cd_eq c.hu) (de_sub (de_mul (dv 7) (dv 7)) (de_mul (de_mul (dv 3) (dv 8)) (dv 8))) de_int) (de_one (de_cmp (cd_eq c.hu) (de_call (G_least_solution.mono (by decide)) c tk rfl (da_cons (dv 3) da_nil)) (de_tup (da_cons (dv 7) (da_cons (dv 8) da_nil))))))))))))))))))
theorem ok_law_right (T : Txt mg) (G_law_dip : GFn P w K mg base 1 "_law_dip" sp_law_dip) (G_least_solution : GFn P w K mg base 5 "least_solution" sp_least_solution) (G_fraction : GFn P w K mg base 5 "fraction" sp_fraction) (G_place_of : GFn P w K mg base 5 "place_of" sp_place_of) {f : Addr} {fd : FuncData} (F : FunP K "_law_right" "_law_right" s_law_right f fd) : DFn P w K mg base 6 f fd ["_law_well_here"] sp_law_right :=
  dfn_of F sc_law_right len_law_right fun cdv A outer s H M ds Q E c h => ⟨_, dd_law_right T G_law_dip G_least_solution G_fraction G_place_of c, pure_law_right ds M Q E h⟩
theorem dd_law_well (T : Txt mg)  {f : Addr} {cdv : Value} {A : Around} {outer : List Env} {s : Shared} {H : Hp} {M : Mp} {E : XE'} (c : Cy (A.deeper (PyProof.Rows.envOfC "_law_well" (defScope s_law_well) s.heap.objs.size f cdv)) 0) :
    DSs (cxD P w K mg base N_law_well "_law_well" s_law_well f cdv A outer s H M E) ⟨M, H⟩ (defBody s_law_well) (t_law_well (fnW E)) :=
  have S := sc_law_well
  have tk := tk_fn (P := P) (w := w) (K := K) (mg := mg) (base := base) (N := N_law_well) (qual := "_law_well") (st := s_law_well) (f := f) (cdv := cdv) (A := A) (outer := outer) (s := s) (H := H) (M := M) (E := E)
  (dss_cons (ds_set (i := 2) S.nd rfl (.inl rfl) (de_if (dt_cmp cd_lt (dv 1) (de_callB c_len rfl T.f_len b_len (da_cons (dv 0) da_nil))) (de_ix (dv 0) (dv 1)) de_int))
  (dss_cons (ds_set (i := 3) S.nd rfl (.inl rfl) (de_add de_int (de_mul de_int (dv 1))))
  (dss_cons (ds_for (passes_of rfl) rfl (di_items (de_slice (dv 0) do_none (do_some de_int))) (dg_name (i := 4) S.nd rfl (.inl rfl)) (dss_one (ds_set (i := 3) S.nd rfl (.inl rfl) (de_mod (de_callTy c_int rfl T.f_int b_int (da_cons (de_add (de_add (de_mul (dv 3) de_int) (de_mod (de_callTy c_int rfl T.f_int b_int (da_cons (dv 4) da_nil)) de_int)) de_int) da_nil)) de_int))))
  (dss_cons (ds_set (i := 3) S.nd rfl (.inl rfl) (de_mod (de_callTy c_int rfl T.f_int b_int (da_cons (de_add (de_add (de_mul (dv 3) de_int) (de_mod (de_callTy c_int rfl T.f_int b_int (da_cons (dv 2) da_nil)) de_int)) de_int) da_nil)) de_int))
  (dss_one (ds_ret (de_lstM (da_cons (dv 3) (da_cons (de_if (dt_cmp cd_ge (de_callB c_abs rfl T.f_abs b_abs (da_cons (dv 2) da_nil)) (de_pow de_int de_int)) (de_callB c_abs rfl T.f_abs b_abs (da_cons (dv 2) da_nil)) de_int) (da_cons de_int da_nil))))))))))
theorem ok_law_well (T : Txt mg)  {f : Addr} {fd : FuncData} (F : FunP K "_law_well" "_law_well" s_law_well f fd) : DFn P w K mg base 1 f fd ["_law_script", "_law_k"] sp_law_well :=
  dfn_of F sc_law_well len_law_well fun cdv A outer s H M ds Q E c h => ⟨_, dd_law_well T  c, pure_law_well ds M Q E h⟩
theorem dd_law (T : Txt mg) (G_law_right : GFn P w K mg base 6 "_law_right" sp_law_right) (G_law_well : GFn P w K mg base 1 "_law_well" sp_law_well) {f : Addr} {cdv : Value} {A : Around} {outer : List Env} {s : Shared} {H : Hp} {M : Mp} {E : XE'} (c : Cy (A.deeper (PyProof.Rows.envOfC "law" (defScope s_law) s.heap.objs.size f cdv)) 6) :
    DSs (cxD P w K mg base N_law "law" s_law f cdv A outer s H M E) ⟨M, H⟩ (defBody s_law) (t_law (fnW E)) :=
  have S := sc_law
  have tk := tk_fn (P := P) (w := w) (K := K) (mg := mg) (base := base) (N := N_law) (qual := "law") (st := s_law) (f := f) (cdv := cdv) (A := A) (outer := outer) (s := s) (H := H) (M := M) (E := E)
  (dss_cons (ds_for (passes_of rfl) rfl (di_range1 rfl T.f_range (da_cons (de_callB (c_max rfl) rfl T.f_max b_max (da_cons de_int (da_cons (de_callB (c_min rfl) rfl T.f_min b_min (da_cons (de_callB c_len rfl T.f_len b_len (da_cons (dv 0) da_nil)) (da_cons de_int da_nil))) da_nil))) da_nil)) (dg_name (i := 1) S.nd rfl (.inl rfl)) (dss_one (ds_if (dt_not (dt_val (de_call (G_law_right.mono (by decide)) c tk rfl (da_cons (de_call (G_law_well.mono (by decide)) c tk rfl (da_cons (dv 0) (da_cons (dv 1) da_nil))) da_nil)))) (dss_one (ds_ret de_bl)) dss_nil)))
  (dss_one (ds_ret de_bl)))
theorem ok_law (T : Txt mg) (G_law_right : GFn P w K mg base 6 "_law_right" sp_law_right) (G_law_well : GFn P w K mg base 1 "_law_well" sp_law_well) {f : Addr} {fd : FuncData} (F : FunP K "law" "law" s_law f fd) : DFn P w K mg base 7 f fd ["_law_script"] sp_law :=
  dfn_of F sc_law len_law fun cdv A outer s H M ds Q E c h => ⟨_, dd_law T G_law_right G_law_well c, pure_law ds M Q E h⟩
end
/-! ### the head -/
def df_law_dip : He.DefD := ⟨("_law_dip", none), "_law_dip", "_law_dip", defArgs s_law_dip, defBody s_law_dip, defScope s_law_dip, [], []⟩
def df_is_integer : He.DefD := ⟨("is_integer", none), "is_integer", "is_integer", defArgs s_is_integer, defBody s_is_integer, defScope s_is_integer, [], []⟩
def df_is_within : He.DefD := ⟨("is_within", none), "is_within", "is_within", defArgs s_is_within, defBody s_is_within, defScope s_is_within, [], []⟩
def df_root_below : He.DefD := ⟨("root_below", none), "root_below", "root_below", defArgs s_root_below, defBody s_root_below, defScope s_root_below, [], []⟩
def df_is_root : He.DefD := ⟨("is_root", none), "is_root", "is_root", defArgs s_is_root, defBody s_is_root, defScope s_is_root, [], []⟩
def df_check_root : He.DefD := ⟨("check_root", none), "check_root", "check_root", defArgs s_check_root, defBody s_check_root, defScope s_check_root, [], []⟩
def df_fraction_of : He.DefD := ⟨("fraction_of", none), "fraction_of", "fraction_of", defArgs s_fraction_of, defBody s_fraction_of, defScope s_fraction_of, [], []⟩
def df_least_of : He.DefD := ⟨("least_of", none), "least_of", "least_of", defArgs s_least_of, defBody s_least_of, defScope s_least_of, [], []⟩
def df_least_solution : He.DefD := ⟨("least_solution", none), "least_solution", "least_solution", defArgs s_least_solution, defBody s_least_solution, defScope s_least_solution, [], []⟩
def df_fraction : He.DefD := ⟨("fraction", none), "fraction", "fraction", defArgs s_fraction, defBody s_fraction, defScope s_fraction, [], []⟩
def df_next_of : He.DefD := ⟨("next_of", none), "next_of", "next_of", defArgs s_next_of, defBody s_next_of, defScope s_next_of, [], []⟩
def df_place_of : He.DefD := ⟨("place_of", none), "place_of", "place_of", defArgs s_place_of, defBody s_place_of, defScope s_place_of, [], []⟩
def df_law_right : He.DefD := ⟨("_law_right", none), "_law_right", "_law_right", defArgs s_law_right, defBody s_law_right, defScope s_law_right, [], []⟩
def df_law_well : He.DefD := ⟨("_law_well", none), "_law_well", "_law_well", defArgs s_law_well, defBody s_law_well, defScope s_law_well, [], []⟩
def df_law : He.DefD := ⟨("law", none), "law", "law", defArgs s_law, defBody s_law, defScope s_law, [], []⟩
def fnL : List He.DefD := [df_law_dip, df_is_integer, df_is_within, df_root_below, df_is_root, df_check_root, df_fraction_of, df_least_of, df_least_solution, df_fraction, df_next_of, df_place_of, df_law_right, df_law_well, df_law]
def faL : List He.Fa := [.glo "_law_dip", .glo "is_integer", .glo "is_within", .glo "root_below", .glo "is_root", .glo "check_root", .glo "fraction_of", .glo "least_of", .glo "least_solution", .glo "fraction", .glo "next_of", .glo "place_of", .glo "_law_right", .glo "_law_well", .glo "law", .free "range", .free "max", .free "min", .free "len", .free "divmod", .free "int", .int "MOST_ROOT" 1000000, .free "isinstance", .free "bool", .free "tuple", .free "abs"]
abbrev LRow : PySem.W.OpenRow := PySem.W.OpenLaw.row PySem.Challenge.rw_smoothpairs_k28_known_equations
abbrev hkk : PySem.W.Hook := He.hookD 4 faL fnL
def obb (s : PySem.W.SharedT) : He.AlD := He.obsDG 4 faL fnL (HandSHeadRun.getT s)
theorem obb_eq (s : PySem.W.SharedT) : obb s = hkk.obs s.abs := He.obsDG_eq (HandSHeadRun.getT_eq s)
def looseL : List Str := ["WrongValue", "InvalidNumber", "MOST_ROOT", "is_integer", "is_within", "root_below", "is_root", "check_root", "fraction_of", "least_of", "next_of", "fraction", "least_solution", "place_of", "_law_well", "_law_dip", "_law_right"]
set_option maxHeartbeats 0 in
theorem runW (w : World) : HandSHeadRun.RunEq LRow (PySem.W.view LRow.prog [21]) hkk obb 4000 looseL w := by
  intro os
  kernel_rfl
theorem facts {P : Program} {w : World} {K : PySem.W.Frag} {h : Heap} {mg : Str → Option Value} {f : Addr} (X : K.In h) (G : h.Ns mainGlobals mg) (hfa : mg ("law" : Str) = some (.ref f)) (c : He.SaysD faL fnL K) :
    ∃ fd : FuncData, (∀ (s : Shared) (v : Value), BindsTo s fd ⟨[v], []⟩ [("_law_script", v)]) ∧ ∀ base : Heap, K.In base → base.Ns mainGlobals mg → DFn P w K mg base 7 f fd ["_law_script"] sp_law := by
  obtain ⟨fd_law_dip, F_law_dip⟩ := c.def_ 0 (d := df_law_dip) rfl
  obtain ⟨fd_is_integer, F_is_integer⟩ := c.def_ 1 (d := df_is_integer) rfl
  obtain ⟨fd_is_within, F_is_within⟩ := c.def_ 2 (d := df_is_within) rfl
  obtain ⟨fd_root_below, F_root_below⟩ := c.def_ 3 (d := df_root_below) rfl
  obtain ⟨fd_is_root, F_is_root⟩ := c.def_ 4 (d := df_is_root) rfl
  obtain ⟨fd_check_root, F_check_root⟩ := c.def_ 5 (d := df_check_root) rfl
  obtain ⟨fd_fraction_of, F_fraction_of⟩ := c.def_ 6 (d := df_fraction_of) rfl
  obtain ⟨fd_least_of, F_least_of⟩ := c.def_ 7 (d := df_least_of) rfl
  obtain ⟨fd_least_solution, F_least_solution⟩ := c.def_ 8 (d := df_least_solution) rfl
  obtain ⟨fd_fraction, F_fraction⟩ := c.def_ 9 (d := df_fraction) rfl
  obtain ⟨fd_next_of, F_next_of⟩ := c.def_ 10 (d := df_next_of) rfl
  obtain ⟨fd_place_of, F_place_of⟩ := c.def_ 11 (d := df_place_of) rfl
  obtain ⟨fd_law_right, F_law_right⟩ := c.def_ 12 (d := df_law_right) rfl
  obtain ⟨fd_law_well, F_law_well⟩ := c.def_ 13 (d := df_law_well) rfl
  obtain ⟨fd_law, F_law⟩ := c.def_ 14 (d := df_law) rfl
  have T : Txt mg := ⟨He.free_ok X G (c.fact 15 (f := .free "range") rfl), He.free_ok X G (c.fact 16 (f := .free "max") rfl), He.free_ok X G (c.fact 17 (f := .free "min") rfl), He.free_ok X G (c.fact 18 (f := .free "len") rfl), He.free_ok X G (c.fact 19 (f := .free "divmod") rfl), He.free_ok X G (c.fact 20 (f := .free "int") rfl), He.int_ok X G (c.fact 21 (f := .int "MOST_ROOT" 1000000) rfl), He.free_ok X G (c.fact 22 (f := .free "isinstance") rfl), He.free_ok X G (c.fact 23 (f := .free "bool") rfl), He.free_ok X G (c.fact 24 (f := .free "tuple") rfl), He.free_ok X G (c.fact 25 (f := .free "abs") rfl)⟩
  have e := hfa.symm.trans (He.glo_ok X G (c.fact 14 (f := .glo "law") rfl))
  cases e
  have b_law_dip := FunD.bindsN (ps := ["_law_well_here", "_law_many"]) F_law_dip fun _ _ _ _ _ _ us hl => match us, hl with | [_, _], _ => rfl
  have b_is_integer := FunD.bindsN (ps := ["value"]) F_is_integer fun _ _ _ _ _ _ us hl => match us, hl with | [_], _ => rfl
  have b_is_within := FunD.bindsN (ps := ["value", "least", "most"]) F_is_within fun _ _ _ _ _ _ us hl => match us, hl with | [_, _, _], _ => rfl
  have b_root_below := FunD.bindsN (ps := ["number"]) F_root_below fun _ _ _ _ _ _ us hl => match us, hl with | [_], _ => rfl
  have b_is_root := FunD.bindsN (ps := ["value"]) F_is_root fun _ _ _ _ _ _ us hl => match us, hl with | [_], _ => rfl
  have b_check_root := FunD.bindsN (ps := ["value"]) F_check_root fun _ _ _ _ _ _ us hl => match us, hl with | [_], _ => rfl
  have b_fraction_of := FunD.bindsN (ps := ["root"]) F_fraction_of fun _ _ _ _ _ _ us hl => match us, hl with | [_], _ => rfl
  have b_least_of := FunD.bindsN (ps := ["root"]) F_least_of fun _ _ _ _ _ _ us hl => match us, hl with | [_], _ => rfl
  have b_least_solution := FunD.bindsN (ps := ["root"]) F_least_solution fun _ _ _ _ _ _ us hl => match us, hl with | [_], _ => rfl
  have b_fraction := FunD.bindsN (ps := ["root"]) F_fraction fun _ _ _ _ _ _ us hl => match us, hl with | [_], _ => rfl
  have b_next_of := FunD.bindsN (ps := ["root", "least", "pair"]) F_next_of fun _ _ _ _ _ _ us hl => match us, hl with | [_, _, _], _ => rfl
  have b_place_of := FunD.bindsN (ps := ["root", "x", "y"]) F_place_of fun _ _ _ _ _ _ us hl => match us, hl with | [_, _, _], _ => rfl
  have b_law_right := FunD.bindsN (ps := ["_law_well_here"]) F_law_right fun _ _ _ _ _ _ us hl => match us, hl with | [_], _ => rfl
  have b_law_well := FunD.bindsN (ps := ["_law_script", "_law_k"]) F_law_well fun _ _ _ _ _ _ us hl => match us, hl with | [_, _], _ => rfl
  have b_law := FunD.bindsN (ps := ["_law_script"]) F_law fun _ _ _ _ _ _ us hl => match us, hl with | [_], _ => rfl
  refine ⟨fd_law, fun s v => FunD.bindsA (ps := ["_law_script"]) F_law (fun _ _ _ _ _ _ us hl => match us, hl with | [_], _ => rfl) s [v] rfl, fun base _ _ => ?_⟩
  have G_law_dip : GFn P w K mg base 1 "_law_dip" sp_law_dip := ⟨_, _, _, ok_law_dip (P := P) (w := w) (base := base) T  F_law_dip, He.glo_ok X G (c.fact 0 (f := .glo "_law_dip") rfl), F_law_dip.kp, b_law_dip⟩
  have G_is_integer : GFn P w K mg base 1 "is_integer" sp_is_integer := ⟨_, _, _, ok_is_integer (P := P) (w := w) (base := base) T  F_is_integer, He.glo_ok X G (c.fact 1 (f := .glo "is_integer") rfl), F_is_integer.kp, b_is_integer⟩
  have G_is_within : GFn P w K mg base 2 "is_within" sp_is_within := ⟨_, _, _, ok_is_within (P := P) (w := w) (base := base) T G_is_integer F_is_within, He.glo_ok X G (c.fact 2 (f := .glo "is_within") rfl), F_is_within.kp, b_is_within⟩
  have G_root_below : GFn P w K mg base 1 "root_below" sp_root_below := ⟨_, _, _, ok_root_below (P := P) (w := w) (base := base) T  F_root_below, He.glo_ok X G (c.fact 3 (f := .glo "root_below") rfl), F_root_below.kp, b_root_below⟩
  have G_is_root : GFn P w K mg base 3 "is_root" sp_is_root := ⟨_, _, _, ok_is_root (P := P) (w := w) (base := base) T G_is_within G_root_below F_is_root, He.glo_ok X G (c.fact 4 (f := .glo "is_root") rfl), F_is_root.kp, b_is_root⟩
  have G_check_root : GFn P w K mg base 4 "check_root" sp_check_root := ⟨_, _, _, ok_check_root (P := P) (w := w) (base := base) T G_is_root F_check_root, He.glo_ok X G (c.fact 5 (f := .glo "check_root") rfl), F_check_root.kp, b_check_root⟩
  have G_fraction_of : GFn P w K mg base 2 "fraction_of" sp_fraction_of := ⟨_, _, _, ok_fraction_of (P := P) (w := w) (base := base) T G_root_below F_fraction_of, He.glo_ok X G (c.fact 6 (f := .glo "fraction_of") rfl), F_fraction_of.kp, b_fraction_of⟩
  have G_least_of : GFn P w K mg base 3 "least_of" sp_least_of := ⟨_, _, _, ok_least_of (P := P) (w := w) (base := base) T G_fraction_of F_least_of, He.glo_ok X G (c.fact 7 (f := .glo "least_of") rfl), F_least_of.kp, b_least_of⟩
  have G_least_solution : GFn P w K mg base 5 "least_solution" sp_least_solution := ⟨_, _, _, ok_least_solution (P := P) (w := w) (base := base) T G_check_root G_least_of F_least_solution, He.glo_ok X G (c.fact 8 (f := .glo "least_solution") rfl), F_least_solution.kp, b_least_solution⟩
  have G_fraction : GFn P w K mg base 5 "fraction" sp_fraction := ⟨_, _, _, ok_fraction (P := P) (w := w) (base := base) T G_check_root G_fraction_of F_fraction, He.glo_ok X G (c.fact 9 (f := .glo "fraction") rfl), F_fraction.kp, b_fraction⟩
  have G_next_of : GFn P w K mg base 1 "next_of" sp_next_of := ⟨_, _, _, ok_next_of (P := P) (w := w) (base := base) T  F_next_of, He.glo_ok X G (c.fact 10 (f := .glo "next_of") rfl), F_next_of.kp, b_next_of⟩
  have G_place_of : GFn P w K mg base 5 "place_of" sp_place_of := ⟨_, _, _, ok_place_of (P := P) (w := w) (base := base) T G_check_root G_is_integer G_least_of G_next_of F_place_of, He.glo_ok X G (c.fact 11 (f := .glo "place_of") rfl), F_place_of.kp, b_place_of⟩
  have G_law_right : GFn P w K mg base 6 "_law_right" sp_law_right := ⟨_, _, _, ok_law_right (P := P) (w := w) (base := base) T G_law_dip G_least_solution G_fraction G_place_of F_law_right, He.glo_ok X G (c.fact 12 (f := .glo "_law_right") rfl), F_law_right.kp, b_law_right⟩
  have G_law_well : GFn P w K mg base 1 "_law_well" sp_law_well := ⟨_, _, _, ok_law_well (P := P) (w := w) (base := base) T  F_law_well, He.glo_ok X G (c.fact 13 (f := .glo "_law_well") rfl), F_law_well.kp, b_law_well⟩
  exact ok_law (P := P) (w := w) (base := base) T G_law_right G_law_well F_law
end Law
open PySem PySem.W PySem.Calls
set_option maxRecDepth 100000 in
set_option maxHeartbeats 0 in
theorem PySem.Challenge.cw_smoothpairs_k28_known_equations_holds : PySem.Challenge.rw_smoothpairs_k28_known_equations.Holds := by
  w_on; o_law
  refine HandSHeadRun.head_any (r := OpenLaw.row PySem.Challenge.rw_smoothpairs_k28_known_equations) (q := view (OpenLaw.row PySem.Challenge.rw_smoothpairs_k28_known_equations).prog [21]) (H := Law.hkk) (ob := Law.obb) (M := 4000) (loose := Law.looseL) (d := HandSHeadRun.topDef (OpenLaw.row PySem.Challenge.rw_smoothpairs_k28_known_equations).prog 21) (kwd := []) Law.obb_eq
    (by kernel_rfl) (fun s => by kernel_rfl) Law.runW (by kernel_rfl) (by kernel_rfl) (by kernel_rfl) (by rfl) (by first | assumption | decide +kernel) (by decide +kernel) ⟨rfl, rfl, rfl, rfl, rfl, by decide +kernel⟩ ?hw ?hc
  case hw => w_witness2
  case hc =>
    refine DL.walk_D (l := PySem.Challenge.rw_smoothpairs_k28_known_equations) (k := 7) (x := "_law_script") rfl (by kernel_rfl) ⟨rfl, by decide, by decide⟩ ?F
    intro w mg fa h Y G hmg0
    obtain ⟨K, KX, c⟩ := Y
    have hmg : mg ("law" : PySem.Str) = some (.ref fa) := by
      have e : (HandSHeadRun.topDef (OpenLaw.row PySem.Challenge.rw_smoothpairs_k28_known_equations).prog 21).name = ("law" : PySem.Str) := by kernel_rfl
      rw [← e]
      exact hmg0
    obtain ⟨fd, hb, hF⟩ := Law.facts (P := (PySem.Challenge.rw_smoothpairs_k28_known_equations).prog) (w := w) KX G hmg c
    exact ⟨K, fd, KX, hb, fun base k1 k2 => (hF base k1 k2).imp Law.law_is⟩
