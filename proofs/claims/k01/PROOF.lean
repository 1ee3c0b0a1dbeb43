import PyProof.Rows.All
import Wide.All
import OpenK.AllK
import Wide.FinOn
import HandS.ForMost
import HandS.ForExc
import HandS.Wide
import HandS.IsInst
import HandS.ExcIs
import PySem.Challenge.RW_rootpeg_k01_parts
set_option Elab.async false
set_option linter.all false
set_option maxRecDepth 100000
set_option maxHeartbeats 4000000
namespace PL
open PySem PySem.Spec PyProof.Rows L2

/-! pure values, and how they lie in an abstract heap -/
inductive PV where
  | non | bl (b : Bool) | int (i : Int) | str (x : Str)
  | list (xs : List PV) | tup (xs : List PV) | scr (ns : List Int)
  | exc (c : Str)

mutual
inductive Rep (K : PySem.W.Frag) (G : Hp) : PV → V → Prop
  | non : Rep K G .non .non
  | bl (b : Bool) : Rep K G (.bl b) (.bl b)
  | int (i : Int) : Rep K G (.int i) (.int i)
  | str (x : Str) : Rep K G (.str x) (.str x)
  | list {a : Addr} {us : List V} {xs : List PV} : G a = some (.lst us) → Reps K G xs us → Rep K G (.list xs) (.ref a)
  | tup {a : Addr} {us : List V} {xs : List PV} : G a = some (.tup us) → Reps K G xs us → Rep K G (.tup xs) (.ref a)
  | scr {a : Addr} {ns : List Int} : SqL K G a (ns.map V.int) → Rep K G (.scr ns) (.ref a)
inductive Reps (K : PySem.W.Frag) (G : Hp) : List PV → List V → Prop
  | nil : Reps K G [] []
  | cons {v : PV} {vs : List PV} {u : V} {us : List V} : Rep K G v u → Reps K G vs us → Reps K G (v :: vs) (u :: us)
end

section
variable {K : PySem.W.Frag} {G G' : Hp}
mutual
theorem Rep.mono (s : Same G G') : ∀ {v : PV} {u : V}, Rep K G v u → Rep K G' v u
  | _, _, .non => .non
  | _, _, .bl b => .bl b
  | _, _, .int i => .int i
  | _, _, .str x => .str x
  | _, _, .list h r => .list (s _ _ h) (Reps.mono s r)
  | _, _, .tup h r => .tup (s _ _ h) (Reps.mono s r)
  | _, _, .scr h => .scr (s.seq h)
theorem Reps.mono (s : Same G G') : ∀ {vs : List PV} {us : List V}, Reps K G vs us → Reps K G' vs us
  | _, _, .nil => .nil
  | _, _, .cons h r => .cons (Rep.mono s h) (Reps.mono s r)
end
theorem Reps.length : ∀ {vs : List PV} {us : List V}, Reps K G vs us → vs.length = us.length
  | _, _, .nil => rfl
  | _, _, .cons _ r => by rw [List.length_cons, List.length_cons, Reps.length r]
theorem Reps.get : ∀ {vs : List PV} {us : List V} {i : Nat} {v : PV}, Reps K G vs us → vs[i]? = some v → ∃ u, us[i]? = some u ∧ Rep K G v u
  | _, _, _, _, .nil, e => by simp at e
  | _, _, 0, _, .cons h _, e => by
    simp at e
    subst e
    exact ⟨_, rfl, h⟩
  | _, _, i + 1, _, .cons _ r, e => by
    obtain ⟨u, h1, h2⟩ := Reps.get (i := i) r (by simpa using e)
    exact ⟨u, by simpa using h1, h2⟩
theorem Reps.get' {vs : List PV} {us : List V} {i : Nat} {u : V} (r : Reps K G vs us) (e : us[i]? = some u) : ∃ v, vs[i]? = some v ∧ Rep K G v u := by
  have hl := r.length
  have hi : i < us.length := (List.getElem?_eq_some_iff.mp e).1
  have e2 : vs[i]? = some (vs[i]'(by omega)) := List.getElem?_eq_getElem (by omega)
  obtain ⟨u', h1, h2⟩ := r.get e2
  rw [e] at h1
  cases h1
  exact ⟨_, e2, h2⟩
theorem Reps.append : ∀ {vs ws : List PV} {us zs : List V}, Reps K G vs us → Reps K G ws zs → Reps K G (vs ++ ws) (us ++ zs)
  | _, _, _, _, .nil, s => s
  | _, _, _, _, .cons h r, s => .cons h (Reps.append r s)
theorem Reps.set {v : PV} {u : V} (h : Rep K G v u) : ∀ {vs : List PV} {us : List V} (i : Nat), Reps K G vs us → Reps K G (vs.set i v) (us.set i u)
  | _, _, _, .nil => .nil
  | _, _, 0, .cons _ r => .cons h r
  | _, _, i + 1, .cons q r => .cons q (Reps.set h i r)
theorem Reps.take : ∀ {vs : List PV} {us : List V} (n : Nat), Reps K G vs us → Reps K G (vs.take n) (us.take n)
  | _, _, 0, _ => .nil
  | _, _, _ + 1, .nil => .nil
  | _, _, n + 1, .cons h r => .cons h (Reps.take n r)
theorem Reps.drop : ∀ {vs : List PV} {us : List V} (n : Nat), Reps K G vs us → Reps K G (vs.drop n) (us.drop n)
  | _, _, 0, r => r
  | _, _, _ + 1, .nil => .nil
  | _, _, n + 1, .cons _ r => Reps.drop n r
theorem Reps.dropLast {vs : List PV} {us : List V} (r : Reps K G vs us) : Reps K G vs.dropLast us.dropLast := by
  rw [List.dropLast_eq_take, List.dropLast_eq_take, r.length]
  exact r.take _
theorem Reps.ints : ∀ (ns : List Int), Reps K G (ns.map PV.int) (ns.map V.int)
  | [] => .nil
  | n :: ns => .cons (.int n) (Reps.ints ns)
theorem Reps.ints_eq : ∀ {ns : List Int} {us : List V}, Reps K G (ns.map PV.int) us → us = ns.map V.int
  | [], _, h => by cases h; rfl
  | n :: ns, _, h => by
    cases h with
    | cons h r =>
      cases h
      rw [Reps.ints_eq r]
      rfl
theorem Rep.int_eq {i : Int} {u : V} (h : Rep K G (.int i) u) : u = .int i := by cases h; rfl
theorem Rep.bl_eq {i : Bool} {u : V} (h : Rep K G (.bl i) u) : u = .bl i := by cases h; rfl
theorem Rep.non_eq {u : V} (h : Rep K G .non u) : u = .non := by cases h; rfl
theorem Rep.str_eq {i : Str} {u : V} (h : Rep K G (.str i) u) : u = .str i := by cases h; rfl
end

/-! from one moment to a later one: G what never changes any more, H all that is tracked -/
structure Ext (G H G' H' : Hp) : Prop where
  gg : Same G G'
  gh : Same G' H'
  hh : Same H H'
  nw : ∀ a o, H a = some o → G a = none → G' a = none
theorem Ext.refl {G H : Hp} (h : Same G H) : Ext G H G H := ⟨Same.refl _, h, Same.refl _, fun _ _ _ h => h⟩
theorem Ext.trans {G H G1 H1 G2 H2 : Hp} (a : Ext G H G1 H1) (b : Ext G1 H1 G2 H2) : Ext G H G2 H2 :=
  ⟨a.gg.trans b.gg, b.gh, a.hh.trans b.hh, fun c o h g => b.nw c o (a.hh c o h) (a.nw c o h g)⟩

inductive Md | S | B | F

def Res (m : Md) (K : PySem.W.Frag) (G H G' H' : Hp) (v : PV) (u : V) : Prop := match m with
  | .S => Rep K G' v u
  | .B => Rep K G' v u ∨ ∃ xs a us, v = .list xs ∧ u = .ref a ∧ H' a = some (.lst us) ∧ Reps K G' xs us
  | .F => ∃ xs p us, v = .list xs ∧ u = .ref p ∧ H p = none ∧ G' p = none ∧ H' p = some (.lst us) ∧ Reps K G' xs us

abbrev PEnv := List (Option PV)
abbrev Sg := L2.St

/-- o: the slots that hold a list that nothing else refers to -/
structure R (K : PySem.W.Frag) (o : List Nat) (G0 H0 : Hp) (ρ : PEnv) (σ : Sg) (G H : Hp) : Prop where
  len : σ.length = ρ.length
  ext : Ext G0 H0 G H
  sh : ∀ (i : Nat) (v : PV), ρ[i]? = some (some v) → i ∉ o → ∃ u, σ[i]? = some (some u) ∧ Rep K G v u
  ow : ∀ (i : Nat) (v : PV), ρ[i]? = some (some v) → i ∈ o → ∃ xs p us, v = .list xs ∧ σ[i]? = some (some (.ref p)) ∧ H0 p = none ∧ G p = none ∧ H p = some (.lst us) ∧ Reps K G xs us
  sep : ∀ (i j : Nat) (v w : PV) (p : Addr), i ∈ o → j ∈ o → i ≠ j → ρ[i]? = some (some v) → ρ[j]? = some (some w) → σ[i]? = some (some (.ref p)) → σ[j]? = some (some (.ref p)) → False

section
variable {K : PySem.W.Frag} {o o' : List Nat} {G0 H0 G H G' H' : Hp} {ρ : PEnv} {σ : Sg}
theorem R.on (r : R K o G0 H0 ρ σ G H) (e : Ext G H G' H') : R K o G0 H0 ρ σ G' H' where
  len := r.len
  ext := r.ext.trans e
  sh := fun i v h hi => let ⟨u, a, b⟩ := r.sh i v h hi; ⟨u, a, b.mono e.gg⟩
  ow := fun i v h hi => by
    obtain ⟨xs, p, us, h1, h2, h3, h4, h5, h6⟩ := r.ow i v h hi
    exact ⟨xs, p, us, h1, h2, h3, e.nw p _ h5 h4, e.hh _ _ h5, h6.mono e.gg⟩
  sep := r.sep
theorem R.congr (r : R K o G0 H0 ρ σ G H) (h : ∀ i, i ∈ o ↔ i ∈ o') : R K o' G0 H0 ρ σ G H where
  len := r.len
  ext := r.ext
  sh := fun i v e hi => r.sh i v e fun z => hi ((h i).mp z)
  ow := fun i v e hi => r.ow i v e ((h i).mpr hi)
  sep := fun i j v w p hi hj => r.sep i j v w p ((h i).mpr hi) ((h j).mpr hj)
/-- a slot's list is given out of hand -/
theorem R.freeze1 (r : R K o G0 H0 ρ σ G H) (i : Nat) : ∃ G', Same G G' ∧ R K (o.filter (fun j => decide (j ≠ i))) G0 H0 ρ σ G' H := by
  have mem : ∀ j, j ∈ o.filter (fun j => decide (j ≠ i)) ↔ j ∈ o ∧ j ≠ i := fun j => by simp
  by_cases hi : i ∈ o
  · by_cases hv : ∃ v, ρ[i]? = some (some v)
    · obtain ⟨v, hv⟩ := hv
      obtain ⟨xs, p, us, h1, h2, h3, h4, h5, h6⟩ := r.ow i v hv hi
      have sg : Same G (upd G p (.lst us)) := fun b x e => by
        rw [upd_ne (ne_of_none e h4)]
        exact e
      have sh : Same (upd G p (.lst us)) H := fun b x e => by
        by_cases hb : b = p
        · subst hb
          rw [upd_same] at e
          cases e
          exact h5
        · rw [upd_ne hb] at e
          exact r.ext.gh _ _ e
      refine ⟨upd G p (.lst us), sg, ⟨r.len, ⟨r.ext.gg.trans sg, sh, r.ext.hh, fun a x e1 e2 => ?_⟩, fun j w e hj => ?_, fun j w e hj => ?_, fun j k v w q hj hk => r.sep j k v w q ((mem j).mp hj).1 ((mem k).mp hk).1⟩⟩
      · rw [upd_ne (ne_of_none e1 h3)]
        exact r.ext.nw a x e1 e2
      · by_cases hji : j = i
        · subst hji
          rw [hv] at e
          cases e
          subst h1
          exact ⟨.ref p, h2, .list upd_same (h6.mono sg)⟩
        · obtain ⟨u, a, b⟩ := r.sh j w e fun z => hj ((mem j).mpr ⟨z, hji⟩)
          exact ⟨u, a, b.mono sg⟩
      · obtain ⟨hj1, hj2⟩ := (mem j).mp hj
        obtain ⟨ys, q, zs, k1, k2, k3, k4, k5, k6⟩ := r.ow j w e hj1
        have hqp : q ≠ p := fun z => by
          subst z
          exact r.sep j i w v q hj1 hi hj2 e hv k2 h2
        exact ⟨ys, q, zs, k1, k2, k3, by rw [upd_ne hqp]; exact k4, k5, k6.mono sg⟩
    · refine ⟨G, Same.refl _, r.len, r.ext, fun j w e hj => r.sh j w e fun z => ?_, fun j w e hj => r.ow j w e ((mem j).mp hj).1, fun j k v w q hj hk => r.sep j k v w q ((mem j).mp hj).1 ((mem k).mp hk).1⟩
      by_cases hji : j = i
      · subst hji
        exact hv ⟨_, e⟩
      · exact hj ((mem j).mpr ⟨z, hji⟩)
  · refine ⟨G, Same.refl _, r.congr fun j => ?_⟩
    rw [mem]
    exact ⟨fun z => ⟨z, fun e => hi (e ▸ z)⟩, fun z => z.1⟩
end
end PL

namespace PL
open PySem PySem.Spec PyProof.Rows L2

/-! reading pure values -/
def gv (ρ : PEnv) (i : Nat) : PV := match ρ[i]? with
  | some (some v) => v
  | _ => .non
def gd (ρ : PEnv) (i : Nat) : Bool := match ρ[i]? with
  | some (some _) => true
  | _ => false
theorem gd_some {ρ : PEnv} {i : Nat} (h : gd ρ i = true) : ρ[i]? = some (some (gv ρ i)) := by
  unfold gd at h
  unfold gv
  split at h
  · rename_i v e
    rw [e]
  · cases h
def isI : PV → Bool
  | .int _ => true
  | _ => false
def toI : PV → Int
  | .int i => i
  | _ => 0
def isB : PV → Bool
  | .bl _ => true
  | _ => false
def toB : PV → Bool
  | .bl b => b
  | _ => false
def isL : PV → Bool
  | .list _ => true
  | _ => false
def isT : PV → Bool
  | .tup _ => true
  | _ => false
def isSq : PV → Bool
  | .list _ => true
  | .tup _ => true
  | .scr _ => true
  | _ => false
def isLS : PV → Bool
  | .list _ => true
  | .scr _ => true
  | _ => false
def elems : PV → List PV
  | .list xs => xs
  | .tup xs => xs
  | .scr ns => ns.map PV.int
  | _ => []
/-- holds no reference -/
def isSc : PV → Bool
  | .non => true
  | .bl _ => true
  | .int _ => true
  | .str _ => true
  | _ => false

/-! the readings -/
def tP (K : PySem.W.Frag) (o : List Nat) (m : Md) (g : PEnv → Prop) (f : PEnv → PV) : TE := fun σ H Q => ∃ G0 H0 ρ G, R K o G0 H0 ρ σ G H ∧ g ρ ∧
  ∀ u G' H', Ext G H G' H' → Res m K G H G' H' (f ρ) u → Q u H'
def tT (K : PySem.W.Frag) (o : List Nat) (g : PEnv → Prop) (c : PEnv → Bool) : TT := fun σ H Q => ∃ G0 H0 ρ G, R K o G0 H0 ρ σ G H ∧ g ρ ∧
  ∀ G' H', Ext G H G' H' → Q (c ρ) H'
/-- arguments: shared ones, lent ones -/
def tA (K : PySem.W.Frag) (o : List Nat) (g : PEnv → Prop) (f : PEnv → List PV) : TA := fun σ H Q => ∃ G0 H0 ρ G, R K o G0 H0 ρ σ G H ∧ g ρ ∧
  ∀ us G' H', Ext G H G' H' → Reps K G' (f ρ) us → Q us H'
def tAB (K : PySem.W.Frag) (o : List Nat) (g : PEnv → Prop) (f : PEnv → List PV) : TA := fun σ H Q => ∃ G0 H0 ρ G, R K o G0 H0 ρ σ G H ∧ g ρ ∧
  ∀ us G' H', Ext G H G' H' → Reps K H' (f ρ) us → Q us H'
abbrev PX (X : Cx) (o : List Nat) (m : Md) (e : Expr) (g : PEnv → Prop) (f : PEnv → PV) : Prop := PE X e (tP X.K o m g f)
abbrev PXT (X : Cx) (o : List Nat) (e : Expr) (g : PEnv → Prop) (c : PEnv → Bool) : Prop := PT X e (tT X.K o g c)
abbrev PXW (X : Cx) (o : List Nat) (e : Expr) (g : PEnv → Prop) (c : PEnv → Bool) : Prop := PW X e (tT X.K o g c)
abbrev PXA (X : Cx) (o : List Nat) (es : List Expr) (g : PEnv → Prop) (f : PEnv → List PV) : Prop := PA X es (tA X.K o g f)
abbrev PXB (X : Cx) (o : List Nat) (es : List Expr) (g : PEnv → Prop) (f : PEnv → List PV) : Prop := PA X es (tAB X.K o g f)

theorem pe_imp {X : Cx} {e : Expr} {t t' : TE} (h : PE X e t) (k : ∀ σ H Q, t' σ H Q → t σ H Q) : PE X e t' := ⟨fun pins s σ H Q I hw => h.run pins s σ H Q I (k σ H Q hw)⟩
theorem pt_imp {X : Cx} {e : Expr} {t t' : TT} (h : PT X e t) (k : ∀ σ H Q, t' σ H Q → t σ H Q) : PT X e t' := ⟨fun pins s σ H Q I hw => h.run pins s σ H Q I (k σ H Q hw)⟩
theorem pw_imp {X : Cx} {e : Expr} {t t' : TT} (h : PW X e t) (k : ∀ σ H Q, t' σ H Q → t σ H Q) : PW X e t' := ⟨fun wh pins s σ H Q I hw => h.run wh pins s σ H Q I (k σ H Q hw)⟩
theorem pa_imp {X : Cx} {es : List Expr} {t t' : TA} (h : PA X es t) (k : ∀ σ H Q, t' σ H Q → t σ H Q) : PA X es t' := ⟨fun pos pins s σ H Q I hw => h.run pos pins s σ H Q I (k σ H Q hw)⟩

theorem Ext.new {G H : Hp} {p : Addr} {u : HO} (h : Same G H) (n : H p = none) : Ext G H G (upd H p u) := by
  have sm : Same H (upd H p u) := fun b x e => by
    rw [upd_ne (ne_of_none e n)]
    exact e
  exact ⟨Same.refl _, h.trans sm, sm, fun _ _ _ h => h⟩
/-- a new object that will never change -/
theorem Ext.lay {G H : Hp} {p : Addr} {u : HO} (h : Same G H) (n : H p = none) : Ext G H (upd G p u) (upd H p u) := by
  have sm : Same H (upd H p u) := fun b x e => by
    rw [upd_ne (ne_of_none e n)]
    exact e
  have sg : Same G (upd G p u) := fun b x e => by
    rw [upd_ne (ne_of_none e (h.free n))]
    exact e
  refine ⟨sg, fun b x e => ?_, sm, fun a x e1 e2 => ?_⟩
  · by_cases hb : b = p
    · subst hb
      rw [upd_same] at e
      rw [upd_same]
      exact e
    · rw [upd_ne hb] at e
      rw [upd_ne hb]
      exact h _ _ e
  · rw [upd_ne (ne_of_none e1 n)]
    exact e2

section
variable {K : PySem.W.Frag} {o : List Nat} {m ma mb : Md} {G0 H0 G H G' H' G1 H1 G2 H2 : Hp} {ρ : PEnv} {σ : Sg} {v : PV} {u : V}
theorem Res.on (h : Res m K G H G1 H1 v u) (e : Ext G1 H1 G2 H2) : Res m K G H G2 H2 v u := by
  cases m with
  | S => exact Rep.mono e.gg h
  | B =>
    rcases h with h | ⟨xs, a, us, h1, h2, h3, h4⟩
    · exact .inl (h.mono e.gg)
    · exact .inr ⟨xs, a, us, h1, h2, e.hh _ _ h3, h4.mono e.gg⟩
  | F =>
    obtain ⟨xs, p, us, h1, h2, h3, h4, h5, h6⟩ := h
    exact ⟨xs, p, us, h1, h2, h3, e.nw p _ h5 h4, e.hh _ _ h5, h6.mono e.gg⟩
/-- seen from an earlier moment -/
theorem Res.from (e : Ext G H G1 H1) (h : Res m K G1 H1 G2 H2 v u) : Res m K G H G2 H2 v u := by
  cases m with
  | S => exact h
  | B => exact h
  | F =>
    obtain ⟨xs, p, us, h1, h2, h3, h4, h5, h6⟩ := h
    exact ⟨xs, p, us, h1, h2, e.hh.free h3, h4, h5, h6⟩
theorem Res.B (h : Res m K G H G' H' v u) : Res .B K G H G' H' v u := by
  cases m with
  | S => exact .inl h
  | B => exact h
  | F =>
    obtain ⟨xs, p, us, h1, h2, _, _, h5, h6⟩ := h
    exact .inr ⟨xs, p, us, h1, h2, h5, h6⟩
theorem Res.sc (h : Res m K G H G' H' v u) (hs : isSc v = true) : ∀ G, Rep K G v u := by
  intro G3
  have e := h.B
  rcases e with e | ⟨xs, a, us, h1, _⟩
  · cases e with
    | non => exact .non
    | bl b => exact .bl b
    | int i => exact .int i
    | str x => exact .str x
    | list _ _ => cases hs
    | tup _ _ => cases hs
    | scr _ => cases hs
  · subst h1
    cases hs
theorem Res.eqI (h : Res m K G H G' H' v u) (hs : isI v = true) : u = .int (toI v) := by
  cases v with
  | int i => exact (h.sc rfl G).int_eq
  | _ => cases hs
theorem Res.eqB (h : Res m K G H G' H' v u) (hs : isB v = true) : u = .bl (toB v) := by
  cases v with
  | bl i => exact (h.sc rfl G).bl_eq
  | _ => cases hs
/-- everything stands in the whole heap -/
theorem Res.all (h : Res m K G H G' H' v u) (s : Same G' H') : Rep K H' v u := by
  rcases h.B with e | ⟨xs, a, us, h1, h2, h3, h4⟩
  · exact e.mono s
  · subst h1 h2
    exact .list h3 (h4.mono s)
theorem Res.seq (h : Res m K G H G' H' v u) (s : Same G' H') (hs : isSq v = true) : ∃ a us, u = .ref a ∧ (SqL K H' a us ∨ SqT K H' a us) ∧ Reps K G' (elems v) us := by
  rcases h.B with e | ⟨xs, a, us, h1, h2, h3, h4⟩
  · cases e with
    | list h0 r0 => exact ⟨_, _, rfl, .inl (SqL.of (s _ _ h0)), r0⟩
    | tup h0 r0 => exact ⟨_, _, rfl, .inr (SqT.of (s _ _ h0)), r0⟩
    | scr h0 => exact ⟨_, _, rfl, .inl (s.seq h0), Reps.ints _⟩
    | _ => cases hs
  · subst h1 h2
    exact ⟨_, _, rfl, .inl (SqL.of h3), h4⟩
theorem Res.ls (h : Res m K G H G' H' v u) (s : Same G' H') (hs : isLS v = true) : ∃ a us, u = .ref a ∧ SqL K H' a us ∧ Reps K G' (elems v) us := by
  rcases h.B with e | ⟨xs, a, us, h1, h2, h3, h4⟩
  · cases e with
    | list h0 r0 => exact ⟨_, _, rfl, SqL.of (s _ _ h0), r0⟩
    | scr h0 => exact ⟨_, _, rfl, s.seq h0, Reps.ints _⟩
    | _ => cases hs
  · subst h1 h2
    exact ⟨_, _, rfl, SqL.of h3, h4⟩
theorem Res.lst (h : Res m K G H G' H' v u) (s : Same G' H') (hs : isL v = true) : ∃ a us, u = .ref a ∧ H' a = some (.lst us) ∧ Reps K G' (elems v) us := by
  rcases h.B with e | ⟨xs, a, us, h1, h2, h3, h4⟩
  · cases e with
    | list h0 r0 => exact ⟨_, _, rfl, s _ _ h0, r0⟩
    | _ => cases hs
  · subst h1 h2
    exact ⟨_, _, rfl, h3, h4⟩
theorem Res.tup (h : Res m K G H G' H' v u) (s : Same G' H') (hs : isT v = true) : ∃ a us, u = .ref a ∧ SqT K H' a us ∧ Reps K G' (elems v) us := by
  rcases h.B with e | ⟨xs, a, us, h1, h2, h3, h4⟩
  · cases e with
    | tup h0 r0 => exact ⟨_, _, rfl, SqT.of (s _ _ h0), r0⟩
    | _ => cases hs
  · subst h1
    cases hs
/-- a fresh list given out of hand -/
theorem Res.share (h : Res .F K G H G' H' v u) (e : Ext G H G' H') : ∃ G'', Ext G H G'' H' ∧ Rep K G'' v u := by
  obtain ⟨xs, p, us, h1, h2, h3, h4, h5, h6⟩ := h
  have sg : Same G' (upd G' p (.lst us)) := fun b x q => by
    rw [upd_ne (ne_of_none q h4)]
    exact q
  refine ⟨upd G' p (.lst us), ⟨e.gg.trans sg, fun b x q => ?_, e.hh, fun a x q1 q2 => ?_⟩, ?_⟩
  · by_cases hb : b = p
    · subst hb
      rw [upd_same] at q
      cases q
      exact h5
    · rw [upd_ne hb] at q
      exact e.gh _ _ q
  · rw [upd_ne (ne_of_none q1 h3)]
    exact e.nw a x q1 q2
  · subst h1 h2
    exact .list upd_same (h6.mono sg)
/-- two parts, one behind the other -/
theorem two {ga gb : PEnv → Prop} {fa fb : PEnv → PV} {P : V → V → Hp → Prop} (r : R K o G0 H0 ρ σ G H) (ha : ga ρ) (hb : gb ρ)
    (k : ∀ x y G' H', Ext G H G' H' → R K o G0 H0 ρ σ G' H' → Res ma K G H G' H' (fa ρ) x → Res mb K G H G' H' (fb ρ) y → P x y H') :
    tP K o ma ga fa σ H (fun x H1 => tP K o mb gb fb σ H1 (fun y H2 => P x y H2)) :=
  ⟨G0, H0, ρ, G, r, ha, fun x G1 H1 e1 r1 => ⟨G0, H0, ρ, G1, r.on e1, hb, fun y G2 H2 e2 r2 => k x y G2 H2 (e1.trans e2) (r.on (e1.trans e2)) (r1.on e2) (Res.from e1 r2)⟩⟩
theorem one {ga : PEnv → Prop} {fa : PEnv → PV} {P : V → Hp → Prop} (r : R K o G0 H0 ρ σ G H) (ha : ga ρ)
    (k : ∀ x G' H', Ext G H G' H' → R K o G0 H0 ρ σ G' H' → Res ma K G H G' H' (fa ρ) x → P x H') :
    tP K o ma ga fa σ H P := ⟨G0, H0, ρ, G, r, ha, fun x G1 H1 e1 r1 => k x G1 H1 e1 (r.on e1) r1⟩
end

section
variable {X : Cx} {o : List Nat} {m ma mb : Md} {e a b : Expr} {g ga gb : PEnv → Prop} {f fa fb : PEnv → PV} {pos : Pos}

/-! change of mode -/
theorem xB (h : PX X o m e g f) : PX X o .B e g f := pe_imp h fun σ H Q ⟨G0, H0, ρ, G, r, hg, q⟩ => ⟨G0, H0, ρ, G, r, hg, fun u G' H' e hu => q u G' H' e hu.B⟩
theorem xS (h : PX X o .F e g f) : PX X o .S e g f := pe_imp h fun σ H Q ⟨G0, H0, ρ, G, r, hg, q⟩ => ⟨G0, H0, ρ, G, r, hg, fun u G' H' e hu =>
  let ⟨G'', e', h'⟩ := hu.share e; q u G'' H' e' h'⟩

/-! names and constants -/
theorem xv (i : Nat) {x : Str} {pos : Pos} (ho : i ∉ o := by decide) (hN : X.N[i]? = some x := by rfl) (hv : Vis X.env.scope x := by first | exact Or.inl rfl | exact Or.inr (Or.inl rfl) | exact Or.inr (Or.inr rfl))
    (hd : (x == ("__debug__" : Str)) = false := by decide) (hcd : (x == ("__classdict__" : Str)) = false := by decide) : PX X o .S (.Name x pos) (fun ρ => gd ρ i = true) (fun ρ => gv ρ i) :=
  pe_imp (pe_var hN hv hd hcd) fun σ H Q ⟨G0, H0, ρ, G, r, hg, q⟩ => by
    obtain ⟨u, h1, h2⟩ := r.sh i _ (gd_some hg) ho
    exact ⟨u, h1, q u G H (Ext.refl r.ext.gh) h2⟩
theorem xw (i : Nat) {x : Str} {pos : Pos} (ho : i ∈ o := by decide) (hN : X.N[i]? = some x := by rfl) (hv : Vis X.env.scope x := by first | exact Or.inl rfl | exact Or.inr (Or.inl rfl) | exact Or.inr (Or.inr rfl))
    (hd : (x == ("__debug__" : Str)) = false := by decide) (hcd : (x == ("__classdict__" : Str)) = false := by decide) : PX X o .B (.Name x pos) (fun ρ => gd ρ i = true) (fun ρ => gv ρ i) :=
  pe_imp (pe_var hN hv hd hcd) fun σ H Q ⟨G0, H0, ρ, G, r, hg, q⟩ => by
    obtain ⟨xs, p, us, h1, h2, h3, h4, h5, h6⟩ := r.ow i _ (gd_some hg) ho
    exact ⟨.ref p, h2, q _ G H (Ext.refl r.ext.gh) (.inr ⟨xs, p, us, h1, rfl, h5, h6⟩)⟩
theorem xint {i j pos} : PX X o .S (.Constant (.int i) j pos) (fun _ => True) (fun _ => .int i) := pe_imp pe_int fun σ H Q ⟨G0, H0, ρ, G, r, _, q⟩ => q _ G H (Ext.refl r.ext.gh) (Rep.int i)
theorem xbl {b j pos} : PX X o .S (.Constant (.bool b) j pos) (fun _ => True) (fun _ => .bl b) := pe_imp pe_bl fun σ H Q ⟨G0, H0, ρ, G, r, _, q⟩ => q _ G H (Ext.refl r.ext.gh) (Rep.bl b)
theorem xnon {j pos} : PX X o .S (.Constant .none j pos) (fun _ => True) (fun _ => .non) := pe_imp pe_non fun σ H Q ⟨G0, H0, ρ, G, r, _, q⟩ => q _ G H (Ext.refl r.ext.gh) Rep.non
theorem xstr {x j pos} : PX X o .S (.Constant (.str x) j pos) (fun _ => True) (fun _ => .str x) := pe_imp pe_str fun σ H Q ⟨G0, H0, ρ, G, r, _, q⟩ => q _ G H (Ext.refl r.ext.gh) (Rep.str x)

/-! two ints -/
def gI (ga gb : PEnv → Prop) (fa fb : PEnv → PV) (C : Int → Int → Prop) (ρ : PEnv) : Prop := ga ρ ∧ gb ρ ∧ isI (fa ρ) = true ∧ isI (fb ρ) = true ∧ C (toI (fa ρ)) (toI (fb ρ))
def gI0 (ga gb : PEnv → Prop) (fa fb : PEnv → PV) (ρ : PEnv) : Prop := ga ρ ∧ gb ρ ∧ isI (fa ρ) = true ∧ isI (fb ρ) = true
theorem rd_int {K : PySem.W.Frag} {C : Int → Int → Prop} {h : Int → Int → PV} {hv : Int → Int → V} (hh : ∀ G i j, Rep K G (h i j) (hv i j)) {σ : Sg} {H : Hp} {Q : VK}
    (q : tP K o .S (gI ga gb fa fb C) (fun ρ => h (toI (fa ρ)) (toI (fb ρ))) σ H Q) : tOp (rI C hv) (tP K o ma ga fa) (tP K o mb gb fb) σ H Q := by
  obtain ⟨G0, H0, ρ, G, r, ⟨h1, h2, h3, h4, h5⟩, q⟩ := q
  exact two r h1 h2 fun x y G' H' e r' rx ry => ⟨_, _, rx.eqI h3, ry.eqI h4, h5, q _ G' H' e (hh _ _ _)⟩
theorem rd_int0 {K : PySem.W.Frag} {h : Int → Int → PV} {hv : Int → Int → V} (hh : ∀ G i j, Rep K G (h i j) (hv i j)) {σ : Sg} {H : Hp} {Q : VK}
    (q : tP K o .S (gI0 ga gb fa fb) (fun ρ => h (toI (fa ρ)) (toI (fb ρ))) σ H Q) : tOp (rI0 hv) (tP K o ma ga fa) (tP K o mb gb fb) σ H Q := by
  obtain ⟨G0, H0, ρ, G, r, ⟨h1, h2, h3, h4⟩, q⟩ := q
  exact two r h1 h2 fun x y G' H' e r' rx ry => ⟨_, _, rx.eqI h3, ry.eqI h4, q _ G' H' e (hh _ _ _)⟩
theorem xadd (ha : PX X o ma a ga fa) (hb : PX X o mb b gb fb) : PX X o .S (.BinOp a .Add b pos) (gI0 ga gb fa fb) (fun ρ => .int (toI (fa ρ) + toI (fb ρ))) :=
  pe_imp (pe_op op_add ha hb) fun σ H Q => rd_int0 (h := fun i j => .int (i + j)) fun _ _ _ => .int _
theorem xsub (ha : PX X o ma a ga fa) (hb : PX X o mb b gb fb) : PX X o .S (.BinOp a .Sub b pos) (gI0 ga gb fa fb) (fun ρ => .int (toI (fa ρ) - toI (fb ρ))) :=
  pe_imp (pe_op op_sub ha hb) fun σ H Q => rd_int0 (h := fun i j => .int (i - j)) fun _ _ _ => .int _
theorem xmul (ha : PX X o ma a ga fa) (hb : PX X o mb b gb fb) : PX X o .S (.BinOp a .Mult b pos) (gI ga gb fa fb CMulW) (fun ρ => .int (toI (fa ρ) * toI (fb ρ))) :=
  pe_imp (pe_op op_mulW ha hb) fun σ H Q => rd_int (h := fun i j => .int (i * j)) fun _ _ _ => .int _
/-- a factor between -2^64 and 2^64 -/
theorem xmulc (ha : PX X o ma a ga fa) (hb : PX X o mb b gb fb) : PX X o .S (.BinOp a .Mult b pos) (gI ga gb fa fb CMul) (fun ρ => .int (toI (fa ρ) * toI (fb ρ))) :=
  pe_imp (pe_op op_mul ha hb) fun σ H Q => rd_int (h := fun i j => .int (i * j)) fun _ _ _ => .int _
theorem xmod (ha : PX X o ma a ga fa) (hb : PX X o mb b gb fb) : PX X o .S (.BinOp a .Mod b pos) (gI ga gb fa fb fun _ j => j ≠ 0) (fun ρ => .int ((toI (fa ρ)).fmod (toI (fb ρ)))) :=
  pe_imp (pe_op op_modN ha hb) fun σ H Q => rd_int (h := fun i j => .int (i.fmod j)) fun _ _ _ => .int _
/-- a divisor that isn't nought, of less than 9000 bits -/
def CDivZ (_ j : Int) : Prop := j ≠ 0 ∧ j.natAbs.log2 < 9000
theorem op_fdivZ : OpR X (binaryOp .FloorDiv) (rI CDivZ fun i j => .int (i.fdiv j)) := opI fun i j _ _ _ _ _ hc q => floordiv_int hc.1 q (.inl (PyProof.noPylong_of_log2 hc.2))
theorem xdiv (ha : PX X o ma a ga fa) (hb : PX X o mb b gb fb) : PX X o .S (.BinOp a .FloorDiv b pos) (gI ga gb fa fb CDivZ) (fun ρ => .int ((toI (fa ρ)).fdiv (toI (fb ρ)))) :=
  pe_imp (pe_op op_fdivZ ha hb) fun σ H Q => rd_int (h := fun i j => .int (i.fdiv j)) fun _ _ _ => .int _
theorem xpow (ha : PX X o ma a ga fa) (hb : PX X o mb b gb fb) : PX X o .S (.BinOp a .Pow b pos) (gI ga gb fa fb CPow) (fun ρ => .int (toI (fa ρ) ^ (toI (fb ρ)).toNat)) :=
  pe_imp (pe_op op_pow ha hb) fun σ H Q => rd_int (h := fun i j => .int (i ^ j.toNat)) fun _ _ _ => .int _
theorem xneg (ha : PX X o ma a ga fa) : PX X o .S (.UnaryOp .USub a pos) (fun ρ => ga ρ ∧ isI (fa ρ) = true) (fun ρ => .int (-(toI (fa ρ)))) :=
  pe_imp (pe_un un_neg ha) fun σ H Q ⟨G0, H0, ρ, G, r, ⟨h1, h2⟩, q⟩ => one r h1 fun x G' H' e r' rx => ⟨_, rx.eqI h2, q _ G' H' e (Rep.int _)⟩
/-! comparisons, as values and as tests -/
theorem rd_tst {K : PySem.W.Frag} {c : PEnv → Bool} {t : TE} (h : ∀ σ H Q, tP K o .S g (fun ρ => .bl (c ρ)) σ H Q → t σ H Q) {σ : Sg} {H : Hp} {Q : Bool → Hp → Prop} (q : tT K o g c σ H Q) : tTest t σ H Q := by
  obtain ⟨G0, H0, ρ, G, r, hg, q⟩ := q
  exact h _ _ _ ⟨G0, H0, ρ, G, r, hg, fun u G' H' e hu => ⟨c ρ, Rep.bl_eq hu, q G' H' e⟩⟩
theorem xlt (ha : PX X o ma a ga fa) (hb : PX X o mb b gb fb) : PX X o .S (.Compare a [.Lt] [b] pos) (gI0 ga gb fa fb) (fun ρ => .bl (decide (toI (fa ρ) < toI (fb ρ)))) :=
  pe_imp (pe_cmpR op_lt ha hb (nomark _)) fun σ H Q => rd_int0 (h := fun i j => .bl (decide (i < j))) fun _ _ _ => .bl _
theorem xle (ha : PX X o ma a ga fa) (hb : PX X o mb b gb fb) : PX X o .S (.Compare a [.LtE] [b] pos) (gI0 ga gb fa fb) (fun ρ => .bl (decide (toI (fa ρ) ≤ toI (fb ρ)))) :=
  pe_imp (pe_cmpR op_le ha hb (nomark _)) fun σ H Q => rd_int0 (h := fun i j => .bl (decide (i ≤ j))) fun _ _ _ => .bl _
theorem xgt (ha : PX X o ma a ga fa) (hb : PX X o mb b gb fb) : PX X o .S (.Compare a [.Gt] [b] pos) (gI0 ga gb fa fb) (fun ρ => .bl (decide (toI (fb ρ) < toI (fa ρ)))) :=
  pe_imp (pe_cmpR op_gt ha hb (nomark _)) fun σ H Q => rd_int0 (h := fun i j => .bl (decide (j < i))) fun _ _ _ => .bl _
theorem xge (ha : PX X o ma a ga fa) (hb : PX X o mb b gb fb) : PX X o .S (.Compare a [.GtE] [b] pos) (gI0 ga gb fa fb) (fun ρ => .bl (decide (toI (fb ρ) ≤ toI (fa ρ)))) :=
  pe_imp (pe_cmpR op_ge ha hb (nomark _)) fun σ H Q => rd_int0 (h := fun i j => .bl (decide (j ≤ i))) fun _ _ _ => .bl _
theorem ylt (ha : PX X o ma a ga fa) (hb : PX X o mb b gb fb) : PXT X o (.Compare a [.Lt] [b] pos) (gI0 ga gb fa fb) (fun ρ => decide (toI (fa ρ) < toI (fb ρ))) :=
  pt_imp (pt_cmpR op_lt ha hb (nomark _)) fun σ H Q => rd_tst fun σ H Q => rd_int0 (h := fun i j => .bl (decide (i < j))) fun _ _ _ => .bl _
theorem yle (ha : PX X o ma a ga fa) (hb : PX X o mb b gb fb) : PXT X o (.Compare a [.LtE] [b] pos) (gI0 ga gb fa fb) (fun ρ => decide (toI (fa ρ) ≤ toI (fb ρ))) :=
  pt_imp (pt_cmpR op_le ha hb (nomark _)) fun σ H Q => rd_tst fun σ H Q => rd_int0 (h := fun i j => .bl (decide (i ≤ j))) fun _ _ _ => .bl _
theorem ygt (ha : PX X o ma a ga fa) (hb : PX X o mb b gb fb) : PXT X o (.Compare a [.Gt] [b] pos) (gI0 ga gb fa fb) (fun ρ => decide (toI (fb ρ) < toI (fa ρ))) :=
  pt_imp (pt_cmpR op_gt ha hb (nomark _)) fun σ H Q => rd_tst fun σ H Q => rd_int0 (h := fun i j => .bl (decide (j < i))) fun _ _ _ => .bl _
theorem yge (ha : PX X o ma a ga fa) (hb : PX X o mb b gb fb) : PXT X o (.Compare a [.GtE] [b] pos) (gI0 ga gb fa fb) (fun ρ => decide (toI (fb ρ) ≤ toI (fa ρ))) :=
  pt_imp (pt_cmpR op_ge ha hb (nomark _)) fun σ H Q => rd_tst fun σ H Q => rd_int0 (h := fun i j => .bl (decide (j ≤ i))) fun _ _ _ => .bl _
/-- ints alone: ==, != -/
theorem rd_eqI {K : PySem.W.Frag} {σ : Sg} {H : Hp} {Q : VK} (q : tP K o .S (gI0 ga gb fa fb) (fun ρ => .bl (decide (toI (fa ρ) = toI (fb ρ)))) σ H Q) : tOp rEq (tP K o ma ga fa) (tP K o mb gb fb) σ H Q := by
  obtain ⟨G0, H0, ρ, G, r, ⟨h1, h2, h3, h4⟩, q⟩ := q
  refine two r h1 h2 fun x y G' H' e r' rx ry => ?_
  rw [rx.eqI h3, ry.eqI h4]
  refine ⟨rfl, ?_⟩
  have z := q _ G' H' e (Rep.bl _)
  rw [dec_int, Bool.beq_eq_decide_eq]
  exact z
theorem rd_neI {K : PySem.W.Frag} {σ : Sg} {H : Hp} {Q : VK} (q : tP K o .S (gI0 ga gb fa fb) (fun ρ => .bl (decide (toI (fa ρ) ≠ toI (fb ρ)))) σ H Q) : tOp rNe (tP K o ma ga fa) (tP K o mb gb fb) σ H Q := by
  obtain ⟨G0, H0, ρ, G, r, ⟨h1, h2, h3, h4⟩, q⟩ := q
  refine two r h1 h2 fun x y G' H' e r' rx ry => ?_
  rw [rx.eqI h3, ry.eqI h4]
  refine ⟨rfl, ?_⟩
  have z := q _ G' H' e (Rep.bl _)
  rw [dec_int, Bool.beq_eq_decide_eq, ← decide_not]
  exact z
theorem xeqI (ha : PX X o ma a ga fa) (hb : PX X o mb b gb fb) : PX X o .S (.Compare a [.Eq] [b] pos) (gI0 ga gb fa fb) (fun ρ => .bl (decide (toI (fa ρ) = toI (fb ρ)))) :=
  pe_imp (pe_cmpR op_eq ha hb (nomark _)) fun σ H Q => rd_eqI
theorem xneI (ha : PX X o ma a ga fa) (hb : PX X o mb b gb fb) : PX X o .S (.Compare a [.NotEq] [b] pos) (gI0 ga gb fa fb) (fun ρ => .bl (decide (toI (fa ρ) ≠ toI (fb ρ)))) :=
  pe_imp (pe_cmpR op_ne ha hb (nomark _)) fun σ H Q => rd_neI
theorem yeqI (ha : PX X o ma a ga fa) (hb : PX X o mb b gb fb) : PXT X o (.Compare a [.Eq] [b] pos) (gI0 ga gb fa fb) (fun ρ => decide (toI (fa ρ) = toI (fb ρ))) :=
  pt_imp (pt_cmpR op_eq ha hb (nomark _)) fun σ H Q => rd_tst fun σ H Q => rd_eqI
theorem yneI (ha : PX X o ma a ga fa) (hb : PX X o mb b gb fb) : PXT X o (.Compare a [.NotEq] [b] pos) (gI0 ga gb fa fb) (fun ρ => decide (toI (fa ρ) ≠ toI (fb ρ))) :=
  pt_imp (pt_cmpR op_ne ha hb (nomark _)) fun σ H Q => rd_tst fun σ H Q => rd_neI
end
end PL

namespace PL
open PySem PySem.Spec PyProof.Rows L2

section
variable {X : Cx} {o : List Nat} {m ma mb : Md} {e a b : Expr} {es : List Expr} {g ga gb ge : PEnv → Prop} {f fa fb fe : PEnv → PV} {fs : PEnv → List PV} {pos : Pos}

/-! arguments -/
theorem xa0 : PXA X o [] (fun _ => True) (fun _ => []) := pa_imp pa_nil fun σ H Q ⟨G0, H0, ρ, G, r, _, q⟩ => q [] G H (Ext.refl r.ext.gh) .nil
theorem xa (ha : PX X o .S e ge fe) (hr : PXA X o es g fs) (hs : starEach (e :: es) X.env = (false, eval e X.env) :: starEach es X.env := by rfl) : PXA X o (e :: es) (fun ρ => ge ρ ∧ g ρ) (fun ρ => fe ρ :: fs ρ) :=
  pa_imp (pa_cons ha hr hs) fun σ H Q ⟨G0, H0, ρ, G, r, ⟨h1, h2⟩, q⟩ => one r h1 fun x G1 H1 e1 r1 rx => ⟨_, _, _, _, r1, h2, fun us G2 H2 e2 ru => q _ G2 H2 (e1.trans e2) (.cons (Rep.mono e2.gg rx) ru)⟩
theorem xb0 : PXB X o [] (fun _ => True) (fun _ => []) := pa_imp pa_nil fun σ H Q ⟨G0, H0, ρ, G, r, _, q⟩ => q [] G H (Ext.refl r.ext.gh) .nil
theorem xb (ha : PX X o m e ge fe) (hr : PXB X o es g fs) (hs : starEach (e :: es) X.env = (false, eval e X.env) :: starEach es X.env := by rfl) : PXB X o (e :: es) (fun ρ => ge ρ ∧ g ρ) (fun ρ => fe ρ :: fs ρ) :=
  pa_imp (pa_cons ha hr hs) fun σ H Q ⟨G0, H0, ρ, G, r, ⟨h1, h2⟩, q⟩ => one r h1 fun x G1 H1 e1 r1 rx => ⟨_, _, _, _, r1, h2, fun us G2 H2 e2 ru => q _ G2 H2 (e1.trans e2) (.cons ((rx.all e1.gh).mono e2.hh) ru)⟩

/-! lists and tuples made -/
theorem xtup {k : Nat} (h : PXA X o es g fs) : PX X o .S (.Tuple es k pos) (fun ρ => g ρ ∧ (fs ρ).length ≤ sizeLine) (fun ρ => .tup (fs ρ)) :=
  pe_imp (pe_tup h) fun σ H Q ⟨G0, H0, ρ, G, r, ⟨h1, h2⟩, q⟩ => ⟨_, _, _, _, r, h1, fun us G1 H1 e1 ru => ⟨by rw [← ru.length]; exact h2, fun p np =>
    q _ _ _ (e1.trans (Ext.lay e1.gh np)) (Rep.tup upd_same (ru.mono (Ext.lay (u := .tup us) e1.gh np).gg))⟩⟩
theorem Ext.fresh {K : PySem.W.Frag} {G H G1 H1 : Hp} {p : Addr} {us : List V} {xs : List PV} (e1 : Ext G H G1 H1) (np : H1 p = none) (ru : Reps K G1 xs us) : Res .F K G H G1 (upd H1 p (.lst us)) (.list xs) (.ref p) :=
  ⟨xs, p, us, rfl, rfl, e1.hh.free np, e1.gh.free np, upd_same, ru⟩
theorem xlst (h : PXA X o es g fs) : PX X o .F (.List es pos) (fun ρ => g ρ ∧ (fs ρ).length ≤ sizeLine) (fun ρ => .list (fs ρ)) :=
  pe_imp (pe_lst h) fun σ H Q ⟨G0, H0, ρ, G, r, ⟨h1, h2⟩, q⟩ => ⟨_, _, _, _, r, h1, fun us G1 H1 e1 ru => ⟨by rw [← ru.length]; exact h2, fun p np =>
    q _ _ _ (e1.trans (Ext.new e1.gh np)) (e1.fresh np ru)⟩⟩
theorem xcat (ha : PX X o ma a ga fa) (hb : PX X o mb b gb fb) : PX X o .F (.BinOp a .Add b pos) (fun ρ => ga ρ ∧ gb ρ ∧ isL (fa ρ) = true ∧ isL (fb ρ) = true ∧ (elems (fa ρ)).length + (elems (fb ρ)).length ≤ sizeLine) (fun ρ => .list (elems (fa ρ) ++ elems (fb ρ))) :=
  pe_imp (pe_op op_cat ha hb) fun σ H Q ⟨G0, H0, ρ, G, r, ⟨h1, h2, h3, h4, h5⟩, q⟩ => two r h1 h2 fun x y G1 H1 e1 r1 rx ry => by
    obtain ⟨p1, us, rfl, k1, k2⟩ := rx.lst e1.gh h3
    obtain ⟨p2, ws, rfl, k3, k4⟩ := ry.lst e1.gh h4
    exact ⟨p1, p2, us, ws, rfl, rfl, k1, k3, by rw [← k2.length, ← k4.length]; exact h5, fun p np => q _ _ _ (e1.trans (Ext.new e1.gh np)) (e1.fresh np (k2.append k4))⟩
/-- [..] * n -/
theorem reps_rep {K : PySem.W.Frag} {G : Hp} {xs : List PV} {us : List V} (h : Reps K G xs us) : ∀ k : Nat, Reps K G (List.replicate k xs).flatten (List.replicate k us).flatten
  | 0 => .nil
  | k + 1 => by
    rw [List.replicate_succ, List.replicate_succ, List.flatten_cons, List.flatten_cons]
    exact h.append (reps_rep h k)

/-! items -/
theorem atI_rep {K : PySem.W.Frag} {G : Hp} {xs : List PV} {us : List V} {i : Int} {v : PV} (h : Reps K G xs us) (e : atI xs i = some v) : ∃ u, atI us i = some u ∧ Rep K G v u := by
  unfold atI at e ⊢
  rw [h.length] at e
  cases q : ixN us.length i with
  | none => rw [q] at e; cases e
  | some j =>
    rw [q] at e
    exact h.get e
def itAt (xs : List PV) (i : Int) : PV := (atI xs i).getD .non
theorem itAt_some {xs : List PV} {i : Int} (h : (atI xs i).isSome = true) : atI xs i = some (itAt xs i) := by
  unfold itAt
  cases q : atI xs i with
  | none => rw [q] at h; cases h
  | some v => rfl
theorem xix (ha : PX X o ma a ga fa) (hb : PX X o mb b gb fb) (hs : PlainIx b := by exact fun _ _ => rfl) : PX X o .S (.Subscript a b pos) (fun ρ => ga ρ ∧ gb ρ ∧ isSq (fa ρ) = true ∧ isI (fb ρ) = true ∧ (atI (elems (fa ρ)) (toI (fb ρ))).isSome = true) (fun ρ => itAt (elems (fa ρ)) (toI (fb ρ))) :=
  pe_imp (pe_ix ix_seq ha hb hs) fun σ H Q ⟨G0, H0, ρ, G, r, ⟨h1, h2, h3, h4, h5⟩, q⟩ => two r h1 h2 fun x y G1 H1 e1 r1 rx ry => by
    obtain ⟨p1, us, rfl, k1, k2⟩ := rx.seq e1.gh h3
    obtain ⟨u, k3, k4⟩ := atI_rep k2 (itAt_some h5)
    have q' := q u G1 H1 e1 k4
    rcases k1 with k1 | k1
    · exact .inl ⟨p1, us, _, u, rfl, ry.eqI h4, k1, k3, q'⟩
    · exact .inr (.inl ⟨p1, us, _, u, rfl, ry.eqI h4, k1, k3, q'⟩)

/-! slices -/
def tOO (K : PySem.W.Frag) (o : List Nat) (g : PEnv → Prop) (f : PEnv → Option Int) : TO := fun σ H Q => ∃ G0 H0 ρ G, R K o G0 H0 ρ σ G H ∧ g ρ ∧ ∀ G' H', Ext G H G' H' → Q (f ρ) H'
abbrev PXO (X : Cx) (o : List Nat) (e : Option Expr) (g : PEnv → Prop) (f : PEnv → Option Int) : Prop := PO X e (tOO X.K o g f)
theorem po_imp {e : Option Expr} {t t' : TO} (h : PO X e t) (k : ∀ σ H Q, t' σ H Q → t σ H Q) : PO X e t' := ⟨fun pins s σ H Q A B C => h.run pins s σ H Q A (k σ H _ B) C⟩
theorem xo0 : PXO X o none (fun _ => True) (fun _ => none) := po_imp po_none fun σ H Q ⟨G0, H0, ρ, G, r, _, q⟩ => q G H (Ext.refl r.ext.gh)
theorem xo (ha : PX X o m e ge fe) : PXO X o (some e) (fun ρ => ge ρ ∧ isI (fe ρ) = true) (fun ρ => some (toI (fe ρ))) :=
  po_imp (po_some ha) fun σ H Q ⟨G0, H0, ρ, G, r, ⟨h1, h2⟩, q⟩ => one r h1 fun x G1 H1 e1 r1 rx => ⟨_, rx.eqI h2, q G1 H1 e1⟩
def cutP (xs : List PV) (lo hi : Option Int) : List PV := (xs.drop (HT.sIx xs.length 0 lo)).take (HT.sIx xs.length xs.length hi - HT.sIx xs.length 0 lo)
theorem Reps.cut {K : PySem.W.Frag} {G : Hp} {xs : List PV} {us : List V} (h : Reps K G xs us) (lo hi : Option Int) : Reps K G (cutP xs lo hi) (cutV us lo hi) := by
  unfold cutP cutV
  rw [h.length]
  exact (h.drop _).take _
variable {lo hi : Option Expr} {gl gh : PEnv → Prop} {fl fh : PEnv → Option Int} {p2 : Pos}
theorem xcut (ha : PX X o ma a ga fa) (hl : PXO X o lo gl fl) (hh : PXO X o hi gh fh) : PX X o .F (.Subscript a (.Slice lo hi none p2) pos) (fun ρ => ga ρ ∧ gl ρ ∧ gh ρ ∧ isLS (fa ρ) = true) (fun ρ => .list (cutP (elems (fa ρ)) (fl ρ) (fh ρ))) :=
  pe_imp (pe_slice sl_list ha hl hh) fun σ H Q ⟨G0, H0, ρ, G, r, ⟨h1, h2, h3, h4⟩, q⟩ => one r h1 fun x G1 H1 e1 r1 rx => ⟨_, _, _, _, r1, h2, fun G2 H2 e2 => ⟨_, _, _, _, r1.on e2, h3, fun G3 H3 e3 => by
    have e := e1.trans (e2.trans e3)
    obtain ⟨p1, us, rfl, k1, k2⟩ := (rx.on (e2.trans e3)).ls e.gh h4
    exact ⟨p1, us, rfl, k1, fun p np => q _ _ _ (e.trans (Ext.new e.gh np)) (e.fresh np (k2.cut _ _))⟩⟩⟩

/-! built-ins -/
section
variable {gA : PEnv → Prop} {fA : PEnv → List PV} {x : Str} {p : Pos}
theorem xcutT (ha : PX X o ma a ga fa) (hl : PXO X o lo gl fl) (hh : PXO X o hi gh fh) : PX X o .S (.Subscript a (.Slice lo hi none p2) pos) (fun ρ => ga ρ ∧ gl ρ ∧ gh ρ ∧ isT (fa ρ) = true ∧
    ¬ (HT.sIx (elems (fa ρ)).length 0 (fl ρ) = 0 ∧ HT.sIx (elems (fa ρ)).length (elems (fa ρ)).length (fh ρ) = (elems (fa ρ)).length)) (fun ρ => .tup (cutP (elems (fa ρ)) (fl ρ) (fh ρ))) :=
  pe_imp (pe_slice sl_tup ha hl hh) fun σ H Q ⟨G0, H0, ρ, G, r, ⟨h1, h2, h3, h4, h5⟩, q⟩ => one r h1 fun x G1 H1 e1 r1 rx => ⟨_, _, _, _, r1, h2, fun G2 H2 e2 => ⟨_, _, _, _, r1.on e2, h3, fun G3 H3 e3 => by
    have e := e1.trans (e2.trans e3)
    obtain ⟨p1, us, rfl, k1, k2⟩ := (rx.on (e2.trans e3)).tup e.gh h4
    exact ⟨p1, us, rfl, k1, by rw [← k2.length]; exact h5, fun p np => q _ _ _ (e.trans (Ext.lay e.gh np)) (Rep.tup upd_same ((k2.cut _ _).mono (Ext.lay (u := .tup (cutV us (fl ρ) (fh ρ))) e.gh np).gg))⟩⟩⟩
/-- one argument, of any mode -/
theorem rd1 {K : PySem.W.Frag} {r : List V → Hp → VK → Prop} {m' : Md} {g' : PEnv → Prop} {f' : PEnv → PV} (k : ∀ {ρ x G H G1 H1 Q}, Ext G H G1 H1 → Res ma K G H G1 H1 (fa ρ) x → g' ρ → (∀ u G' H', Ext G H G' H' → Res m' K G H G' H' (f' ρ) u → Q u H') → r [x] H1 Q)
    {σ : Sg} {H : Hp} {Q : VK} (q : tP K o m' (fun ρ => ga ρ ∧ g' ρ) f' σ H Q) : tCB r (tCons (tP K o ma ga fa) tNil) σ H Q := by
  obtain ⟨G0, H0, ρ, G, rr, ⟨h1, h2⟩, q⟩ := q
  exact one rr h1 fun x G1 H1 e1 r1 rx => k e1 rx h2 q
theorem xlen (mg : X.mg "len" = none) (ha : PX X o ma a ga fa) (hg : Gl X "len" := by rfl) (hs : starEach [a] X.env = (false, eval a X.env) :: starEach [] X.env := by rfl) :
    PX X o .S (.Call (.Name "len" p) [a] [] pos) (fun ρ => ga ρ ∧ isSq (fa ρ) = true) (fun ρ => .int (elems (fa ρ)).length) :=
  pe_imp (pe_callB call_len_seq hg mg PySem.boot_len (pa_cons ha pa_nil hs) (he := hs)) fun σ H Q => rd1 fun {ρ x G H G1 H1 Q} e1 rx h q => by
    obtain ⟨p1, us, rfl, k1, k2⟩ := rx.seq e1.gh h
    refine ⟨p1, us, rfl, k1, ?_⟩
    rw [← k2.length]
    exact q _ _ _ e1 (Rep.int _)
theorem xabs (mg : X.mg "abs" = none) (ha : PX X o ma a ga fa) (hg : Gl X "abs" := by rfl) (hs : starEach [a] X.env = (false, eval a X.env) :: starEach [] X.env := by rfl) :
    PX X o .S (.Call (.Name "abs" p) [a] [] pos) (fun ρ => ga ρ ∧ isI (fa ρ) = true) (fun ρ => .int ((toI (fa ρ)).natAbs : Int)) :=
  pe_imp (pe_callB call_abs hg mg boot_abs (pa_cons ha pa_nil hs) (he := hs)) fun σ H Q => rd1 fun {ρ x G H G1 H1 Q} e1 rx h q => by
    refine ⟨_, by rw [rx.eqI h], ?_⟩
    have e : (if toI (fa ρ) < 0 then -(toI (fa ρ)) else toI (fa ρ)) = ((toI (fa ρ)).natAbs : Int) := by split <;> omega
    rw [e]
    exact q _ _ _ e1 (Rep.int _)
def allI (xs : List PV) : Bool := xs.all isI
def toIs (xs : List PV) : List Int := xs.map toI
theorem toIs_of : ∀ {xs : List PV}, allI xs = true → xs = (toIs xs).map PV.int
  | [], _ => rfl
  | x :: xs, h => by
    simp only [allI, List.all_cons, Bool.and_eq_true] at h
    obtain ⟨h1, h2⟩ := h
    cases x with
    | int i =>
      show PV.int i :: xs = PV.int i :: (toIs xs).map PV.int
      rw [← toIs_of h2]
    | _ => cases h1
theorem allI_map (ns : List Int) : allI (ns.map PV.int) = true := by
  induction ns with
  | nil => rfl
  | cons n ns ih => exact ih
theorem toIs_map (ns : List Int) : toIs (ns.map PV.int) = ns := by
  induction ns with
  | nil => rfl
  | cons n ns ih =>
    show n :: toIs (ns.map PV.int) = n :: ns
    rw [ih]
theorem xsum (hc : X.calm = true) (mg : X.mg "sum" = none) (ha : PX X o ma a ga fa) (hg : Gl X "sum" := by rfl) (hs : starEach [a] X.env = (false, eval a X.env) :: starEach [] X.env := by rfl) :
    PX X o .S (.Call (.Name "sum" p) [a] [] pos) (fun ρ => ga ρ ∧ isLS (fa ρ) = true ∧ allI (elems (fa ρ)) = true) (fun ρ => .int (toIs (elems (fa ρ))).sum) :=
  pe_imp (pe_callB (cr_sum hc) hg mg boot_sum (pa_cons ha pa_nil hs) (he := hs)) fun σ H Q => rd1 fun {ρ x G H G1 H1 Q} e1 rx h q => by
    obtain ⟨p1, us, rfl, k1, k2⟩ := rx.ls e1.gh h.1
    have e := toIs_of h.2
    rw [e] at k2
    rw [k2.ints_eq] at k1
    exact ⟨p1, _, rfl, k1, q _ _ _ e1 (Rep.int _)⟩
/-- the greatest of a list: the program's own word for it is any m that is in it and above all -/
theorem xmax (hc : X.calm = true) (mg : X.mg "max" = none) (mx : List Int → Int) (hmx : ∀ (ns : List Int) (m : Int), m ∈ ns → (∀ y, y ∈ ns → y ≤ m) → m = mx ns) (ha : PX X o ma a ga fa) (hg : Gl X "max" := by rfl) (hs : starEach [a] X.env = (false, eval a X.env) :: starEach [] X.env := by rfl) :
    PX X o .S (.Call (.Name "max" p) [a] [] pos) (fun ρ => ga ρ ∧ isLS (fa ρ) = true ∧ allI (elems (fa ρ)) = true ∧ 0 < (elems (fa ρ)).length) (fun ρ => .int (mx (toIs (elems (fa ρ))))) :=
  pe_imp (pe_callB (cr_max hc) hg mg boot_max (pa_cons ha pa_nil hs) (he := hs)) fun σ H Q => rd1 fun {ρ x G H G1 H1 Q} e1 rx h q => by
    obtain ⟨p1, us, rfl, k1, k2⟩ := rx.ls e1.gh h.1
    have e := toIs_of h.2.1
    rw [e] at k2
    rw [k2.ints_eq] at k1
    refine ⟨p1, _, rfl, k1, by rw [toIs, List.length_map]; exact h.2.2, fun m h1 h2 => ?_⟩
    rw [hmx _ m h1 h2]
    exact q _ _ _ e1 (Rep.int _)
theorem xmin2 (hc : X.calm = true) (mg : X.mg "min" = none) (ha : PX X o ma a ga fa) (hb : PX X o mb b gb fb) (hg : Gl X "min" := by rfl) (hs : starEach [a, b] X.env = (false, eval a X.env) :: starEach [b] X.env := by rfl) (hs2 : starEach [b] X.env = (false, eval b X.env) :: starEach [] X.env := by rfl)
    (hpl : (backTo pos (starEach [b] X.env)).any (·.1) = false := by rfl) :
    PX X o .S (.Call (.Name "min" p) [a, b] [] pos) (gI0 ga gb fa fb) (fun ρ => .int (min (toI (fa ρ)) (toI (fb ρ)))) :=
  pe_imp (pe_callB (call_min2 hc) hg mg boot_min (pa_cons ha (pa_cons hb pa_nil hs2) hs) (he := hs) (hpl := hpl)) fun σ H Q ⟨G0, H0, ρ, G, r, ⟨h1, h2, h3, h4⟩, q⟩ => two r h1 h2 fun x y G' H' e r' rx ry => by
    refine ⟨_, _, by rw [rx.eqI h3, ry.eqI h4], ?_⟩
    have e2 : (if toI (fb ρ) < toI (fa ρ) then toI (fb ρ) else toI (fa ρ)) = min (toI (fa ρ)) (toI (fb ρ)) := by omega
    rw [e2]
    exact q _ _ _ e (Rep.int _)
theorem xlist (mg : X.mg "list" = none) (ha : PX X o ma a ga fa) (hg : Gl X "list" := by rfl) (hs : starEach [a] X.env = (false, eval a X.env) :: starEach [] X.env := by rfl) :
    PX X o .F (.Call (.Name "list" p) [a] [] pos) (fun ρ => ga ρ ∧ isSq (fa ρ) = true) (fun ρ => .list (elems (fa ρ))) :=
  pe_imp (pe_callTy call_list_of hg mg boot_list (pa_cons ha pa_nil hs) (he := hs)) fun σ H Q => rd1 fun {ρ x G H G1 H1 Q} e1 rx h q => by
    obtain ⟨p1, us, rfl, k1, k2⟩ := rx.seq e1.gh h
    exact ⟨p1, us, rfl, k1, fun l nl => q _ _ _ (e1.trans (Ext.new e1.gh nl)) (e1.fresh nl k2)⟩
theorem xtuple (mg : X.mg "tuple" = none) (ha : PX X o ma a ga fa) (hg : Gl X "tuple" := by rfl) (hs : starEach [a] X.env = (false, eval a X.env) :: starEach [] X.env := by rfl) :
    PX X o .S (.Call (.Name "tuple" p) [a] [] pos) (fun ρ => ga ρ ∧ isSq (fa ρ) = true) (fun ρ => .tup (elems (fa ρ))) :=
  pe_imp (pe_callTy call_tuple_of hg mg boot_tuple (pa_cons ha pa_nil hs) (he := hs)) fun σ H Q => rd1 fun {ρ x G H G1 H1 Q} e1 rx h q => by
    by_cases ht : isT (fa ρ) = true
    · have z := rx
      obtain ⟨p1, us, rfl, k1, k2⟩ := rx.tup e1.gh ht
      refine ⟨p1, us, rfl, .inr ⟨k1, q _ _ _ e1 ?_⟩⟩
      rcases z.B with z | ⟨xs, a, us, h1, _⟩
      · cases q2 : fa ρ with
        | tup xs =>
          rw [q2] at z
          exact z
        | _ =>
          rw [q2] at ht
          cases ht
      · rw [h1] at ht
        cases ht
    · have hl : isLS (fa ρ) = true := by
        cases q2 : fa ρ with
        | tup xs =>
          rw [q2] at ht
          exact absurd rfl ht
        | list xs => rfl
        | scr xs => rfl
        | _ =>
          rw [q2] at h
          cases h
      obtain ⟨p1, us, rfl, k1, k2⟩ := rx.ls e1.gh hl
      exact ⟨p1, us, rfl, .inl ⟨k1, fun l nl => q _ _ _ (e1.trans (Ext.lay e1.gh nl)) (Rep.tup upd_same (k2.mono (Ext.lay (u := .tup us) e1.gh nl).gg))⟩⟩
/-- int of a truth value or of an int -/
def toInt : PV → Int
  | .int i => i
  | .bl b => if b then 1 else 0
  | _ => 0
def isIB : PV → Bool
  | .int _ => true
  | .bl _ => true
  | _ => false
theorem xtoint (mg : X.mg "int" = none) (ha : PX X o ma a ga fa) (hg : Gl X "int" := by rfl) (hs : starEach [a] X.env = (false, eval a X.env) :: starEach [] X.env := by rfl) :
    PX X o .S (.Call (.Name "int" p) [a] [] pos) (fun ρ => ga ρ ∧ isIB (fa ρ) = true) (fun ρ => .int (toInt (fa ρ))) :=
  pe_imp (pe_callTy call_int1 hg mg boot_int (pa_cons ha pa_nil hs) (he := hs)) fun σ H Q => rd1 fun {ρ x G H G1 H1 Q} e1 rx h q => by
    cases q2 : fa ρ with
    | int i =>
      rw [q2] at rx q
      exact .inl ⟨i, by rw [rx.eqI rfl]; rfl, q _ _ _ e1 (Rep.int _)⟩
    | bl i =>
      rw [q2] at rx q
      exact .inr ⟨i, by rw [rx.eqB rfl]; rfl, q _ _ _ e1 (Rep.int _)⟩
    | _ =>
      rw [q2] at h
      cases h
/-! isinstance by a built-in class -/
def tyS : PV → String
  | .non => "NoneType"
  | .bl _ => "bool"
  | .int _ => "int"
  | .str _ => "str"
  | .list _ => "list"
  | .tup _ => "tuple"
  | .scr _ => "list"
  | .exc _ => "NoneType"
def inTyS (T a : String) : Bool := a == T || (a == "bool" && T == "int")
def inTy (T : String) (v : PV) : Bool := inTyS T (tyS v)
theorem kit_tbl {a T : String} (ha : a = "NoneType" ∨ a = "bool" ∨ a = "int" ∨ a = "str" ∨ a = "list" ∨ a = "tuple") (hT : T = "int" ∨ T = "bool" ∨ T = "list" ∨ T = "tuple") : kitB a T = some (inTyS T a) := by
  rcases ha with rfl | rfl | rfl | rfl | rfl | rfl <;> rcases hT with rfl | rfl | rfl | rfl <;> decide +kernel
theorem isi_core {K : PySem.W.Frag} {G H G1 H1 : Hp} {v : PV} {x : V} {T : String} (hT : T = "int" ∨ T = "bool" ∨ T = "list" ∨ T = "tuple") (s : Same G1 H1) (rx : Res ma K G H G1 H1 v x) :
    ∃ t, TyX K H1 x t ∧ PySem.W.kitOne K t (.type T) = some (inTy T v) := by
  have z := rx.all s
  cases z with
  | non => exact ⟨_, .base .non, kit_ty (kit_tbl (by simp) hT)⟩
  | bl b => exact ⟨_, .base (.bl b), kit_ty (kit_tbl (by simp) hT)⟩
  | int b => exact ⟨_, .base (.int b), kit_ty (kit_tbl (by simp) hT)⟩
  | str b => exact ⟨_, .base (.str b), kit_ty (kit_tbl (by simp) hT)⟩
  | list h _ => exact ⟨_, .base (.lst h), kit_ty (kit_tbl (by simp) hT)⟩
  | tup h _ => exact ⟨_, .base (.tup h), kit_ty (kit_tbl (by simp) hT)⟩
  | scr h =>
    rcases h with (h | ⟨o, h⟩) | ⟨o, its, n, h, c, _⟩
    · exact ⟨_, .base (.lst h), kit_ty (kit_tbl (by simp) hT)⟩
    · exact ⟨_, .base (.frz h), kit_ty (kit_tbl (by simp) hT)⟩
    · exact ⟨_, .kList h c, kit_ty (kit_tbl (by simp) hT)⟩
theorem xisi {T : Str} {T' : String} (mg : X.mg "isinstance" = none) (mgT : X.mg T = none) (bT : bootBuiltins T = some (.type T')) (ha : PX X o ma a ga fa) (hT : T' = "int" ∨ T' = "bool" ∨ T' = "list" ∨ T' = "tuple")
    (hnT : T ≠ "__name__" := by decide) (hdT : (T == ("__debug__" : Str)) = false := by decide) {pT : Pos}
    (hg : Gl X "isinstance" := by rfl) (hgT : Gl X T := by rfl) (hs : starEach [a, .Name T pT] X.env = (false, eval a X.env) :: starEach [.Name T pT] X.env := by rfl) (hs2 : starEach [.Name T pT] X.env = (false, eval (.Name T pT) X.env) :: starEach [] X.env := by rfl)
    (hpl : (backTo pos (starEach [.Name T pT] X.env)).any (·.1) = false := by rfl) :
    PX X o .S (.Call (.Name "isinstance" p) [a, .Name T pT] [] pos) ga (fun ρ => .bl (inTy T' (fa ρ))) :=
  pe_imp (pe_callB call_isi hg mg boot_isinstance (pa_cons ha (pa_cons (pe_bltn (v := .ty T') hgT mgT bT rfl hnT hdT) pa_nil hs2) hs) (he := hs) (hpl := hpl)) fun σ H Q ⟨G0, H0, ρ, G, r, h1, q⟩ => one r h1 fun x G1 H1 e1 r1 rx => by
    obtain ⟨t, k1, k2⟩ := isi_core hT e1.gh rx
    exact ⟨x, .ty T', t, .type T', _, rfl, .ty T', k1, k2, q _ _ _ e1 (Rep.bl _)⟩
end

/-! and, or, not -/
theorem wone {c : PEnv → Bool} (h : PXT X o e g c) : PXW X o (.BoolOp .And [e] pos) g c := pw_and1 h
theorem wone' {c : PEnv → Bool} (h : PXT X o e g c) : PXW X o (.BoolOp .Or [e] pos) g c := pw_or1 h
theorem wand {ca cb : PEnv → Bool} (ha : PXT X o a ga ca) (hb : PXW X o (.BoolOp .And (b :: es) pos) gb cb) : PXW X o (.BoolOp .And (a :: b :: es) pos) (fun ρ => ga ρ ∧ (ca ρ = true → gb ρ)) (fun ρ => ca ρ && cb ρ) :=
  pw_imp (pw_and ha hb) fun σ H Q ⟨G0, H0, ρ, G, r, ⟨h1, h2⟩, q⟩ => ⟨_, _, _, _, r, h1, fun G1 H1 e1 => by
    cases hc : ca ρ with
    | true =>
      rw [if_pos rfl]
      refine ⟨_, _, _, _, r.on e1, h2 hc, fun G2 H2 e2 => ?_⟩
      have z := q G2 H2 (e1.trans e2)
      dsimp only at z
      rw [hc] at z
      exact z
    | false =>
      rw [if_neg Bool.false_ne_true]
      have z := q G1 H1 e1
      dsimp only at z
      rw [hc] at z
      exact z⟩
theorem wor {ca cb : PEnv → Bool} (ha : PXT X o a ga ca) (hb : PXW X o (.BoolOp .Or (b :: es) pos) gb cb) : PXW X o (.BoolOp .Or (a :: b :: es) pos) (fun ρ => ga ρ ∧ (ca ρ = false → gb ρ)) (fun ρ => ca ρ || cb ρ) :=
  pw_imp (pw_or ha hb) fun σ H Q ⟨G0, H0, ρ, G, r, ⟨h1, h2⟩, q⟩ => ⟨_, _, _, _, r, h1, fun G1 H1 e1 => by
    cases hc : ca ρ with
    | false =>
      rw [if_neg Bool.false_ne_true]
      refine ⟨_, _, _, _, r.on e1, h2 hc, fun G2 H2 e2 => ?_⟩
      have z := q G2 H2 (e1.trans e2)
      dsimp only at z
      rw [hc] at z
      exact z
    | true =>
      rw [if_pos rfl]
      have z := q G1 H1 e1
      dsimp only at z
      rw [hc] at z
      exact z⟩
theorem yw {c : PEnv → Bool} (h : PXW X o e g c) : PXT X o e g c := PW.pt h
theorem ynot {c : PEnv → Bool} (h : PXT X o e g c) : PXT X o (.UnaryOp .Not e pos) g (fun ρ => !c ρ) :=
  pt_imp (pt_not h) fun σ H Q ⟨G0, H0, ρ, G, r, h1, q⟩ => ⟨_, _, _, _, r, h1, fun G1 H1 e1 => q G1 H1 e1⟩
/-- an expression that tells a truth value, as a test -/
theorem yval (h : PX X o m e g f) (he : ∀ whole, isTrue e X.env whole = (do let v ← whole; standAt e.pos; holding [v] (truthy v)) := by intro _; rfl) : PXT X o e (fun ρ => g ρ ∧ isB (f ρ) = true) (fun ρ => toB (f ρ)) :=
  pt_imp (pt_val h he) fun σ H Q ⟨G0, H0, ρ, G, r, ⟨h1, h2⟩, q⟩ => one r h1 fun x G1 H1 e1 r1 rx => ⟨_, rx.eqB h2, q G1 H1 e1⟩
/-- .. as values: each part a truth value -/
theorem xone {op : BoolOp} (h : PX X o m e g f) : PX X o m (.BoolOp op [e] pos) g f := pe_one h
theorem xand (ha : PX X o ma a ga fa) (hb : PX X o .S (.BoolOp .And (b :: es) pos) gb fb) : PX X o .S (.BoolOp .And (a :: b :: es) pos) (fun ρ => ga ρ ∧ isB (fa ρ) = true ∧ (toB (fa ρ) = true → gb ρ ∧ isB (fb ρ) = true)) (fun ρ => .bl (toB (fa ρ) && toB (fb ρ))) :=
  pe_imp (pe_and ha hb) fun σ H Q ⟨G0, H0, ρ, G, r, ⟨h1, h2, h3⟩, q⟩ => one r h1 fun x G1 H1 e1 r1 rx => ⟨_, rx.eqB h2, by
    cases hc : toB (fa ρ) with
    | true =>
      rw [if_pos rfl]
      obtain ⟨h4, h5⟩ := h3 hc
      refine ⟨_, _, _, _, r1, h4, fun u G2 H2 e2 hu => ?_⟩
      have z := q u G2 H2 (e1.trans e2)
      dsimp only at z
      rw [hc, Bool.true_and] at z
      have z2 := hu.eqB h5
      exact z (by rw [z2]; exact Rep.bl _)
    | false =>
      rw [if_neg Bool.false_ne_true]
      have z := q (.bl false) G1 H1 e1
      dsimp only at z
      rw [hc, Bool.false_and] at z
      exact z (Rep.bl _)⟩
theorem xor (ha : PX X o ma a ga fa) (hb : PX X o .S (.BoolOp .Or (b :: es) pos) gb fb) : PX X o .S (.BoolOp .Or (a :: b :: es) pos) (fun ρ => ga ρ ∧ isB (fa ρ) = true ∧ (toB (fa ρ) = false → gb ρ ∧ isB (fb ρ) = true)) (fun ρ => .bl (toB (fa ρ) || toB (fb ρ))) :=
  pe_imp (pe_or ha hb) fun σ H Q ⟨G0, H0, ρ, G, r, ⟨h1, h2, h3⟩, q⟩ => one r h1 fun x G1 H1 e1 r1 rx => ⟨_, rx.eqB h2, by
    cases hc : toB (fa ρ) with
    | false =>
      rw [if_neg Bool.false_ne_true]
      obtain ⟨h4, h5⟩ := h3 hc
      refine ⟨_, _, _, _, r1, h4, fun u G2 H2 e2 hu => ?_⟩
      have z := q u G2 H2 (e1.trans e2)
      dsimp only at z
      rw [hc, Bool.false_or] at z
      have z2 := hu.eqB h5
      exact z (by rw [z2]; exact Rep.bl _)
    | true =>
      rw [if_pos rfl]
      have z := q (.bl true) G1 H1 e1
      dsimp only at z
      rw [hc, Bool.true_or] at z
      exact z (Rep.bl _)⟩
theorem xnot (ha : PX X o ma a ga fa) : PX X o .S (.UnaryOp .Not a pos) (fun ρ => ga ρ ∧ isB (fa ρ) = true) (fun ρ => .bl (!toB (fa ρ))) :=
  pe_imp (pe_not ha) fun σ H Q ⟨G0, H0, ρ, G, r, ⟨h1, h2⟩, q⟩ => one r h1 fun x G1 H1 e1 r1 rx => ⟨_, rx.eqB h2, q _ _ _ e1 (Rep.bl _)⟩

/-! == at any depth -/
mutual
def pd : PV → PyData
  | .non => .none
  | .bl b => .bool b
  | .int i => .int i
  | .str x => .str x
  | .list xs => .list (pds xs)
  | .tup xs => .tuple (pds xs)
  | .scr ns => .list (ns.map PyData.int)
  | .exc _ => .none
def pds : List PV → List PyData
  | [] => []
  | x :: xs => pd x :: pds xs
end

theorem dpInts {K : PySem.W.Frag} {H : Hp} : ∀ (ns : List Int), DpAll K H (ns.map V.int) (ns.map PyData.int)
  | [] => .nil
  | n :: ns => .cons (.int n) (dpInts ns)
mutual
theorem Rep.dp {K : PySem.W.Frag} {H : Hp} : ∀ {v : PV} {u : V}, Rep K H v u → Dp K H u (pd v)
  | _, _, .non => .non
  | _, _, .bl b => .bl b
  | _, _, .int i => .int i
  | _, _, .str x => .str x
  | _, _, .list h r => .lst (SqL.of h) (Reps.dp r)
  | _, _, .tup h r => .tup (SqT.of h) (Reps.dp r)
  | _, _, .scr h => .lst h (dpInts _)
theorem Reps.dp {K : PySem.W.Frag} {H : Hp} : ∀ {v : List PV} {u : List V}, Reps K H v u → DpAll K H u (pds v)
  | _, _, .nil => .nil
  | _, _, .cons h r => .cons (Rep.dp h) (Reps.dp r)
end
def eqP (v w : PV) : Bool := PyData.eqv (pd v) (pd w)
def shP (v : PV) : Bool := SeqAt.shaped (pd v)
theorem xeq (hu : X.A.units + 64 < cLine) (ha : PX X o ma a ga fa) (hb : PX X o mb b gb fb) : PX X o .S (.Compare a [.Eq] [b] pos) (fun ρ => ga ρ ∧ gb ρ ∧ shP (fa ρ) = true ∧ shP (fb ρ) = true) (fun ρ => .bl (eqP (fa ρ) (fb ρ))) :=
  pe_imp (pe_cmpR (op_eqD hu) ha hb (nomark _)) fun σ H Q ⟨G0, H0, ρ, G, r, ⟨h1, h2, h3, h4⟩, q⟩ => two r h1 h2 fun x y G' H' e r' rx ry =>
    ⟨_, _, (rx.all e.gh).dp, (ry.all e.gh).dp, h3, h4, q _ G' H' e (Rep.bl _)⟩
theorem xne (hu : X.A.units + 64 < cLine) (ha : PX X o ma a ga fa) (hb : PX X o mb b gb fb) : PX X o .S (.Compare a [.NotEq] [b] pos) (fun ρ => ga ρ ∧ gb ρ ∧ shP (fa ρ) = true ∧ shP (fb ρ) = true) (fun ρ => .bl (!eqP (fa ρ) (fb ρ))) :=
  pe_imp (pe_cmpR (op_neD hu) ha hb (nomark _)) fun σ H Q ⟨G0, H0, ρ, G, r, ⟨h1, h2, h3, h4⟩, q⟩ => two r h1 h2 fun x y G' H' e r' rx ry =>
    ⟨_, _, (rx.all e.gh).dp, (ry.all e.gh).dp, h3, h4, q _ G' H' e (Rep.bl _)⟩
theorem yeq (hu : X.A.units + 64 < cLine) (ha : PX X o ma a ga fa) (hb : PX X o mb b gb fb) : PXT X o (.Compare a [.Eq] [b] pos) (fun ρ => ga ρ ∧ gb ρ ∧ shP (fa ρ) = true ∧ shP (fb ρ) = true) (fun ρ => eqP (fa ρ) (fb ρ)) :=
  pt_imp (pt_cmpR (op_eqD hu) ha hb (nomark _)) fun σ H Q => rd_tst fun σ H Q ⟨G0, H0, ρ, G, r, ⟨h1, h2, h3, h4⟩, q⟩ => two r h1 h2 fun x y G' H' e r' rx ry =>
    ⟨_, _, (rx.all e.gh).dp, (ry.all e.gh).dp, h3, h4, q _ G' H' e (Rep.bl _)⟩
theorem yne (hu : X.A.units + 64 < cLine) (ha : PX X o ma a ga fa) (hb : PX X o mb b gb fb) : PXT X o (.Compare a [.NotEq] [b] pos) (fun ρ => ga ρ ∧ gb ρ ∧ shP (fa ρ) = true ∧ shP (fb ρ) = true) (fun ρ => !eqP (fa ρ) (fb ρ)) :=
  pt_imp (pt_cmpR (op_neD hu) ha hb (nomark _)) fun σ H Q => rd_tst fun σ H Q ⟨G0, H0, ρ, G, r, ⟨h1, h2, h3, h4⟩, q⟩ => two r h1 h2 fun x y G' H' e r' rx ry =>
    ⟨_, _, (rx.all e.gh).dp, (ry.all e.gh).dp, h3, h4, q _ G' H' e (Rep.bl _)⟩
/-- is None -/
def isN : PV → Bool
  | .non => true
  | _ => false
theorem isN_of {K : PySem.W.Frag} {G : Hp} {v : PV} {x : V} (h : Rep K G v x) : decide (x = .non) = isN v := by
  cases h with
  | non => rfl
  | _ => exact decide_eq_false (fun z => by cases z)
theorem yisN {k : Nat} {p2 : Pos} (ha : PX X o ma a ga fa) : PXT X o (.Compare a [.Is] [.Constant .none k p2] pos) ga (fun ρ => isN (fa ρ)) :=
  pt_imp (pt_cmp (pc_isN ha)) fun σ H Q ⟨G0, H0, ρ, G, r, h1, q⟩ => one r h1 fun x G1 H1 e1 r1 rx => ⟨_, rfl, by
    rw [isN_of (rx.all e1.gh)]
    exact q G1 H1 e1⟩
end
/-! equality of plain data -/
mutual
def plain : PV → Bool
  | .non => true
  | .int _ => true
  | .str x => PyData.strOk x
  | .list xs => plains xs
  | .tup xs => plains xs
  | _ => false
def plains : List PV → Bool
  | [] => true
  | x :: xs => plain x && plains xs
end
mutual
theorem eqP_iff : ∀ (v w : PV), plain v = true → plain w = true → (eqP v w = true ↔ v = w)
  | .non, w, _, h => by cases w <;> simp [eqP, pd, PyData.eqv, plain] at h ⊢
  | .int i, w, _, h => by cases w <;> simp [eqP, pd, PyData.eqv, plain] at h ⊢
  | .str x, w, _, h => by cases w <;> simp [eqP, pd, PyData.eqv, plain] at h ⊢
  | .list xs, w, h1, h2 => by
    cases w with
    | list ys =>
      have z := eqPs_iff xs ys (by simpa [plain] using h1) (by simpa [plain] using h2)
      simp only [eqP, pd, PyData.eqv, PV.list.injEq]
      exact z
    | _ => simp [eqP, pd, PyData.eqv, plain] at h2 ⊢
  | .tup xs, w, h1, h2 => by
    cases w with
    | tup ys =>
      have z := eqPs_iff xs ys (by simpa [plain] using h1) (by simpa [plain] using h2)
      simp only [eqP, pd, PyData.eqv, PV.tup.injEq]
      exact z
    | _ => simp [eqP, pd, PyData.eqv, plain] at h2 ⊢
  | .bl b, _, h, _ => by simp [plain] at h
  | .scr b, _, h, _ => by simp [plain] at h
  | .exc b, _, h, _ => by simp [plain] at h
theorem eqPs_iff : ∀ (v w : List PV), plains v = true → plains w = true → (PyData.eqvAll (pds v) (pds w) = true ↔ v = w)
  | [], [], _, _ => by simp [pds, PyData.eqvAll]
  | [], y :: ys, _, _ => by simp [pds, PyData.eqvAll]
  | x :: xs, [], _, _ => by simp [pds, PyData.eqvAll]
  | x :: xs, y :: ys, h1, h2 => by
    simp only [plains, Bool.and_eq_true] at h1 h2
    have a := eqP_iff x y h1.1 h2.1
    have b := eqPs_iff xs ys h1.2 h2.2
    simp only [eqP] at a
    simp only [pds, PyData.eqvAll, Bool.and_eq_true, List.cons.injEq, a, b]
end
theorem eqP_dec {v w : PV} (h1 : plain v = true) (h2 : plain w = true) [d : Decidable (v = w)] : eqP v w = decide (v = w) := by
  have z := eqP_iff v w h1 h2
  cases q : eqP v w with
  | true => exact (decide_eq_true (z.mp q)).symm
  | false => exact (decide_eq_false fun k => by rw [z.mpr k] at q; cases q).symm
theorem eqP_self {v : PV} (h1 : plain v = true) : eqP v v = true := (eqP_iff v v h1 h1).mpr rfl
theorem eqP_ne {v w : PV} (h1 : plain v = true) (h2 : plain w = true) (h : v ≠ w) : eqP v w = false := by
  cases q : eqP v w with
  | true => exact absurd ((eqP_iff v w h1 h2).mp q) h
  | false => rfl
theorem plains_int (ns : List Int) : plains (ns.map PV.int) = true := by
  induction ns with
  | nil => rfl
  | cons n ns ih => simpa [plains, plain] using ih
/-! how deep a value is -/
mutual
def dep : PV → Nat
  | .list xs => deps xs + 1
  | .tup xs => deps xs + 1
  | .scr _ => 1
  | _ => 0
def deps : List PV → Nat
  | [] => 0
  | x :: xs => max (dep x) (deps xs)
end
theorem deps_int (ns : List Int) : deps (ns.map PV.int) = 0 := by
  induction ns with
  | nil => rfl
  | cons n ns ih => simpa [deps, dep] using ih
mutual
theorem lay_of : ∀ (v : PV), plain v = true → (pd v).canLay0 = true ∧ (pd v).depth = dep v
  | .non, _ => ⟨rfl, rfl⟩
  | .int _, _ => ⟨rfl, rfl⟩
  | .str x, h => ⟨h, rfl⟩
  | .list xs, h => by
    have z := lays_of xs h
    exact ⟨z.1, by show PyData.depthAll (pds xs) + 1 = deps xs + 1; rw [z.2]⟩
  | .tup xs, h => by
    have z := lays_of xs h
    exact ⟨z.1, by show PyData.depthAll (pds xs) + 1 = deps xs + 1; rw [z.2]⟩
  | .bl _, h => by simp [plain] at h
  | .scr _, h => by simp [plain] at h
  | .exc _, h => by simp [plain] at h
theorem lays_of : ∀ (v : List PV), plains v = true → PyData.canLayAll0 (pds v) = true ∧ PyData.depthAll (pds v) = deps v
  | [], _ => ⟨rfl, rfl⟩
  | x :: xs, h => by
    simp only [plains, Bool.and_eq_true] at h
    have a := lay_of x h.1
    have b := lays_of xs h.2
    refine ⟨?_, ?_⟩
    · show ((pd x).canLay0 && PyData.canLayAll0 (pds xs)) = true
      rw [a.1, b.1]
      rfl
    · show max (pd x).depth (PyData.depthAll (pds xs)) = max (dep x) (deps xs)
      rw [a.2, b.2]
end
theorem shP_of {v : PV} (h : plain v = true) (d : dep v ≤ 64) : shP v = true := by
  have z := lay_of v h
  unfold shP SeqAt.shaped
  rw [z.1, z.2, decide_eq_true d]
  rfl
theorem shP_bl (b : Bool) : shP (.bl b) = true := rfl
end PL

namespace PL
open PySem PySem.Spec PyProof.Rows L2

/-! what is walked -/
structure ItOk (K : PySem.W.Frag) (B G : Hp) (J : It) (its : List PV) : Prop where
  go : ∀ (i : Nat) (H : Hp), Same B H → i < its.length → J.go i H
  stop : ∀ (i : Nat) (H : Hp), Same B H → its.length ≤ i → J.stop i H
  yld : ∀ (i : Nat) (H : Hp) (x : V) (H' : Hp), Same B H → J.yld i H x H' → H' = H ∧ ∀ v, its[i]? = some v → Rep K G v x
theorem ItOk.base {K : PySem.W.Frag} {B B' G : Hp} {J : It} {its : List PV} (h : ItOk K B G J its) (s : Same B B') : ItOk K B' G J its :=
  ⟨fun i H q => h.go i H (s.trans q), fun i H q => h.stop i H (s.trans q), fun i H x H' q => h.yld i H x H' (s.trans q)⟩
def tI (K : PySem.W.Frag) (o : List Nat) (bb : Bool) (g : PEnv → Prop) (its : PEnv → List PV) : TI := fun σ H Rr => ∃ G0 H0 ρ G, R K o G0 H0 ρ σ G H ∧ g ρ ∧
  ∀ J G' H', Ext G H G' H' → ItOk K (if bb then H' else G') G' J (its ρ) → Rr J H'
abbrev PXI (X : Cx) (o : List Nat) (bb : Bool) (tg e : Expr) (g : PEnv → Prop) (its : PEnv → List PV) : Prop := PI X tg e (tI X.K o bb g its)
theorem pi_imp {X : Cx} {tg e : Expr} {t t' : TI} (h : PI X tg e t) (k : ∀ σ H Q, t' σ H Q → t σ H Q) : PI X tg e t' := ⟨fun pins s σ H Q I hw => h.run pins s σ H Q I (k σ H Q hw)⟩
theorem pi_or {X : Cx} {tg e : Expr} {t t' : TI} (h : PI X tg e t) (h' : PI X tg e t') : PI X tg e (fun σ H Q => t σ H Q ∨ t' σ H Q) :=
  ⟨fun pins s σ H Q I hw => hw.elim (fun q => h.run pins s σ H Q I q) fun q => h'.run pins s σ H Q I q⟩
section
variable {X : Cx} {o : List Nat} {m ma mb : Md} {tg e a b : Expr} {es : List Expr} {g ga gb gc ge : PEnv → Prop} {f fa fb fe : PEnv → PV} {fs its : PEnv → List PV} {pos : Pos}
theorem itl_ok {K : PySem.W.Frag} {B G : Hp} {a : Addr} {us : List V} {xs : List PV} (h : SqL K B a us) (r : Reps K G xs us) : ItOk K B G (Itl K a) xs where
  go := fun i H s hi => ⟨us, us[i]'(by rw [← r.length]; exact hi), s.seq h, List.getElem?_eq_getElem _⟩
  stop := fun i H s hi => ⟨us, s.seq h, by rw [← r.length]; exact hi⟩
  yld := fun i H x H' s y => ⟨y.1, fun v hv => by
    have e := y.2 us (s.seq h)
    obtain ⟨u, h1, h2⟩ := r.get hv
    rw [e] at h1
    cases h1
    exact h2⟩
theorem seqT {K : PySem.W.Frag} {H H' : Hp} {a : Addr} {us : List V} (s : Same H H') (h : SqT K H a us) : SqT K H' a us := by
  rcases h with (h | ⟨o, h⟩) | h
  · exact .inl (.inl (s _ _ h))
  · exact .inl (.inr ⟨o, s _ _ h⟩)
  · exact .inr h
theorem itt_ok {K : PySem.W.Frag} {B G : Hp} {a : Addr} {us : List V} {xs : List PV} (h : SqT K B a us) (r : Reps K G xs us) : ItOk K B G (Itt K a) xs where
  go := fun i H s hi => ⟨us, us[i]'(by rw [← r.length]; exact hi), seqT s h, List.getElem?_eq_getElem _⟩
  stop := fun i H s hi => ⟨us, seqT s h, by rw [← r.length]; exact hi⟩
  yld := fun i H x H' s y => ⟨y.1, fun v hv => by
    have e := y.2 us (seqT s h)
    obtain ⟨u, h1, h2⟩ := r.get hv
    rw [e] at h1
    cases h1
    exact h2⟩
/-- a list or a tuple that stands still -/
theorem xi (he : PX X o .S e ge fe) : PXI X o false tg e (fun ρ => ge ρ ∧ isSq (fe ρ) = true) (fun ρ => elems (fe ρ)) :=
  pi_imp (pi_or (pi_list he) (pi_tup he)) fun σ H Q ⟨G0, H0, ρ, G, r, ⟨h1, h2⟩, q⟩ => by
    by_cases ht : isT (fe ρ) = true
    · refine .inr (one r h1 fun x G1 H1 e1 r1 rx => ?_)
      have rx' : Res .S X.K G H G1 G1 (fe ρ) x := rx
      obtain ⟨p1, us, rfl, k1, k2⟩ := rx'.tup (Same.refl _) ht
      exact ⟨p1, rfl, ⟨us, seqT e1.gh k1⟩, q _ G1 H1 e1 (itt_ok k1 k2)⟩
    · have hl : isLS (fe ρ) = true := by
        cases q2 : fe ρ with
        | tup xs =>
          rw [q2] at ht
          exact absurd rfl ht
        | list xs => rfl
        | scr xs => rfl
        | _ =>
          rw [q2] at h2
          cases h2
      refine .inl (one r h1 fun x G1 H1 e1 r1 rx => ?_)
      have rx' : Res .S X.K G H G1 G1 (fe ρ) x := rx
      obtain ⟨p1, us, rfl, k1, k2⟩ := rx'.ls (Same.refl _) hl
      exact ⟨p1, rfl, ⟨us, e1.gh.seq k1⟩, q _ G1 H1 e1 (itl_ok k1 k2)⟩
/-- a list that is lent -/
theorem xiB (he : PX X o m e ge fe) : PXI X o true tg e (fun ρ => ge ρ ∧ isLS (fe ρ) = true) (fun ρ => elems (fe ρ)) :=
  pi_imp (pi_list he) fun σ H Q ⟨G0, H0, ρ, G, r, ⟨h1, h2⟩, q⟩ => one r h1 fun x G1 H1 e1 r1 rx => by
    obtain ⟨p1, us, rfl, k1, k2⟩ := rx.ls e1.gh h2
    exact ⟨p1, rfl, ⟨us, k1⟩, q _ G1 H1 e1 (itl_ok k1 k2)⟩
theorem xiW (h : PXI X o false tg e g its) : PXI X o true tg e g its :=
  pi_imp h fun σ H Q ⟨G0, H0, ρ, G, r, h1, q⟩ => ⟨_, _, _, _, r, h1, fun J G1 H1 e1 k => q J G1 H1 e1 (k.base e1.gh)⟩
/-! ranges -/
def rng (lo : Int) (n : Nat) : List PV := (List.range n).map fun (k : Nat) => PV.int (lo + (k : Int))
def rngD (hi : Int) (n : Nat) : List PV := (List.range n).map fun (k : Nat) => PV.int (hi - (k : Int))
theorem rng_len (lo : Int) (n : Nat) : (rng lo n).length = n := by simp [rng]
theorem rngD_len (lo : Int) (n : Nat) : (rngD lo n).length = n := by simp [rngD]
theorem rng_get {lo : Int} {n k : Nat} {v : PV} (h : (rng lo n)[k]? = some v) : k < n ∧ v = .int (lo + (k : Int)) := by
  unfold rng at h
  rw [List.getElem?_map] at h
  cases q : (List.range n)[k]? with
  | none =>
    rw [q] at h
    cases h
  | some j =>
    rw [q] at h
    obtain ⟨h1, h2⟩ := List.getElem?_eq_some_iff.mp q
    rw [List.getElem_range] at h2
    subst h2
    rw [List.length_range] at h1
    exact ⟨h1, (Option.some.inj h).symm⟩
theorem rngD_get {lo : Int} {n k : Nat} {v : PV} (h : (rngD lo n)[k]? = some v) : k < n ∧ v = .int (lo - (k : Int)) := by
  unfold rngD at h
  rw [List.getElem?_map] at h
  cases q : (List.range n)[k]? with
  | none =>
    rw [q] at h
    cases h
  | some j =>
    rw [q] at h
    obtain ⟨h1, h2⟩ := List.getElem?_eq_some_iff.mp q
    rw [List.getElem_range] at h2
    subst h2
    rw [List.length_range] at h1
    exact ⟨h1, (Option.some.inj h).symm⟩
theorem itr_ok {K : PySem.W.Frag} {B G : Hp} {lo : Int} {n : Nat} : ItOk K B G (Itr lo n) (rng lo n) where
  go := fun i H s hi => by rw [rng_len] at hi; exact hi
  stop := fun i H s hi => by rw [rng_len] at hi; exact hi
  yld := fun i H x H' s y => ⟨y.1, fun v hv => by
    obtain ⟨_, rfl⟩ := rng_get hv
    rw [y.2]
    exact .int _⟩
theorem itc_ok {K : PySem.W.Frag} {B G : Hp} {lo : Int} {n : Nat} : ItOk K B G (Itc lo (-1) n) (rngD lo n) where
  go := fun i H s hi => by rw [rngD_len] at hi; exact hi
  stop := fun i H s hi => by rw [rngD_len] at hi; exact hi
  yld := fun i H x H' s y => ⟨y.1, fun v hv => by
    obtain ⟨_, rfl⟩ := rngD_get hv
    rw [y.2]
    have e : lo + (i : Int) * -1 = lo - (i : Int) := by omega
    rw [e]
    exact .int _⟩
def inR (i : Int) : Prop := -(2 ^ 62) ≤ i ∧ i < 2 ^ 62
theorem inR_nat {n : Nat} (h : n < 2 ^ 62) : inR (n : Int) := ⟨by omega, by omega⟩
variable {p : Pos}
theorem xr1 (mg : X.mg "range" = none) (ha : PX X o ma a ga fa) (hg : Gl X "range" := by rfl) (hs : starEach [a] X.env = [(false, eval a X.env)] := by rfl) (hs1 : starEach [a] X.env = (false, eval a X.env) :: starEach [] X.env := by rfl) :
    PXI X o false tg (.Call (.Name "range" p) [a] [] pos) (fun ρ => ga ρ ∧ isI (fa ρ) = true ∧ inR (toI (fa ρ))) (fun ρ => rng 0 (toI (fa ρ)).toNat) :=
  pi_imp (pi_range1 hg mg (pa_cons ha pa_nil hs1) hs) fun σ H Q ⟨G0, H0, ρ, G, r, ⟨h1, h2, h3⟩, q⟩ => one r h1 fun x G1 H1 e1 r1 rx =>
    ⟨_, by rw [rx.eqI h2], h3.1, h3.2, q _ G1 H1 e1 itr_ok⟩
theorem xr2 (mg : X.mg "range" = none) (ha : PX X o ma a ga fa) (hb : PX X o mb b gb fb) (hg : Gl X "range" := by rfl) (hs : starEach [a, b] X.env = [(false, eval a X.env), (false, eval b X.env)] := by rfl) (hs2 : starEach [b] X.env = [(false, eval b X.env)] := by rfl)
    (hs3 : starEach [a, b] X.env = (false, eval a X.env) :: starEach [b] X.env := by rfl) (hs4 : starEach [b] X.env = (false, eval b X.env) :: starEach [] X.env := by rfl) :
    PXI X o false tg (.Call (.Name "range" p) [a, b] [] pos) (fun ρ => ga ρ ∧ gb ρ ∧ isI (fa ρ) = true ∧ isI (fb ρ) = true ∧ inR (toI (fa ρ)) ∧ inR (toI (fb ρ))) (fun ρ => rng (toI (fa ρ)) (toI (fb ρ) - toI (fa ρ)).toNat) :=
  pi_imp (pi_range2 hg mg (pa_cons ha (pa_cons hb pa_nil hs4) hs3) hs hs2) fun σ H Q ⟨G0, H0, ρ, G, r, ⟨h1, h2, h3, h4, h5, h6⟩, q⟩ => two r h1 h2 fun x y G1 H1 e1 r1 rx ry =>
    ⟨_, _, by rw [rx.eqI h3, ry.eqI h4], ⟨h5.1, h5.2, h6.1, h6.2⟩, q _ G1 H1 e1 itr_ok⟩
variable {c : Expr} {fc : PEnv → PV} {mc : Md}
/-- downwards by ones -/
theorem xr3 (mg : X.mg "range" = none) (ha : PX X o ma a ga fa) (hb : PX X o mb b gb fb) (hc : PX X o mc c gc fc) (hg : Gl X "range" := by rfl)
    (hs : starEach [a, b, c] X.env = (false, eval a X.env) :: starEach [b, c] X.env := by rfl) (hpl : (backTo pos (starEach [b, c] X.env)).any (·.1) = false := by rfl)
    (hs2 : starEach [b, c] X.env = (false, eval b X.env) :: starEach [c] X.env := by rfl) (hs3 : starEach [c] X.env = (false, eval c X.env) :: starEach [] X.env := by rfl) :
    PXI X o false tg (.Call (.Name "range" p) [a, b, c] [] pos) (fun ρ => ga ρ ∧ gb ρ ∧ gc ρ ∧ isI (fa ρ) = true ∧ isI (fb ρ) = true ∧ fc ρ = .int (-1) ∧ inR (toI (fa ρ)) ∧ inR (toI (fb ρ))) (fun ρ => rngD (toI (fa ρ)) (toI (fa ρ) - toI (fb ρ)).toNat) :=
  pi_imp (pi_range3 hg mg (pa_cons ha (pa_cons hb (pa_cons hc pa_nil hs3) hs2) hs) hs hpl) fun σ H Q ⟨G0, H0, ρ, G, r, ⟨h1, h2, h3, h4, h5, h6, h7, h8⟩, q⟩ => two r h1 h2 fun x y G1 H1 e1 r1 rx ry => one r1 h3 fun z G2 H2 e2 r2 rz =>
    ⟨toI (fa ρ), toI (fb ρ), -1, _, by
      rw [rx.eqI h4, ry.eqI h5]
      have z1 := rz.eqI (by rw [h6]; rfl)
      rw [h6] at z1
      rw [z1]
      rfl, RgC.neg h7.1 h7.2 h8.1 h8.2, q _ G2 H2 (e1.trans e2) itc_ok⟩

/-! comprehensions of one clause, the target a name -/
theorem R.setS {K : PySem.W.Frag} {G0 H0 G H : Hp} {ρ : PEnv} {σ : Sg} {i : Nat} {v : PV} {x : V} (r : R K o G0 H0 ρ σ G H) (h : Rep K G v x) : R K (o.filter fun j => decide (j ≠ i)) G0 H0 (ρ.set i (some v)) (σ.set i (some x)) G H where
  len := by rw [List.length_set, List.length_set, r.len]
  ext := r.ext
  sh := fun j w e hj => by
    by_cases hji : i = j
    · subst hji
      have hlt : i < ρ.length := by
        have := (List.getElem?_eq_some_iff.mp e).1
        rwa [List.length_set] at this
      rw [List.getElem?_set_self hlt] at e
      cases e
      exact ⟨x, List.getElem?_set_self (by rw [r.len]; exact hlt), h⟩
    · rw [List.getElem?_set_ne hji] at e
      rw [List.getElem?_set_ne hji]
      exact r.sh j w e fun z => hj (by simp [z, Ne.symm hji])
  ow := fun j w e hj => by
    have hj' : j ∈ o ∧ j ≠ i := by simpa using hj
    rw [List.getElem?_set_ne (Ne.symm hj'.2)] at e
    rw [List.getElem?_set_ne (Ne.symm hj'.2)]
    exact r.ow j w e hj'.1
  sep := fun j k w1 w2 q hj hk => by
    have hj' : j ∈ o ∧ j ≠ i := by simpa using hj
    have hk' : k ∈ o ∧ k ≠ i := by simpa using hk
    rw [List.getElem?_set_ne (Ne.symm hj'.2), List.getElem?_set_ne (Ne.symm hk'.2), List.getElem?_set_ne (Ne.symm hj'.2), List.getElem?_set_ne (Ne.symm hk'.2)]
    exact r.sep j k w1 w2 q hj'.1 hk'.1
theorem R.setS' {K : PySem.W.Frag} {G0 H0 G H : Hp} {ρ : PEnv} {σ : Sg} {i : Nat} {v : PV} {x : V} (ho : i ∉ o) (r : R K o G0 H0 ρ σ G H) (h : Rep K G v x) : R K o G0 H0 (ρ.set i (some v)) (σ.set i (some x)) G H :=
  (r.setS h).congr fun j => by
    rw [List.mem_filter]
    exact ⟨fun z => z.1, fun z => ⟨z, decide_eq_true fun e => ho (e ▸ z)⟩⟩
/-- the pure comprehension -/
def cmp (i : Nat) (c : PEnv → Bool) (f : PEnv → PV) (ρ : PEnv) : List PV → List PV
  | [] => []
  | v :: vs => if c (ρ.set i (some v)) then f (ρ.set i (some v)) :: cmp i c f ρ vs else cmp i c f ρ vs
theorem cmp_len (i : Nat) (c : PEnv → Bool) (f : PEnv → PV) (ρ : PEnv) : ∀ vs, (cmp i c f ρ vs).length ≤ vs.length
  | [] => Nat.le_refl _
  | v :: vs => by
    have ih := cmp_len i c f ρ vs
    unfold cmp
    split
    · simp only [List.length_cons]
      omega
    · simp only [List.length_cons]
      omega
theorem cmp_app (i : Nat) (c : PEnv → Bool) (f : PEnv → PV) (ρ : PEnv) (v : PV) : ∀ vs, cmp i c f ρ (vs ++ [v]) = cmp i c f ρ vs ++ (if c (ρ.set i (some v)) then [f (ρ.set i (some v))] else [])
  | [] => by
    show cmp i c f ρ [v] = _
    unfold cmp
    split <;> rfl
  | w :: vs => by
    show cmp i c f ρ (w :: (vs ++ [v])) = cmp i c f ρ (w :: vs) ++ _
    unfold cmp
    rw [cmp_app i c f ρ v vs]
    split <;> rfl
theorem cmp_all (i : Nat) (f : PEnv → PV) (ρ : PEnv) : ∀ vs, cmp i (fun _ => true) f ρ vs = vs.map fun v => f (ρ.set i (some v))
  | [] => rfl
  | v :: vs => by
    show f (ρ.set i (some v)) :: cmp i _ f ρ vs = _
    rw [cmp_all i f ρ vs]
    rfl
theorem take_one {xs : List PV} {k : Nat} {v : PV} (h : xs[k]? = some v) : xs.take (k + 1) = xs.take k ++ [v] := by
  rw [List.take_add_one, h]
  rfl
def tTs (K : PySem.W.Frag) (o : List Nat) (g : PEnv → Prop) (c : PEnv → Bool) : TT := tT K o g c
/-- the reading of a comprehension -/
theorem rd_lc {K : PySem.W.Frag} {i : Nat} {gi gt ge : PEnv → Prop} {its : PEnv → List PV} {c : PEnv → Bool} {f : PEnv → PV} {σ : Sg} {H : Hp} {Q : VK} (ho : i ∉ o)
    (q : tP K o .F (fun ρ => gi ρ ∧ (its ρ).length ≤ sizeLine ∧ ∀ v ∈ its ρ, gt (ρ.set i (some v)) ∧ (c (ρ.set i (some v)) = true → ge (ρ.set i (some v)))) (fun ρ => .list (cmp i c f ρ (its ρ))) σ H Q) :
    tLc (tI K o true gi its) (gName i) (tT K o gt c) (tP K o .S ge f) [i] σ H Q := by
  obtain ⟨G0, H0, ρ, G, r, ⟨h1, h2, h3⟩, q⟩ := q
  refine ⟨G0, H0, ρ, G, r, h1, fun J G1 H1 e1 ok D nD => ?_⟩
  have ok : ItOk K H1 G1 J (its ρ) := ok
  refine ⟨fun k m Hk => m = (its ρ).length - k ∧ k ≤ (its ρ).length ∧ ∃ Gk acc, Ext G1 H1 Gk Hk ∧ Gk D = none ∧ Hk D = some (.lst acc) ∧ Reps K Gk (cmp i c f ρ ((its ρ).take k)) acc,
    ⟨(its ρ).length, by omega, Nat.zero_le _, G1, [], Ext.new e1.gh nD, e1.gh.free nD, upd_same, .nil⟩, ?_⟩
  rintro k m Hk ⟨rfl, hk, Gk, acc, ek, nk, hD, ra⟩
  by_cases hlt : k < (its ρ).length
  · refine .inr ⟨ok.go k Hk ek.hh hlt, fun Hn => k + 1 ≤ (its ρ).length ∧ ∃ Gn acc, Ext G1 H1 Gn Hn ∧ Gn D = none ∧ Hn D = some (.lst acc) ∧ Reps K Gn (cmp i c f ρ ((its ρ).take (k + 1))) acc, fun Hn ⟨z1, z2⟩ => ⟨(its ρ).length - (k + 1), by omega, rfl, z1, z2⟩, fun x H' y => ?_⟩
    obtain ⟨rfl, y2⟩ := ok.yld k Hk x H' ek.hh y
    obtain ⟨v, hv⟩ : ∃ v, (its ρ)[k]? = some v := ⟨_, List.getElem?_eq_getElem hlt⟩
    have rv : Rep K Gk v x := (y2 v hv).mono ek.gg
    have rk : R K o G0 H0 ρ σ Gk H' := (r.on e1).on ek
    have rb : R K o G0 H0 (ρ.set i (some v)) ((wipe σ [i]).set i (some x)) Gk H' := by
      show R K o G0 H0 (ρ.set i (some v)) ((σ.set i none).set i (some x)) Gk H'
      rw [List.set_set]
      exact rk.setS' ho rv
    refine ⟨?_, ?_⟩
    · show (((σ.set i none).set i (some x)).set i none) = σ.set i none
      rw [List.set_set, List.set_set]
    · obtain ⟨g1, g2⟩ := h3 v (List.mem_of_getElem? hv)
      refine ⟨G0, H0, _, Gk, rb, g1, fun G3 H3 e3 => ?_⟩
      cases hc : c (ρ.set i (some v)) with
      | false =>
        rw [if_neg Bool.false_ne_true]
        refine ⟨hlt, G3, acc, ek.trans e3, e3.nw D _ hD nk, e3.hh _ _ hD, ?_⟩
        rw [take_one hv, cmp_app, hc, if_neg Bool.false_ne_true, List.append_nil]
        exact ra.mono e3.gg
      | true =>
        rw [if_pos rfl]
        refine ⟨G0, H0, _, G3, rb.on e3, g2 hc, fun u G4 H4 e4 hu => ?_⟩
        have e34 := e3.trans e4
        have hD4 := e34.hh _ _ hD
        have nD4 := e34.nw D _ hD nk
        have ra4 := ra.mono e34.gg
        refine ⟨acc, hD4, ?_, hlt, G4, acc ++ [u], ?_, nD4, upd_same, ?_⟩
        · rw [← ra.length]
          refine Nat.lt_of_le_of_lt (cmp_len _ _ _ _ _) ?_
          rw [List.length_take]
          omega
        · have e14 := ek.trans e34
          refine ⟨e14.gg, fun b z hb => ?_, fun b z hb => ?_, e14.nw⟩
          · rw [upd_ne (ne_of_none hb nD4)]
            exact e14.gh _ _ hb
          · rw [upd_ne (ne_of_none hb nD)]
            exact e14.hh _ _ hb
        · rw [take_one hv, cmp_app, hc, if_pos rfl]
          exact ra4.append (.cons hu .nil)
  · have ek' : k = (its ρ).length := by omega
    refine .inl ⟨ok.stop k Hk ek.hh (by omega), q _ Gk Hk (e1.trans ek) ⟨_, D, acc, rfl, rfl, e1.hh.free nD, nk, hD, ?_⟩⟩
    rw [ek', List.take_length] at ra
    exact ra
/-- no test -/
theorem tYes_of {K : PySem.W.Frag} {σ : Sg} {H : Hp} {Q : Bool → Hp → Prop} (q : tT K o (fun _ => True) (fun _ => true) σ H Q) : tYes σ H Q := by
  obtain ⟨G0, H0, ρ, G, r, _, q⟩ := q
  exact q G H (Ext.refl r.ext.gh)
theorem pts_imp {X : Cx} {ifs : List Expr} {t t' : TT} (h : PTs X ifs t) (k : ∀ σ H Q, t' σ H Q → t σ H Q) : PTs X ifs t' := ⟨fun pins s σ H Q I hw => h.run pins s σ H Q I (k σ H Q hw)⟩
abbrev PXTs (X : Cx) (o : List Nat) (ifs : List Expr) (g : PEnv → Prop) (c : PEnv → Bool) : Prop := PTs X ifs (tT X.K o g c)
theorem ts0 : PXTs X o [] (fun _ => True) (fun _ => true) := pts_imp pts_nil fun _ _ _ => tYes_of
theorem ts1 {c : PEnv → Bool} (h : PXT X o e g c) : PXTs X o [e] g c := pts_one h
section
variable {i : Nat} {x : Str} {px : Pos} {elt iter : Expr} {ifs : List Expr} {scope : Scope} {gi gt : PEnv → Prop} {cc : PEnv → Bool}
theorem xlc (i : Nat) (hc : X.calm = true) (hN : X.N.Nodup) (hi : PXI X o true (.Name x px) iter gi its) (ok : blkC X.N X.env.scope scope [(x, i)] = true)
    (hg : ∀ (s : Shared) (H : Hp) (C : Addr) (cl : List (Str × Addr)) (fp : List Addr), PG (X.blk s H scope (compEnvC scope cl C X.env) fp) (.Name x px) (gName i))
    (ht : ∀ (s : Shared) (H : Hp) (C : Addr) (cl : List (Str × Addr)) (fp : List Addr), PXTs (X.blk s H scope (compEnvC scope cl C X.env) fp) o ifs gt cc)
    (he : ∀ (s : Shared) (H : Hp) (C : Addr) (cl : List (Str × Addr)) (fp : List Addr), PX (X.blk s H scope (compEnvC scope cl C X.env) fp) o .S elt ge fe) (ho : i ∉ o := by decide) (hs : ∀ x, foldedSetIterable iter X.env x = pure x := by intro _; rfl) :
    PX X o .F (.ListComp elt [⟨.Name x px, iter, ifs, 0⟩] scope pos) (fun ρ => gi ρ ∧ (its ρ).length ≤ sizeLine ∧ ∀ v ∈ its ρ, gt (ρ.set i (some v)) ∧ (cc (ρ.set i (some v)) = true → ge (ρ.set i (some v)))) (fun ρ => .list (cmp i cc fe ρ (its ρ))) :=
  pe_imp (pe_lc hc hN hi (blkOk_by ok) hg ht he hs) fun _ _ _ => rd_lc ho
end
end

/-! calls of the text's own defs -/
def spF (K : PySem.W.Frag) (n : Nat) (rm : Md) (g : List PV → Prop) (f : List PV → PV) : Sp := fun vs H Q _ => ∃ G as, Same G H ∧ Reps K G as vs ∧ as.length = n ∧ g as ∧
  ∀ u G' H', Ext G H G' H' → Res rm K G H G' H' (f as) u → Q u H'
structure Cal (P : Program) (w : World) (K : PySem.W.Frag) (mg : Str → Option Value) (base : Heap) (x : Str) (k n : Nat) (rm : Md) (g : List PV → Prop) (f : List PV → PV) : Prop where
  ex : ∃ (fa : Addr) (fd : FuncData) (ps : List Str), FnOk P w K mg base CX0 k fa fd ps (spF K n rm g f) ∧ mg x = some (.ref fa) ∧ PySem.W.keepIn K (.ref fa) = true ∧ Binds K fd ps []
section
variable {X : Cx} {o : List Nat} {m rm : Md} {e : Expr} {es : List Expr} {g : List PV → Prop} {f : List PV → PV} {ga : PEnv → Prop} {fs : PEnv → List PV} {pos p : Pos} {k n : Nat} {x : Str}
theorem xcall (C : Cal X.prog X.w X.K X.mg X.base x k n rm g f) (hr : Room k X.A) (ha : PXA X o (e :: es) ga fs) (hg : Gl X x := by rfl) (hdb : (x == ("__debug__" : Str)) = false := by decide)
    (he : starEach (e :: es) X.env = (false, eval e X.env) :: starEach es X.env := by rfl) (hpl : (backTo pos (starEach es X.env)).any (·.1) = false := by rfl) :
    PX X o rm (.Call (.Name x p) (e :: es) [] pos) (fun ρ => ga ρ ∧ (fs ρ).length = n ∧ g (fs ρ)) (fun ρ => f (fs ρ)) := by
  obtain ⟨fa, fd, ps, F, hm, hk, hb⟩ := C.ex
  refine pe_imp (pe_call F hr hg hm hk hb .nil pass0 ha hdb he hpl) fun σ H Q ⟨G0, H0, ρ, G, r, ⟨h1, h2, h3⟩, q⟩ => ⟨_, _, _, _, r, h1, fun us G1 H1 e1 ru => ?_⟩
  show spF X.K n rm g f (us ++ []) H1 Q _
  rw [List.append_nil]
  exact ⟨G1, fs ρ, e1.gh, ru, h2, h3, fun u G2 H2 e2 hu => q u G2 H2 (e1.trans e2) (Res.from e1 hu)⟩
/-- lent arguments: what comes back holds no reference -/
theorem xcallB (C : Cal X.prog X.w X.K X.mg X.base x k n rm g f) (sc : ∀ as, isSc (f as) = true) (hr : Room k X.A) (ha : PXB X o (e :: es) ga fs) (hg : Gl X x := by rfl) (hdb : (x == ("__debug__" : Str)) = false := by decide)
    (he : starEach (e :: es) X.env = (false, eval e X.env) :: starEach es X.env := by rfl) (hpl : (backTo pos (starEach es X.env)).any (·.1) = false := by rfl) :
    PX X o .S (.Call (.Name x p) (e :: es) [] pos) (fun ρ => ga ρ ∧ (fs ρ).length = n ∧ g (fs ρ)) (fun ρ => f (fs ρ)) := by
  obtain ⟨fa, fd, ps, F, hm, hk, hb⟩ := C.ex
  refine pe_imp (pe_call F hr hg hm hk hb .nil pass0 ha hdb he hpl) fun σ H Q ⟨G0, H0, ρ, G, r, ⟨h1, h2, h3⟩, q⟩ => ⟨_, _, _, _, r, h1, fun us G1 H1 e1 ru => ?_⟩
  show spF X.K n rm g f (us ++ []) H1 Q _
  rw [List.append_nil]
  exact ⟨H1, fs ρ, Same.refl _, ru, h2, h3, fun u G2 H2 e2 hu => q u G1 H2 (e1.trans ⟨Same.refl _, e1.gh.trans e2.hh, e2.hh, fun _ _ _ h => h⟩) (hu.sc (sc _) G1)⟩
end
end PL

namespace PL
open PySem PySem.Spec PyProof.Rows L2

structure PEnds where
  nx : PEnv → Prop
  rt : PV → Prop
abbrev Phi := PEnds → PEnv → Prop
/-! pure programs, in short: what a part is worth (f, c, its) and what must hold for it (g) -/
structure PExp where
  g : PEnv → Prop
  f : PEnv → PV
structure PTst where
  g : PEnv → Prop
  c : PEnv → Bool
structure PArg where
  g : PEnv → Prop
  f : PEnv → List PV
structure POpt where
  g : PEnv → Prop
  f : PEnv → Option Int
structure PIt where
  g : PEnv → Prop
  its : PEnv → List PV
structure FS where
  g : List PV → Prop
  f : List PV → PV

abbrev eV (i : Nat) : PExp := ⟨fun ρ => gd ρ i = true, fun ρ => gv ρ i⟩
abbrev eI (n : Int) : PExp := ⟨fun _ => True, fun _ => .int n⟩
abbrev eB (b : Bool) : PExp := ⟨fun _ => True, fun _ => .bl b⟩
abbrev eN : PExp := ⟨fun _ => True, fun _ => .non⟩
abbrev eS (x : Str) : PExp := ⟨fun _ => True, fun _ => .str x⟩
abbrev eAdd (a b : PExp) : PExp := ⟨gI0 a.g b.g a.f b.f, fun ρ => .int (toI (a.f ρ) + toI (b.f ρ))⟩
abbrev eSub (a b : PExp) : PExp := ⟨gI0 a.g b.g a.f b.f, fun ρ => .int (toI (a.f ρ) - toI (b.f ρ))⟩
abbrev eMul (a b : PExp) : PExp := ⟨gI a.g b.g a.f b.f CMulW, fun ρ => .int (toI (a.f ρ) * toI (b.f ρ))⟩
abbrev eMulC (a b : PExp) : PExp := ⟨gI a.g b.g a.f b.f CMul, fun ρ => .int (toI (a.f ρ) * toI (b.f ρ))⟩
abbrev eMod (a b : PExp) : PExp := ⟨gI a.g b.g a.f b.f fun _ j => j ≠ 0, fun ρ => .int ((toI (a.f ρ)).fmod (toI (b.f ρ)))⟩
abbrev eDiv (a b : PExp) : PExp := ⟨gI a.g b.g a.f b.f CDivZ, fun ρ => .int ((toI (a.f ρ)).fdiv (toI (b.f ρ)))⟩
abbrev ePow (a b : PExp) : PExp := ⟨gI a.g b.g a.f b.f CPow, fun ρ => .int (toI (a.f ρ) ^ (toI (b.f ρ)).toNat)⟩
abbrev eNeg (a : PExp) : PExp := ⟨fun ρ => a.g ρ ∧ isI (a.f ρ) = true, fun ρ => .int (-(toI (a.f ρ)))⟩
abbrev eLt (a b : PExp) : PExp := ⟨gI0 a.g b.g a.f b.f, fun ρ => .bl (decide (toI (a.f ρ) < toI (b.f ρ)))⟩
abbrev eLe (a b : PExp) : PExp := ⟨gI0 a.g b.g a.f b.f, fun ρ => .bl (decide (toI (a.f ρ) ≤ toI (b.f ρ)))⟩
abbrev eGt (a b : PExp) : PExp := ⟨gI0 a.g b.g a.f b.f, fun ρ => .bl (decide (toI (b.f ρ) < toI (a.f ρ)))⟩
abbrev eGe (a b : PExp) : PExp := ⟨gI0 a.g b.g a.f b.f, fun ρ => .bl (decide (toI (b.f ρ) ≤ toI (a.f ρ)))⟩
abbrev eEqI (a b : PExp) : PExp := ⟨gI0 a.g b.g a.f b.f, fun ρ => .bl (decide (toI (a.f ρ) = toI (b.f ρ)))⟩
abbrev eNeI (a b : PExp) : PExp := ⟨gI0 a.g b.g a.f b.f, fun ρ => .bl (decide (toI (a.f ρ) ≠ toI (b.f ρ)))⟩
abbrev eEq (a b : PExp) : PExp := ⟨fun ρ => a.g ρ ∧ b.g ρ ∧ shP (a.f ρ) = true ∧ shP (b.f ρ) = true, fun ρ => .bl (eqP (a.f ρ) (b.f ρ))⟩
abbrev eNe (a b : PExp) : PExp := ⟨fun ρ => a.g ρ ∧ b.g ρ ∧ shP (a.f ρ) = true ∧ shP (b.f ρ) = true, fun ρ => .bl (!eqP (a.f ρ) (b.f ρ))⟩
abbrev cLt (a b : PExp) : PTst := ⟨gI0 a.g b.g a.f b.f, fun ρ => decide (toI (a.f ρ) < toI (b.f ρ))⟩
abbrev cLe (a b : PExp) : PTst := ⟨gI0 a.g b.g a.f b.f, fun ρ => decide (toI (a.f ρ) ≤ toI (b.f ρ))⟩
abbrev cGt (a b : PExp) : PTst := ⟨gI0 a.g b.g a.f b.f, fun ρ => decide (toI (b.f ρ) < toI (a.f ρ))⟩
abbrev cGe (a b : PExp) : PTst := ⟨gI0 a.g b.g a.f b.f, fun ρ => decide (toI (b.f ρ) ≤ toI (a.f ρ))⟩
abbrev cEqI (a b : PExp) : PTst := ⟨gI0 a.g b.g a.f b.f, fun ρ => decide (toI (a.f ρ) = toI (b.f ρ))⟩
abbrev cNeI (a b : PExp) : PTst := ⟨gI0 a.g b.g a.f b.f, fun ρ => decide (toI (a.f ρ) ≠ toI (b.f ρ))⟩
abbrev cEq (a b : PExp) : PTst := ⟨fun ρ => a.g ρ ∧ b.g ρ ∧ shP (a.f ρ) = true ∧ shP (b.f ρ) = true, fun ρ => eqP (a.f ρ) (b.f ρ)⟩
abbrev cNe (a b : PExp) : PTst := ⟨fun ρ => a.g ρ ∧ b.g ρ ∧ shP (a.f ρ) = true ∧ shP (b.f ρ) = true, fun ρ => !eqP (a.f ρ) (b.f ρ)⟩
abbrev cIsN (a : PExp) : PTst := ⟨a.g, fun ρ => isN (a.f ρ)⟩
abbrev cAnd (a b : PTst) : PTst := ⟨fun ρ => a.g ρ ∧ (a.c ρ = true → b.g ρ), fun ρ => a.c ρ && b.c ρ⟩
abbrev cOr (a b : PTst) : PTst := ⟨fun ρ => a.g ρ ∧ (a.c ρ = false → b.g ρ), fun ρ => a.c ρ || b.c ρ⟩
abbrev cNot (a : PTst) : PTst := ⟨a.g, fun ρ => !a.c ρ⟩
abbrev cVal (a : PExp) : PTst := ⟨fun ρ => a.g ρ ∧ isB (a.f ρ) = true, fun ρ => toB (a.f ρ)⟩
abbrev c0 : PTst := ⟨fun _ => True, fun _ => true⟩
abbrev eAnd (a b : PExp) : PExp := ⟨fun ρ => a.g ρ ∧ isB (a.f ρ) = true ∧ (toB (a.f ρ) = true → b.g ρ ∧ isB (b.f ρ) = true), fun ρ => .bl (toB (a.f ρ) && toB (b.f ρ))⟩
abbrev eOr (a b : PExp) : PExp := ⟨fun ρ => a.g ρ ∧ isB (a.f ρ) = true ∧ (toB (a.f ρ) = false → b.g ρ ∧ isB (b.f ρ) = true), fun ρ => .bl (toB (a.f ρ) || toB (b.f ρ))⟩
abbrev eNot (a : PExp) : PExp := ⟨fun ρ => a.g ρ ∧ isB (a.f ρ) = true, fun ρ => .bl (!toB (a.f ρ))⟩
abbrev a0 : PArg := ⟨fun _ => True, fun _ => []⟩
abbrev aC (e : PExp) (r : PArg) : PArg := ⟨fun ρ => e.g ρ ∧ r.g ρ, fun ρ => e.f ρ :: r.f ρ⟩
abbrev eTup (a : PArg) : PExp := ⟨fun ρ => a.g ρ ∧ (a.f ρ).length ≤ sizeLine, fun ρ => .tup (a.f ρ)⟩
abbrev eLst (a : PArg) : PExp := ⟨fun ρ => a.g ρ ∧ (a.f ρ).length ≤ sizeLine, fun ρ => .list (a.f ρ)⟩
abbrev eCat (a b : PExp) : PExp := ⟨fun ρ => a.g ρ ∧ b.g ρ ∧ isL (a.f ρ) = true ∧ isL (b.f ρ) = true ∧ (elems (a.f ρ)).length + (elems (b.f ρ)).length ≤ sizeLine, fun ρ => .list (elems (a.f ρ) ++ elems (b.f ρ))⟩
abbrev eIx (a b : PExp) : PExp := ⟨fun ρ => a.g ρ ∧ b.g ρ ∧ isSq (a.f ρ) = true ∧ isI (b.f ρ) = true ∧ (atI (elems (a.f ρ)) (toI (b.f ρ))).isSome = true, fun ρ => itAt (elems (a.f ρ)) (toI (b.f ρ))⟩
abbrev o0 : POpt := ⟨fun _ => True, fun _ => none⟩
abbrev oC (e : PExp) : POpt := ⟨fun ρ => e.g ρ ∧ isI (e.f ρ) = true, fun ρ => some (toI (e.f ρ))⟩
abbrev eCut (a : PExp) (l h : POpt) : PExp := ⟨fun ρ => a.g ρ ∧ l.g ρ ∧ h.g ρ ∧ isLS (a.f ρ) = true, fun ρ => .list (cutP (elems (a.f ρ)) (l.f ρ) (h.f ρ))⟩
abbrev eCutT (a : PExp) (l h : POpt) : PExp := ⟨fun ρ => a.g ρ ∧ l.g ρ ∧ h.g ρ ∧ isT (a.f ρ) = true ∧
  ¬ (HT.sIx (elems (a.f ρ)).length 0 (l.f ρ) = 0 ∧ HT.sIx (elems (a.f ρ)).length (elems (a.f ρ)).length (h.f ρ) = (elems (a.f ρ)).length), fun ρ => .tup (cutP (elems (a.f ρ)) (l.f ρ) (h.f ρ))⟩
abbrev eLen (a : PExp) : PExp := ⟨fun ρ => a.g ρ ∧ isSq (a.f ρ) = true, fun ρ => .int (elems (a.f ρ)).length⟩
abbrev eAbs (a : PExp) : PExp := ⟨fun ρ => a.g ρ ∧ isI (a.f ρ) = true, fun ρ => .int ((toI (a.f ρ)).natAbs : Int)⟩
abbrev eSum (a : PExp) : PExp := ⟨fun ρ => a.g ρ ∧ isLS (a.f ρ) = true ∧ allI (elems (a.f ρ)) = true, fun ρ => .int (toIs (elems (a.f ρ))).sum⟩
abbrev eMax (mx : List Int → Int) (a : PExp) : PExp := ⟨fun ρ => a.g ρ ∧ isLS (a.f ρ) = true ∧ allI (elems (a.f ρ)) = true ∧ 0 < (elems (a.f ρ)).length, fun ρ => .int (mx (toIs (elems (a.f ρ))))⟩
abbrev eMin (a b : PExp) : PExp := ⟨gI0 a.g b.g a.f b.f, fun ρ => .int (min (toI (a.f ρ)) (toI (b.f ρ)))⟩
abbrev eList (a : PExp) : PExp := ⟨fun ρ => a.g ρ ∧ isSq (a.f ρ) = true, fun ρ => .list (elems (a.f ρ))⟩
abbrev eTuple (a : PExp) : PExp := ⟨fun ρ => a.g ρ ∧ isSq (a.f ρ) = true, fun ρ => .tup (elems (a.f ρ))⟩
abbrev eToI (a : PExp) : PExp := ⟨fun ρ => a.g ρ ∧ isIB (a.f ρ) = true, fun ρ => .int (toInt (a.f ρ))⟩
abbrev eIsi (T : String) (a : PExp) : PExp := ⟨a.g, fun ρ => .bl (inTy T (a.f ρ))⟩
abbrev eCall (n : Nat) (F : FS) (a : PArg) : PExp := ⟨fun ρ => a.g ρ ∧ (a.f ρ).length = n ∧ F.g (a.f ρ), fun ρ => F.f (a.f ρ)⟩
abbrev iSq (e : PExp) : PIt := ⟨fun ρ => e.g ρ ∧ isSq (e.f ρ) = true, fun ρ => elems (e.f ρ)⟩
abbrev iLs (e : PExp) : PIt := ⟨fun ρ => e.g ρ ∧ isLS (e.f ρ) = true, fun ρ => elems (e.f ρ)⟩
abbrev iR1 (a : PExp) : PIt := ⟨fun ρ => a.g ρ ∧ isI (a.f ρ) = true ∧ inR (toI (a.f ρ)), fun ρ => rng 0 (toI (a.f ρ)).toNat⟩
abbrev iR2 (a b : PExp) : PIt := ⟨fun ρ => a.g ρ ∧ b.g ρ ∧ isI (a.f ρ) = true ∧ isI (b.f ρ) = true ∧ inR (toI (a.f ρ)) ∧ inR (toI (b.f ρ)), fun ρ => rng (toI (a.f ρ)) (toI (b.f ρ) - toI (a.f ρ)).toNat⟩
abbrev iR3 (a b c : PExp) : PIt := ⟨fun ρ => a.g ρ ∧ b.g ρ ∧ c.g ρ ∧ isI (a.f ρ) = true ∧ isI (b.f ρ) = true ∧ c.f ρ = .int (-1) ∧ inR (toI (a.f ρ)) ∧ inR (toI (b.f ρ)), fun ρ => rngD (toI (a.f ρ)) (toI (a.f ρ) - toI (b.f ρ)).toNat⟩
abbrev eLc (i : Nat) (it : PIt) (t : PTst) (e : PExp) : PExp := ⟨fun ρ => it.g ρ ∧ (it.its ρ).length ≤ sizeLine ∧ ∀ v ∈ it.its ρ, t.g (ρ.set i (some v)) ∧ (t.c (ρ.set i (some v)) = true → e.g (ρ.set i (some v))), fun ρ => .list (cmp i t.c e.f ρ (it.its ρ))⟩

abbrev pNil : Phi := fun E ρ => E.nx ρ
abbrev pSeq (a b : Phi) : Phi := fun E ρ => a ⟨b E, E.rt⟩ ρ
abbrev pNever : Phi := fun _ _ => False
abbrev pSet (i : Nat) (e : PExp) : Phi := fun E ρ => e.g ρ ∧ E.nx (ρ.set i (some (e.f ρ)))
abbrev pRet (e : PExp) : Phi := fun E ρ => e.g ρ ∧ E.rt (e.f ρ)
abbrev pRetO (i : Nat) : Phi := fun E ρ => gd ρ i = true ∧ E.rt (gv ρ i)
abbrev pIf (t : PTst) (a b : Phi) : Phi := fun E ρ => t.g ρ ∧ (t.c ρ = true → a E ρ) ∧ (t.c ρ = false → b E ρ)
abbrev pWhile (t : PTst) (a : Phi) : Phi := fun E ρ => ∃ W : Nat → PEnv → Prop, (∃ m, W m ρ) ∧ ∀ m ρ, W m ρ → t.g ρ ∧ (t.c ρ = true → a ⟨fun ρ' => ∃ m', m' < m ∧ W m' ρ', E.rt⟩ ρ) ∧ (t.c ρ = false → E.nx ρ)
abbrev pFor (i : Nat) (it : PIt) (a : Phi) : Phi := fun E ρ => it.g ρ ∧ ∃ W : Nat → PEnv → Prop, W 0 ρ ∧ (∀ k v ρ', (it.its ρ)[k]? = some v → W k ρ' → a ⟨W (k + 1), E.rt⟩ (ρ'.set i (some v))) ∧ (∀ ρ', W (it.its ρ).length ρ' → E.nx ρ')
abbrev pApp (i : Nat) (e : PExp) : Phi := fun E ρ => gd ρ i = true ∧ e.g ρ ∧ (elems (gv ρ i)).length < sizeLine ∧ E.nx (ρ.set i (some (.list (elems (gv ρ i) ++ [e.f ρ]))))
abbrev pPop (i : Nat) : Phi := fun E ρ => gd ρ i = true ∧ elems (gv ρ i) ≠ [] ∧ E.nx (ρ.set i (some (.list (elems (gv ρ i)).dropLast)))
abbrev pPut (i : Nat) (e j : PExp) : Phi := fun E ρ => e.g ρ ∧ gd ρ i = true ∧ j.g ρ ∧ isI (j.f ρ) = true ∧ (ixN (elems (gv ρ i)).length (toI (j.f ρ))).isSome = true ∧
  E.nx (ρ.set i (some (.list ((elems (gv ρ i)).set ((ixN (elems (gv ρ i)).length (toI (j.f ρ))).getD 0) (e.f ρ)))))
abbrev pPar (i j : Nat) (a b : PExp) : Phi := fun E ρ => a.g ρ ∧ b.g ρ ∧ E.nx ((ρ.set i (some (a.f ρ))).set j (some (b.f ρ)))
abbrev pUn3 (i j n : Nat) (e : PExp) : Phi := fun E ρ => e.g ρ ∧ isT (e.f ρ) = true ∧ ∃ v1 v2 v3, elems (e.f ρ) = [v1, v2, v3] ∧ E.nx (((ρ.set i (some v1)).set j (some v2)).set n (some v3))

def tS (K : PySem.W.Frag) (W : Str → Hp → Prop) (o o' : List Nat) (rm : Md) (φ : Phi) : TS := fun D σ H => ∃ G0 H0 ρ G E, R K o G0 H0 ρ σ G H ∧ φ E ρ ∧
  (∀ ρ' σ' G' H', Same G G' → R K o' G0 H0 ρ' σ' G' H' → E.nx ρ' → D.nx σ' H') ∧ ((∀ v u G' H', Ext G0 H0 G' H' → Res rm K G0 H0 G' H' v u → E.rt v → D.rt u H') ∧ ∀ c G' H', Ext G0 H0 G' H' → E.rt (.exc c) → W c H')
abbrev PSX (X : Cx) (W : Str → Hp → Prop) (o o' : List Nat) (rm : Md) (st : Stmt) (φ : Phi) : Prop := PS X st (tS X.K W o o' rm φ)
abbrev PSXs (X : Cx) (W : Str → Hp → Prop) (o o' : List Nat) (rm : Md) (st : List Stmt) (φ : Phi) : Prop := PSs X st (tS X.K W o o' rm φ)
theorem ps_imp {X : Cx} {st : Stmt} {t t' : TS} (h : PS X st t) (k : ∀ D σ H, t' D σ H → t D σ H) : PS X st t' := ⟨fun pins s σ H D I hw => h.run pins s σ H D I (k D σ H hw)⟩
theorem pss_imp {X : Cx} {st : List Stmt} {t t' : TS} (h : PSs X st t) (k : ∀ D σ H, t' D σ H → t D σ H) : PSs X st t' := ⟨fun pins s σ H D I hw => h.run pins s σ H D I (k D σ H hw)⟩
def del (i : Nat) (o : List Nat) : List Nat := o.filter fun j => decide (j ≠ i)
theorem mem_del {i j : Nat} {o : List Nat} : j ∈ del i o ↔ j ∈ o ∧ j ≠ i := by simp [del]

section
variable {K : PySem.W.Frag} {o o' : List Nat} {G0 H0 G H : Hp} {ρ : PEnv} {σ : Sg}
theorem R.freeze (r : R K o G0 H0 ρ σ G H) : ∀ l : List Nat, ∃ G', Same G G' ∧ R K (o.filter fun j => decide (j ∉ l)) G0 H0 ρ σ G' H
  | [] => ⟨G, Same.refl _, r.congr fun i => by simp⟩
  | i :: l => by
    obtain ⟨G1, s1, r1⟩ := r.freeze l
    obtain ⟨G2, s2, r2⟩ := r1.freeze1 i
    refine ⟨G2, s1.trans s2, r2.congr fun j => ?_⟩
    simp only [List.mem_filter, decide_eq_true_eq, List.mem_cons, not_or]
    exact ⟨fun z => ⟨z.1.1, z.2, z.1.2⟩, fun z => ⟨⟨z.1, z.2.2⟩, z.2.1⟩⟩
theorem R.weak (r : R K o G0 H0 ρ σ G H) (h : ∀ i ∈ o', i ∈ o) : ∃ G', Same G G' ∧ R K o' G0 H0 ρ σ G' H := by
  obtain ⟨G1, s1, r1⟩ := r.freeze (o.filter fun j => decide (j ∉ o'))
  refine ⟨G1, s1, r1.congr fun j => ?_⟩
  simp only [List.mem_filter, decide_eq_true_eq, not_and, Classical.not_not]
  exact ⟨fun z => z.2 z.1, fun z => ⟨h j z, fun _ => z⟩⟩
/-- a slot takes a fresh list -/
theorem R.setF {i : Nat} {v : PV} {x : V} {G1 H1 : Hp} (r : R K o G0 H0 ρ σ G H) (e : Ext G H G1 H1) (h : Res .F K G H G1 H1 v x) : R K (i :: del i o) G0 H0 (ρ.set i (some v)) (σ.set i (some x)) G1 H1 := by
  obtain ⟨xs, p, us, rfl, rfl, h3, h4, h5, h6⟩ := h
  have r1 := r.on e
  have np : ∀ (j : Nat) (w : PV), ρ[j]? = some (some w) → j ∈ o → σ[j]? ≠ some (some (.ref p)) := fun j w q hj z => by
    obtain ⟨ys, a, zs, k1, k2, k3, k4, k5, k6⟩ := r.ow j w q hj
    rw [k2] at z
    cases z
    rw [h3] at k5
    cases k5
  refine ⟨by rw [List.length_set, List.length_set, r.len], r1.ext, fun j w q hj => ?_, fun j w q hj => ?_, fun j k w1 w2 a hj hk hjk q1 q2 z1 z2 => ?_⟩
  · have hj' : j ≠ i ∧ j ∉ o := by
      simp only [List.mem_cons, mem_del, not_or, not_and] at hj
      exact ⟨hj.1, fun z => hj.2 z hj.1⟩
    rw [List.getElem?_set_ne (Ne.symm hj'.1)] at q
    rw [List.getElem?_set_ne (Ne.symm hj'.1)]
    exact r1.sh j w q hj'.2
  · by_cases hji : i = j
    · subst hji
      have hlt : i < ρ.length := by
        have := (List.getElem?_eq_some_iff.mp q).1
        rwa [List.length_set] at this
      rw [List.getElem?_set_self hlt] at q
      cases q
      exact ⟨xs, p, us, rfl, List.getElem?_set_self (by rw [r.len]; exact hlt), r.ext.hh.free h3, h4, h5, h6⟩
    · rw [List.getElem?_set_ne hji] at q
      rw [List.getElem?_set_ne hji]
      have hj2 : j ∈ o := by
        rcases List.mem_cons.mp hj with z | z
        · exact absurd z.symm hji
        · exact (mem_del.mp z).1
      exact r1.ow j w q hj2
  · by_cases hji : i = j
    · subst hji
      have hki : k ≠ i := fun z => hjk z.symm
      have hk2 : k ∈ o := by
        rcases List.mem_cons.mp hk with z | z
        · exact absurd z hki
        · exact (mem_del.mp z).1
      have hlt : i < ρ.length := by
        have := (List.getElem?_eq_some_iff.mp q1).1
        rwa [List.length_set] at this
      rw [List.getElem?_set_self (by rw [r.len]; exact hlt)] at z1
      cases z1
      rw [List.getElem?_set_ne (Ne.symm hki)] at q2 z2
      exact np k w2 q2 hk2 z2
    · have hj2 : j ∈ o := by
        rcases List.mem_cons.mp hj with z | z
        · exact absurd z.symm hji
        · exact (mem_del.mp z).1
      rw [List.getElem?_set_ne hji] at q1 z1
      by_cases hki : i = k
      · subst hki
        have hlt : i < ρ.length := by
          have := (List.getElem?_eq_some_iff.mp q2).1
          rwa [List.length_set] at this
        rw [List.getElem?_set_self (by rw [r.len]; exact hlt)] at z2
        cases z2
        exact np j w1 q1 hj2 z1
      · have hk2 : k ∈ o := by
          rcases List.mem_cons.mp hk with z | z
          · exact absurd z.symm hki
          · exact (mem_del.mp z).1
        rw [List.getElem?_set_ne hki] at q2 z2
        exact r.sep j k w1 w2 a hj2 hk2 hjk q1 q2 z1 z2
/-- an owned list is changed -/
theorem R.mut {i : Nat} {v : PV} {p : Addr} {xs : List PV} {us : List V} (r : R K o G0 H0 ρ σ G H) (hv : ρ[i]? = some (some v)) (hi : i ∈ o) (hp : σ[i]? = some (some (.ref p))) (hu : Reps K G xs us) :
    R K o G0 H0 (ρ.set i (some (.list xs))) σ G (upd H p (.lst us)) := by
  obtain ⟨ys, a, zs, k1, k2, k3, k4, k5, k6⟩ := r.ow i v hv hi
  rw [hp] at k2
  cases k2
  have hlt : i < ρ.length := (List.getElem?_eq_some_iff.mp hv).1
  refine ⟨by rw [List.length_set, r.len], ⟨r.ext.gg, fun b z e => ?_, fun b z e => ?_, r.ext.nw⟩, fun j w q hj => ?_, fun j w q hj => ?_, fun j k w1 w2 b hj hk hjk q1 q2 z1 z2 => ?_⟩
  · rw [upd_ne (ne_of_none e k4)]
    exact r.ext.gh _ _ e
  · rw [upd_ne (ne_of_none e k3)]
    exact r.ext.hh _ _ e
  · have hji : i ≠ j := fun z => hj (z ▸ hi)
    rw [List.getElem?_set_ne hji] at q
    exact r.sh j w q hj
  · by_cases hji : i = j
    · subst hji
      rw [List.getElem?_set_self hlt] at q
      cases q
      exact ⟨xs, p, us, rfl, hp, k3, k4, upd_same, hu⟩
    · rw [List.getElem?_set_ne hji] at q
      obtain ⟨ys', a', zs', j1, j2, j3, j4, j5, j6⟩ := r.ow j w q hj
      have ne : a' ≠ p := fun z => by
        subst z
        exact r.sep i j v w a' hi hj hji hv q hp j2
      exact ⟨ys', a', zs', j1, j2, j3, j4, by rw [upd_ne ne]; exact j5, j6⟩
  · have g1 : ∃ w, ρ[j]? = some (some w) := by
      by_cases hji : i = j
      · subst hji
        exact ⟨_, hv⟩
      · rw [List.getElem?_set_ne hji] at q1
        exact ⟨_, q1⟩
    have g2 : ∃ w, ρ[k]? = some (some w) := by
      by_cases hji : i = k
      · subst hji
        exact ⟨_, hv⟩
      · rw [List.getElem?_set_ne hji] at q2
        exact ⟨_, q2⟩
    obtain ⟨w3, g1⟩ := g1
    obtain ⟨w4, g2⟩ := g2
    exact r.sep j k w3 w4 b hj hk hjk g1 g2 z1 z2
end

section
variable {X : Cx} {W : Str → Hp → Prop} {o o1 o2 o' : List Nat} {m rm : Md} {st : Stmt} {sts : List Stmt} {φ φ1 φ2 : Phi} {e a b c : Expr} {g ga gb ge : PEnv → Prop} {f fa fb fe : PEnv → PV} {cc : PEnv → Bool} {pos p' : Pos}
/-! blocks -/
theorem z0 : PSXs X W o o rm [] pNil := pss_imp pss_nil fun D σ H ⟨G0, H0, ρ, G, E, r, h, k, _⟩ => k ρ σ G H (Same.refl _) r h
theorem zc (h1 : PSX X W o o1 rm st φ1) (h2 : PSXs X W o1 o2 rm sts φ2) : PSXs X W o o2 rm (st :: sts) (pSeq φ1 φ2) :=
  pss_imp (pss_cons h1 h2) fun D σ H ⟨G0, H0, ρ, G, E, r, h, k, l⟩ => ⟨G0, H0, ρ, G, ⟨φ2 E, E.rt⟩, r, h, fun ρ' σ' G' H' s' r' q => ⟨G0, H0, ρ', G', E, r', q, fun ρ2 σ2 G2 H2 s2 r2 q2 => k ρ2 σ2 G2 H2 (s'.trans s2) r2 q2, l⟩, l⟩
theorem z1 (h1 : PSX X W o o1 rm st φ1) : PSXs X W o o1 rm [st] φ1 := pss_imp (pss_one h1) fun _ _ _ h => h
/-- lists given out of hand ahead of a block, behind it -/
theorem zf (o1 : List Nat) (h : PSXs X W o1 o2 rm sts φ) (s : ∀ i ∈ o1, i ∈ o := by decide) : PSXs X W o o2 rm sts φ := pss_imp h fun D σ H ⟨G0, H0, ρ, G, E, r, h, k, l⟩ =>
  let ⟨G', sG, r'⟩ := r.weak s; ⟨G0, H0, ρ, G', E, r', h, fun ρ2 σ2 G2 H2 s2 r2 q2 => k ρ2 σ2 G2 H2 (sG.trans s2) r2 q2, l⟩
theorem zw (h : PSXs X W o o1 rm sts φ) (s : ∀ i ∈ o2, i ∈ o1 := by decide) : PSXs X W o o2 rm sts φ := pss_imp h fun D σ H ⟨G0, H0, ρ, G, E, r, h, k, l⟩ =>
  ⟨G0, H0, ρ, G, E, r, h, fun ρ2 σ2 G2 H2 s2 r2 q2 => let ⟨G3, s3, r3⟩ := r2.weak s; k ρ2 σ2 G3 H2 (s2.trans s3) r3 q2, l⟩
theorem znever : PSXs X W o o' rm sts pNever := pss_imp pss_never fun D σ H ⟨G0, H0, ρ, G, E, r, h, _⟩ => h
theorem snever : PSX X W o o' rm st pNever := ps_imp ps_never fun D σ H ⟨G0, H0, ρ, G, E, r, h, _⟩ => h
/-! statements -/
theorem spass : PSX X W o o rm (.Pass pos) pNil := ps_imp ps_pass fun D σ H ⟨G0, H0, ρ, G, E, r, h, k, _⟩ => k ρ σ G H (Same.refl _) r h
section
variable {i : Nat} {x : Str}
theorem sset (i : Nat) (he : PX X o .S e g f) (hN : X.N.Nodup) (hi : X.N[i]? = some x := by rfl) (hx : Loc X.env.scope x := by first | exact Or.inl rfl | exact Or.inr rfl) (hs : swapsWith e (some (.Name x p')) pos.line X.env = pure false := by rfl)
    (hf : X.fn x = true ∨ X.env.scope.names.lookup x = some .local := by first | exact .inl rfl | exact .inr rfl) : PSX X W o (del i o) rm (.Assign [.Name x p'] e pos) (pSet i ⟨g, f⟩) :=
  ps_imp (ps_set hN hi hx he hs hf) fun D σ H ⟨G0, H0, ρ, G, E, r, ⟨h1, h2⟩, k, l⟩ => one r h1 fun u G1 H1 e1 r1 ru => k _ _ G1 H1 e1.gg (r1.setS ru) h2
theorem ssetF (i : Nat) (he : PX X o .F e g f) (hN : X.N.Nodup) (hi : X.N[i]? = some x := by rfl) (hx : Loc X.env.scope x := by first | exact Or.inl rfl | exact Or.inr rfl) (hs : swapsWith e (some (.Name x p')) pos.line X.env = pure false := by rfl)
    (hf : X.fn x = true ∨ X.env.scope.names.lookup x = some .local := by first | exact .inl rfl | exact .inr rfl) : PSX X W o (i :: del i o) rm (.Assign [.Name x p'] e pos) (pSet i ⟨g, f⟩) :=
  ps_imp (ps_set hN hi hx he hs hf) fun D σ H ⟨G0, H0, ρ, G, E, r, ⟨h1, h2⟩, k, l⟩ => ⟨_, _, _, _, r, h1, fun u G1 H1 e1 ru => k _ _ G1 H1 e1.gg (r.setF e1 ru) h2⟩
theorem sret (he : PX X o .S e g f) : PSX X W o o' .S (.Return (some e) pos) (pRet ⟨g, f⟩) :=
  ps_imp (ps_ret he) fun D σ H ⟨G0, H0, ρ, G, E, r, ⟨h1, h2⟩, k, l⟩ => one r h1 fun u G1 H1 e1 r1 ru => l.1 _ u G1 H1 (r.ext.trans e1) ru h2
theorem sretF (he : PX X o .F e g f) : PSX X W o o' .F (.Return (some e) pos) (pRet ⟨g, f⟩) :=
  ps_imp (ps_ret he) fun D σ H ⟨G0, H0, ρ, G, E, r, ⟨h1, h2⟩, k, l⟩ => one r h1 fun u G1 H1 e1 r1 ru => l.1 _ u G1 H1 (r.ext.trans e1) (Res.from r.ext ru) h2
theorem sretO (i : Nat) {pn : Pos} (ho : i ∈ o := by decide) (hN : X.N[i]? = some x := by rfl) (hv : Vis X.env.scope x := by first | exact Or.inl rfl | exact Or.inr (Or.inl rfl) | exact Or.inr (Or.inr rfl))
    (hd : (x == ("__debug__" : Str)) = false := by decide) (hcd : (x == ("__classdict__" : Str)) = false := by decide) : PSX X W o o' .F (.Return (some (.Name x pn)) pos) (pRetO i) :=
  ps_imp (ps_ret (pe_var hN hv hd hcd)) fun D σ H ⟨G0, H0, ρ, G, E, r, ⟨h1, h2⟩, k, l⟩ => by
    obtain ⟨xs, a, us, k1, k2, k3, k4, k5, k6⟩ := r.ow i _ (gd_some h1) ho
    exact ⟨.ref a, k2, l.1 _ _ G H r.ext ⟨xs, a, us, k1, rfl, k3, k4, k5, k6⟩ h2⟩
theorem sif {sa sb : List Stmt} (hc : PXT X o c g cc) (ha : PSXs X W o o' rm sa φ1) (hb : PSXs X W o o' rm sb φ2) : PSX X W o o' rm (.If c sa sb pos) (pIf ⟨g, cc⟩ φ1 φ2) :=
  ps_imp (ps_if hc ha hb) fun D σ H ⟨G0, H0, ρ, G, E, r, ⟨h1, h2, h3⟩, k, l⟩ => ⟨G0, H0, ρ, G, r, h1, fun G1 H1 e1 => by
    cases hcc : cc ρ with
    | true =>
      rw [if_pos rfl]
      exact ⟨G0, H0, ρ, G1, E, r.on e1, h2 hcc, fun ρ2 σ2 G2 H2 s2 r2 q2 => k ρ2 σ2 G2 H2 (e1.gg.trans s2) r2 q2, l⟩
    | false =>
      rw [if_neg Bool.false_ne_true]
      exact ⟨G0, H0, ρ, G1, E, r.on e1, h3 hcc, fun ρ2 σ2 G2 H2 s2 r2 q2 => k ρ2 σ2 G2 H2 (e1.gg.trans s2) r2 q2, l⟩⟩
theorem swhile (hp : PassesOwn (model X.prog X.w) X.A X.env X.xe) (hc : PXT X o c g cc) (hb : PSXs X W o o rm sts φ) : PSX X W o o rm (.While c sts [] pos)
    (pWhile ⟨g, cc⟩ φ) :=
  ps_imp (ps_while hp hc hb) fun D σ H ⟨G0, H0, ρ, G, E, r, ⟨W, ⟨m0, w0⟩, turn⟩, k, l⟩ => by
    refine ⟨fun m σ H => ∃ ρ G1, Same G G1 ∧ R X.K o G0 H0 ρ σ G1 H ∧ W m ρ, ⟨m0, ρ, G, Same.refl _, r, w0⟩, ?_⟩
    rintro m σ1 H1 ⟨ρ1, G1, s1, r1, w1⟩
    obtain ⟨h1, h2, h3⟩ := turn m ρ1 w1
    refine ⟨G0, H0, ρ1, G1, r1, h1, fun G2 H2 e2 => ?_⟩
    cases hcc : cc ρ1 with
    | true =>
      rw [if_pos rfl]
      exact ⟨fun σ' H' => ∃ m', m' < m ∧ ∃ ρ G1, Same G G1 ∧ R X.K o G0 H0 ρ σ' G1 H' ∧ W m' ρ, fun σ' H' z => z, G0, H0, ρ1, G2, _, r1.on e2, h2 hcc, fun ρ3 σ3 G3 H3 s3 r3 ⟨m', q1, q2⟩ => ⟨m', q1, ρ3, G3, s1.trans (e2.gg.trans s3), r3, q2⟩, l⟩
    | false =>
      rw [if_neg Bool.false_ne_true]
      exact k ρ1 σ1 G2 H2 (s1.trans e2.gg) (r1.on e2) (h3 hcc)
variable {its : PEnv → List PV} {iter : Expr} {px : Pos}
theorem sfor (i : Nat) (hp : PassesOwn (model X.prog X.w) X.A X.env X.xe) (hc : X.calm = true) (hN : X.N.Nodup) (hi : PXI X o false (.Name x px) iter g its) (hb : PSXs X W o o rm sts φ) (ho : i ∉ o := by decide) (hix : X.N[i]? = some x := by rfl)
    (hx : Loc X.env.scope x := by first | exact Or.inl rfl | exact Or.inr rfl) (hf : X.fn x = true ∨ X.env.scope.names.lookup x = some .local := by first | exact .inl rfl | exact .inr rfl) (hs : ∀ x, foldedSetIterable iter X.env x = pure x := by intro _; rfl) :
    PSX X W o o rm (.For (.Name x px) iter sts [] pos) (pFor i ⟨g, its⟩ φ) :=
  ps_imp (ps_for hp hc hi (pg_name hN hix hx hf) hb hs) fun D σ H ⟨G0, H0, ρ, G, E, r, ⟨h1, W, w0, turn, done⟩, k, l⟩ => by
    refine ⟨G0, H0, ρ, G, r, h1, fun J G1 H1 e1 ok => ?_⟩
    have ok : ItOk X.K G1 G1 J (its ρ) := ok
    refine ⟨fun j m σ' H' => m = (its ρ).length - j ∧ j ≤ (its ρ).length ∧ ∃ ρ' G', Same G1 G' ∧ R X.K o G0 H0 ρ' σ' G' H' ∧ W j ρ', ⟨_, rfl, Nat.zero_le _, ρ, G1, Same.refl _, r.on e1, w0⟩, ?_⟩
    rintro j m σ2 H2 ⟨rfl, hj, ρ2, G2, s2, r2, w2⟩
    have sB : Same G1 H2 := s2.trans r2.ext.gh
    by_cases hlt : j < (its ρ).length
    · refine .inr ⟨ok.go j H2 sB hlt, fun σ' H' => j + 1 ≤ (its ρ).length ∧ ∃ ρ' G', Same G1 G' ∧ R X.K o G0 H0 ρ' σ' G' H' ∧ W (j + 1) ρ', fun σ' H' ⟨z1, z2⟩ => ⟨(its ρ).length - (j + 1), by omega, rfl, z1, z2⟩, fun u H' y => ?_⟩
      obtain ⟨rfl, y2⟩ := ok.yld j H2 u H' sB y
      obtain ⟨v, hv⟩ : ∃ v, (its ρ)[j]? = some v := ⟨_, List.getElem?_eq_getElem hlt⟩
      have ru : Rep X.K G2 v u := (y2 v hv).mono s2
      exact ⟨G0, H0, _, G2, _, r2.setS' ho ru, turn j v ρ2 hv w2, fun ρ3 σ3 G3 H3 s3 r3 q3 => ⟨hlt, ρ3, G3, s2.trans s3, r3, q3⟩, l⟩
    · have ej : j = (its ρ).length := by omega
      subst ej
      exact .inl ⟨ok.stop _ H2 sB (Nat.le_refl _), k ρ2 σ2 G2 H2 (e1.gg.trans s2) r2 (done ρ2 w2)⟩
/-- x.append(e) of a list in hand -/
theorem sapp (i : Nat) {pn ap cp : Pos} (he : PX X o .S e g f) (ho : i ∈ o := by decide) (hN : X.N[i]? = some x := by rfl) (hv : Vis X.env.scope x := by first | exact Or.inl rfl | exact Or.inr (Or.inl rfl) | exact Or.inr (Or.inr rfl))
    (hd : (x == ("__debug__" : Str)) = false := by decide) (hcd : (x == ("__classdict__" : Str)) = false := by decide)
    (hbase : attributeBase (.Name x pn) "append" X.env (eval (.Name x pn) X.env) = eval (.Name x pn) X.env := by rfl)
    (hfew : ((backTo cp (starEach [e] X.env)).all (fun x => !x.1) && (backToKw cp (keywordEach [] X.env)).all (fun x => x.1.isSome)
      && decide ([e].length + ([] : List Keyword).length + (if ([] : List Keyword).isEmpty then 0 else 1) < 30)) = true := by rfl)
    (hline : (ap.endLine == cp.line) = true := by rfl) (hs : starEach [e] X.env = (false, eval e X.env) :: starEach [] X.env := by rfl) :
    PSX X W o o rm (.Expr (.Call (.Attribute (.Name x pn) "append" ap) [e] [] cp) pos) (pApp i ⟨g, f⟩) :=
  ps_imp (ps_expr (pe_bm PySem.F.plainAttrs_list PySem.F.slot_list_append PySem.F.type_list_append mt_append (pe_var hN hv hd hcd) (pa_cons he pa_nil hs) hbase hfew hline hs)) fun D σ H ⟨G0, H0, ρ, G, E, r, ⟨h1, h2, h3, h4⟩, k, l⟩ => by
    obtain ⟨xs, a, us, k1, k2, k3, k4, k5, k6⟩ := r.ow i _ (gd_some h1) ho
    refine ⟨.ref a, k2, .inl ⟨rfl, us, SqL.of k5⟩, G0, H0, ρ, G, r, h2, fun u G1 H1 e1 ru => ?_⟩
    have hH1 := e1.hh _ _ k5
    rw [k1] at h3 h4
    refine ⟨a, us, u, rfl, rfl, hH1, by rw [← k6.length]; exact h3, ?_⟩
    exact k _ _ G1 _ e1.gg ((r.on e1).mut (gd_some h1) ho k2 ((k6.mono e1.gg).append (.cons ru .nil))) h4
/-- x.pop() of a list in hand, its value dropped -/
theorem spop (i : Nat) {pn ap cp : Pos} (ho : i ∈ o := by decide) (hN : X.N[i]? = some x := by rfl) (hv : Vis X.env.scope x := by first | exact Or.inl rfl | exact Or.inr (Or.inl rfl) | exact Or.inr (Or.inr rfl))
    (hd : (x == ("__debug__" : Str)) = false := by decide) (hcd : (x == ("__classdict__" : Str)) = false := by decide)
    (hbase : attributeBase (.Name x pn) "pop" X.env (eval (.Name x pn) X.env) = eval (.Name x pn) X.env := by rfl) (hline : (ap.endLine == cp.line) = true := by rfl) :
    PSX X W o o rm (.Expr (.Call (.Attribute (.Name x pn) "pop" ap) [] [] cp) pos) (pPop i) :=
  ps_imp (ps_expr (pe_bm0 PySem.F.plainAttrs_list PySem.F.slot_list_pop PySem.F.type_list_pop mt_pop (pe_var hN hv hd hcd) hbase hline)) fun D σ H ⟨G0, H0, ρ, G, E, r, ⟨h1, h3, h4⟩, k, l⟩ => by
    obtain ⟨xs, a, us, k1, k2, k3, k4, k5, k6⟩ := r.ow i _ (gd_some h1) ho
    rw [k1] at h3 h4
    have hne : us ≠ [] := fun z => by
      rw [z] at k6
      cases k6
      exact h3 rfl
    have hl : us.length - 1 < us.length := by
      cases us with
      | nil => exact absurd rfl hne
      | cons _ _ => simp
    exact ⟨.ref a, k2, .inl ⟨rfl, us, SqL.of k5⟩, a, us, _, rfl, rfl, k5, List.getElem?_eq_getElem hl, k _ _ G _ (Same.refl _) (r.mut (gd_some h1) ho k2 k6.dropLast) h4⟩
/-- x[j] = e of a list in hand -/
theorem sput (i : Nat) {idx : Expr} {gi : PEnv → Prop} {fi : PEnv → PV} {mi : Md} {pn ps' : Pos} (he : PX X o .S e g f) (hj : PX X o mi idx gi fi) (ho : i ∈ o := by decide) (hN : X.N[i]? = some x := by rfl) (hv : Vis X.env.scope x := by first | exact Or.inl rfl | exact Or.inr (Or.inl rfl) | exact Or.inr (Or.inr rfl))
    (hd : (x == ("__debug__" : Str)) = false := by decide) (hcd : (x == ("__classdict__" : Str)) = false := by decide)
    (ha : ∀ v, assign (.Subscript (.Name x pn) idx ps') X.env v = (do
      let ov ← holding [v] (eval (.Name x pn) X.env)
      let iv ← holding [v, ov] (eval idx X.env)
      standAt ps'
      holding [v, ov, iv] (setItem ov iv v)
      release [v, ov, iv] []) := by intro _; rfl)
    (hs : swapsWithSole [.Subscript (.Name x pn) idx ps'] e pos.line X.env = pure false := by rfl) (hw : swappedStores [.Subscript (.Name x pn) idx ps'] e X.env = pure none := by rfl)
    (h1 : (assignEach [.Subscript (.Name x pn) idx ps'] X.env).map (·.2) = [assign (.Subscript (.Name x pn) idx ps') X.env] := by rfl) :
    PSX X W o o rm (.Assign [.Subscript (.Name x pn) idx ps'] e pos) (pPut i ⟨g, f⟩ ⟨gi, fi⟩) :=
  ps_imp (ps_asg he (pg_sub (pe_var hN hv hd hcd) hj set_list ha) hs hw h1) fun D σ H ⟨G0, H0, ρ, G, E, r, ⟨h1, h2, h3, h4, h5, h6⟩, k, l⟩ => one r h1 fun u G1 H1 e1 r1 ru => by
    obtain ⟨xs, a, us, k1, k2, k3, k4, k5, k6⟩ := r1.ow i _ (gd_some h2) ho
    refine ⟨.ref a, k2, G0, H0, ρ, G1, r1, h3, fun w G2 H2 e2 rw' => ?_⟩
    rw [k1] at h5 h6
    cases q : ixN (elems (.list xs)).length (toI (fi ρ)) with
    | none =>
      rw [q] at h5
      cases h5
    | some j =>
      rw [q] at h6
      refine ⟨a, us, _, j, rfl, rw'.eqI h4, e2.hh _ _ k5, by rw [← k6.length]; exact q, ?_⟩
      exact k _ _ G2 _ (e1.gg.trans e2.gg) ((r1.on e2).mut (gd_some h2) ho k2 (Reps.set (Rep.mono e2.gg ru) j (k6.mono e2.gg))) h6
/-- a, b = e1, e2 -/
theorem spar (i j : Nat) {x y : Str} {ea eb : Expr} {px py pt : Pos} {kt k2 : Nat} {pt2 : Pos} (hc : X.calm = true) (hN : X.N.Nodup) (ha : PX X o .S ea ga fa) (hb : PX X o .S eb gb fb) (hi : X.N[i]? = some x := by rfl) (hj : X.N[j]? = some y := by rfl) (hij : i ≠ j := by decide)
    (hx : X.env.scope.names.lookup x = some .local := by rfl) (hy : X.env.scope.names.lookup y = some .local := by rfl)
    (hw : swappedStores [.Tuple [.Name x px, .Name y py] kt pt] (.Tuple [ea, eb] k2 pt2) X.env = pure (some [x, y]) := by rfl)
    (hs : swapsWithSole [.Tuple [.Name x px, .Name y py] kt pt] (.Tuple [ea, eb] k2 pt2) pos.line X.env = pure false := by rfl)
    (h1 : starEach [ea, eb] X.env = (false, eval ea X.env) :: starEach [eb] X.env := by rfl) (h2 : starEach [eb] X.env = (false, eval eb X.env) :: starEach [] X.env := by rfl) :
    PSX X W o (del j (del i o)) rm (.Assign [.Tuple [.Name x px, .Name y py] kt pt] (.Tuple [ea, eb] k2 pt2) pos) (pPar i j ⟨ga, fa⟩ ⟨gb, fb⟩) :=
  ps_imp (ps_par hc hN hi hj hij hx hy (pa_cons ha (pa_cons hb pa_nil h2) h1) hw hs) fun D σ H ⟨G0, H0, ρ, G, E, r, ⟨k1, k2, k3⟩, k, l⟩ => two r k1 k2 fun u w G1 H1 e1 r1 ru rw' =>
    ⟨u, w, rfl, k _ _ G1 H1 e1.gg ((r1.setS ru).setS rw') k3⟩
/-- a, b, c = a triple -/
theorem sun3 (i j n : Nat) {x y z : Str} {px py pz pt : Pos} {kt : Nat} (hc : X.calm = true) (hN : X.N.Nodup) (he : PX X o .S e g f) (hi : X.N[i]? = some x := by rfl) (hj : X.N[j]? = some y := by rfl) (hn : X.N[n]? = some z := by rfl)
    (hx : Loc X.env.scope x := by first | exact Or.inl rfl | exact Or.inr rfl) (hy : Loc X.env.scope y := by first | exact Or.inl rfl | exact Or.inr rfl) (hz : Loc X.env.scope z := by first | exact Or.inl rfl | exact Or.inr rfl)
    (hfx : X.fn x = true ∨ X.env.scope.names.lookup x = some .local := by first | exact .inl rfl | exact .inr rfl) (hfy : X.fn y = true ∨ X.env.scope.names.lookup y = some .local := by first | exact .inl rfl | exact .inr rfl) (hfz : X.fn z = true ∨ X.env.scope.names.lookup z = some .local := by first | exact .inl rfl | exact .inr rfl)
    (hs : swapsWithSole [.Tuple [.Name x px, .Name y py, .Name z pz] kt pt] e pos.line X.env = pure false := by rfl) (hw : swappedStores [.Tuple [.Name x px, .Name y py, .Name z pz] kt pt] e X.env = pure none := by rfl) :
    PSX X W o (del n (del j (del i o))) rm (.Assign [.Tuple [.Name x px, .Name y py, .Name z pz] kt pt] e pos) (pUn3 i j n ⟨g, f⟩) :=
  ps_imp (ps_asg he (pg_tup hc (pgs_cons (pg_name hN hi hx hfx) (pgs_cons (pg_name hN hj hy hfy) (pgs_cons (pg_name hN hn hz hfz) pgs_nil)))) hs hw) fun D σ H ⟨G0, H0, ρ, G, E, r, ⟨k1, k2, v1, v2, v3, k3, k4⟩, k, l⟩ => one r k1 fun u G1 H1 e1 r1 ru => by
    obtain ⟨a, us, rfl, q1, q2⟩ := ru.tup e1.gh k2
    rw [k3] at q2
    cases q2 with
    | cons a1 t1 =>
      cases t1 with
      | cons a2 t2 =>
        cases t2 with
        | cons a3 t3 =>
          cases t3
          exact ⟨a, _, rfl, q1, rfl, _, _, rfl, _, _, rfl, _, _, rfl, rfl, k _ _ G1 H1 e1.gg (((r1.setS a1).setS a2).setS a3) k4⟩
end
/-! y = [..] on one line -/
section
variable {i : Nat} {x y : Str} {px py : Pos} {elt iter : Expr} {ifs : List Expr} {scope : Scope} {gi gt : PEnv → Prop} {its : PEnv → List PV} {p2 : Pos}
theorem slc (i j : Nat) (hc : X.calm = true) (hN : X.N.Nodup) (hi : PXI X o true (.Name x px) iter gi its) (ok : blkC X.N X.env.scope scope [(x, i)] = true)
    (hg : ∀ (s : Shared) (H : Hp) (C : Addr) (cl : List (Str × Addr)) (fp : List Addr), PG (X.blk s H scope (compEnvC scope cl C X.env) fp) (.Name x px) (gName i))
    (ht : ∀ (s : Shared) (H : Hp) (C : Addr) (cl : List (Str × Addr)) (fp : List Addr), PXTs (X.blk s H scope (compEnvC scope cl C X.env) fp) o ifs gt cc)
    (he : ∀ (s : Shared) (H : Hp) (C : Addr) (cl : List (Str × Addr)) (fp : List Addr), PX (X.blk s H scope (compEnvC scope cl C X.env) fp) o .S elt ge fe) (ho : i ∉ o := by decide) (hy : X.N[j]? = some y := by rfl) (hyl : X.env.scope.names.lookup y = some .local := by rfl)
    (hsw : swapsWith (.ListComp elt [⟨.Name x px, iter, ifs, 0⟩] scope pos) (some (.Name y py)) p2.line X.env = pure true := by exact sw_true rfl rfl rfl (by decide +kernel)) (hs : ∀ x, foldedSetIterable iter X.env x = pure x := by intro _; rfl) :
    PSX X W o (j :: del j o) rm (.Assign [.Name y py] (.ListComp elt [⟨.Name x px, iter, ifs, 0⟩] scope pos) p2) (pSet j (eLc i ⟨gi, its⟩ ⟨gt, cc⟩ ⟨ge, fe⟩)) :=
  ps_imp (ps_setLc hc hN hy hyl hsw hi (blkOk_by ok) hg ht he hs) fun D σ H ⟨G0, H0, ρ, G, E, r, ⟨h1, h2⟩, k, l⟩ =>
    rd_lc ho ⟨_, _, _, _, r, h1, fun u G1 H1 e1 ru => k _ _ G1 H1 e1.gg (r.setF e1 ru) h2⟩
end
end

/-! a def of the text -/
structure Top (K : PySem.W.Frag) (mg : Str → Option Value) (x : Str) (st : Stmt) (ps : List Str) : Prop where
  ex : ∃ (f : Addr) (fd : FuncData), Fun K x x st f fd ∧ mg x = some (.ref f) ∧ Binds K fd ps []
def st0 (N : List Str) (as : List PV) : PEnv := as.map some ++ List.replicate (N.length - as.length) none
theorem start_R {K : PySem.W.Frag} {G H : Hp} {as : List PV} {vs : List V} {N : List Str} (s : Same G H) (r : Reps K G as vs) : R K [] G H (st0 N as) (L2.start N vs) G H where
  len := by simp [st0, L2.start, r.length]
  ext := Ext.refl s
  sh := fun i v e _ => by
    unfold st0 at e
    unfold L2.start
    by_cases hi : i < as.length
    · rw [List.getElem?_append_left (by simpa using hi), List.getElem?_map, List.getElem?_eq_getElem hi] at e
      obtain ⟨u, h1, h2⟩ := r.get (List.getElem?_eq_getElem hi)
      have e' : as[i] = v := by simpa using e
      rw [e'] at h2
      refine ⟨u, ?_, h2⟩
      rw [List.getElem?_append_left (by rw [List.length_map, ← r.length]; exact hi), List.getElem?_map, h1]
      rfl
    · rw [List.getElem?_append_right (by simpa using Nat.le_of_not_lt hi)] at e
      have := List.mem_of_getElem? e
      simp at this
  ow := fun i v e hi => absurd hi (by simp)
  sep := fun i j v w p hi => absurd hi (by simp)
section
variable {P : Program} {w : World} {K : PySem.W.Frag} {mg : Str → Option Value} {base : Heap} {x : Str} {st : Stmt} {N ps : List Str} {k n : Nat} {rm : Md} {g : List PV → Prop} {f : List PV → PV}
theorem mkFn {fa : Addr} {fd : FuncData} (F : Fun K x x st fa fd) (phi : Phi) (pure : ∀ as, as.length = n → g as → phi ⟨fun _ => False, fun v => v = f as⟩ (st0 N as)) (S : FnScope N ps (defScope st)) (hn : ps.length = n)
    (body : ∀ (fa : Addr) (cdv : Value) (A : Around) (outer : List Env) (s : Shared) (H : Hp) (E : XK), Room k (A.deeper (envOfC x (defScope st) s.heap.objs.size fa cdv)) →
      ∃ φ o', PSXs (cxOf CX0 P w K mg base N x (defScope st) fa cdv A outer s H E).nox (fun _ _ => True) [] o' rm (defBody st) φ ∧ φ = phi) :
    FnOk P w K mg base CX0 (k + 1) fa fd ps (spF K n rm g f) := by
  refine F.ok S (fun vs H Q E h => ?_) (fun cdv A outer s H vs Q E hr h => ?_)
  · obtain ⟨G, as, _, r, l, _⟩ := h
    rw [← r.length, l, hn]
  · obtain ⟨φ, o', hp, rfl⟩ := body fa cdv A outer s H E hr
    obtain ⟨G, as, sG, r, l, hg, q⟩ := h
    exact ⟨_, hp, G, H, st0 N as, G, _, start_R sG r, pure as l hg, fun _ _ _ _ _ _ z => z.elim, ⟨fun v u G' H' e' ru ev => q u G' H' e' (by rw [← ev]; exact ru), fun _ _ _ _ _ => trivial⟩⟩
theorem mkCal (phi : Phi) (pure : ∀ as, as.length = n → g as → phi ⟨fun _ => False, fun v => v = f as⟩ (st0 N as)) (T : Top K mg x st ps) (S : FnScope N ps (defScope st)) (hn : ps.length = n)
    (body : ∀ (fa : Addr) (cdv : Value) (A : Around) (outer : List Env) (s : Shared) (H : Hp) (E : XK), Room k (A.deeper (envOfC x (defScope st) s.heap.objs.size fa cdv)) →
      ∃ φ o', PSXs (cxOf CX0 P w K mg base N x (defScope st) fa cdv A outer s H E).nox (fun _ _ => True) [] o' rm (defBody st) φ ∧ φ = phi) :
    Cal P w K mg base x (k + 1) n rm g f := by
  obtain ⟨fa, fd, F, hm, hb⟩ := T.ex
  exact ⟨fa, fd, ps, mkFn F phi pure S hn body, hm, F.kp, hb⟩
theorem Cal.mono {j : Nat} (C : Cal P w K mg base x j n rm g f) (h : j ≤ k) : Cal P w K mg base x k n rm g f := by
  obtain ⟨fa, fd, ps, F, a, b, c⟩ := C.ex
  exact ⟨fa, fd, ps, F.mono h, a, b, c⟩
/-- another pure function, where the first agrees with it -/
theorem Cal.imp {g' : List PV → Prop} {f' : List PV → PV} (C : Cal P w K mg base x k n rm g f) (h : ∀ as, as.length = n → g' as → g as ∧ f as = f' as) : Cal P w K mg base x k n rm g' f' := by
  obtain ⟨fa, fd, ps, F, a, b, c⟩ := C.ex
  refine ⟨fa, fd, ps, F.imp fun vs H Q E z => ?_, a, b, c⟩
  obtain ⟨G, as, sG, r, l, hg, q⟩ := z
  obtain ⟨h1, h2⟩ := h as l hg
  exact ⟨G, as, sG, r, l, h1, fun u G' H' e hu => q u G' H' e (by rw [← h2]; exact hu)⟩
end

/-! what the top leaves of a def -/
theorem top_of {K : PySem.W.Frag} {h : Heap} {mg : Str → Option Value} (X : K.In h) (G : h.Ns mainGlobals mg) {x : Str} {st : Stmt} {ps : List Str} {f : Addr} {od an : Option Addr} {sl : Array (Option Value)} {oc kV dc pm cd ct : Value}
    (a : PySem.W.nsIn K mainGlobals x = some (some (.ref f))) (l : K.lookup f = some ⟨oc, od, .func (PySem.W.fnOf x x (defArgs st) (defBody st) (defScope st) .none kV dc pm an cd ct), sl⟩) (c : PySem.W.codeIn K cd x = true) (k : PySem.W.keepIn K (.ref f) = true)
    (b : ∀ (kV doc pm : Value) (an : Option Addr) (cdv ct : Value) (us : List Value), us.length = ps.length → bindArgs (PySem.W.fnOf x x (defArgs st) (defBody st) (defScope st) .none kV doc pm an cdv ct) ⟨us, []⟩ = pure (ps.zip us)) : Top K mg x st ps :=
  let F := fun_mk (st := st) l c k
  ⟨f, _, F, PySem.W.mg_of X G a, F.binds b⟩
/-- the law's own promise -/
def spLaw (g : List PV → Prop) (f : List PV → PV) (K : PySem.W.Frag) : Sp := spF K 1 .S g f
theorem spLaw_ok {g : List PV → Prop} {f : List PV → PV} {K : PySem.W.Frag} {H : Hp} {a : Addr} {ns : List Int} (hS : SqL K H a (ns.map V.int)) (hg : g [.scr ns]) (hf : f [.scr ns] = .bl true) : spLaw g f K [.ref a] H (fun v _ => v = .bl true) fun _ _ _ => False :=
  ⟨H, [.scr ns], Same.refl _, .cons (.scr hS) .nil, rfl, hg, fun u G' H' e hu => by rw [hf] at hu; exact Rep.bl_eq hu⟩
theorem law_of {K : PySem.W.Frag} {h : Heap} {mg : Str → Option Value} (X : K.In h) (G : h.Ns mainGlobals mg) {x : Str} {st : Stmt} {p : Str} {fa f : Addr} (hmg : mg x = some (.ref fa)) {od an : Option Addr} {sl : Array (Option Value)} {oc kV dc pm cd ct : Value}
    (a : PySem.W.nsIn K mainGlobals x = some (some (.ref f))) (l : K.lookup f = some ⟨oc, od, .func (PySem.W.fnOf x x (defArgs st) (defBody st) (defScope st) .none kV dc pm an cd ct), sl⟩) (c : PySem.W.codeIn K cd x = true) (k : PySem.W.keepIn K (.ref f) = true)
    (b : ∀ (kV doc pm : Value) (an : Option Addr) (cdv ct : Value) (s : Shared) (v : Value), BindsTo s (PySem.W.fnOf x x (defArgs st) (defBody st) (defScope st) .none kV doc pm an cdv ct) ⟨[v], []⟩ [(p, v)]) :
    ∃ fdl : FuncData, Fun K x x st fa fdl ∧ ∀ (s : Shared) (v : Value), BindsTo s fdl ⟨[v], []⟩ [(p, v)] := by
  have e := hmg.symm.trans (PySem.W.mg_of X G a)
  cases e
  exact ⟨_, fun_mk (st := st) l c k, b _ _ _ _ _ _⟩
end PL

namespace PL
open PySem PySem.Spec PyProof.Rows L2

/-! the greatest of a list; a list times a number -/
def mxL : List Int → Int
  | [] => 0
  | [x] => x
  | x :: y :: r => max x (mxL (y :: r))
theorem mxL_mem : ∀ {ns : List Int}, ns ≠ [] → mxL ns ∈ ns
  | [], h => absurd rfl h
  | [x], _ => by simp [mxL]
  | x :: y :: r, _ => by
    have ih := mxL_mem (ns := y :: r) (by simp)
    unfold mxL
    rcases Int.le_total x (mxL (y :: r)) with h | h
    · rw [Int.max_eq_right h]
      exact List.mem_cons_of_mem _ ih
    · rw [Int.max_eq_left h]
      exact List.mem_cons_self
theorem mxL_le : ∀ {ns : List Int} {y : Int}, y ∈ ns → y ≤ mxL ns
  | [x], y, h => by
    have e : y = x := by simpa using h
    subst e
    exact Int.le_refl _
  | x :: z :: r, y, h => by
    unfold mxL
    rcases List.mem_cons.mp h with e | e
    · subst e
      exact Int.le_max_left _ _
    · exact Int.le_trans (mxL_le e) (Int.le_max_right _ _)
theorem mxL_of (ns : List Int) (m : Int) (h : m ∈ ns) (hm : ∀ y, y ∈ ns → y ≤ m) : m = mxL ns :=
  Int.le_antisymm (mxL_le h) (hm _ (mxL_mem (fun z => by rw [z] at h; cases h)))
abbrev eRep (a b : PExp) : PExp := ⟨fun ρ => a.g ρ ∧ b.g ρ ∧ isL (a.f ρ) = true ∧ isI (b.f ρ) = true ∧ -(2 ^ 63) ≤ toI (b.f ρ) ∧ toI (b.f ρ) < 2 ^ 63 ∧ (elems (a.f ρ)).length * (toI (b.f ρ)).toNat ≤ sizeLine, fun ρ => .list (List.replicate (toI (b.f ρ)).toNat (elems (a.f ρ))).flatten⟩
theorem xrep {X : Cx} {o : List Nat} {ma mb : Md} {a b : Expr} {ga gb : PEnv → Prop} {fa fb : PEnv → PV} {pos : Pos} (ha : PX X o ma a ga fa) (hb : PX X o mb b gb fb) :
    PX X o .F (.BinOp a .Mult b pos) (eRep ⟨ga, fa⟩ ⟨gb, fb⟩).g (eRep ⟨ga, fa⟩ ⟨gb, fb⟩).f :=
  pe_imp (pe_op op_rep ha hb) fun σ H Q ⟨G0, H0, ρ, G, r, ⟨h1, h2, h3, h4, h5, h6, h7⟩, q⟩ => two r h1 h2 fun x y G1 H1 e1 r1 rx ry => by
    obtain ⟨p1, us, rfl, k1, k2⟩ := rx.lst e1.gh h3
    exact ⟨p1, _, us, rfl, ry.eqI h4, k1, h5, h6, by rw [← k2.length]; exact h7, fun p np => q _ _ _ (e1.trans (Ext.new e1.gh np)) (e1.fresh np (reps_rep k2 _))⟩

/-- the names of built-ins that the text leaves alone -/
structure Blt (mg : Str → Option Value) : Prop where
  len : mg "len" = none
  abs : mg "abs" = none
  min : mg "min" = none
  max : mg "max" = none
  sum : mg "sum" = none
  range : mg "range" = none
  list : mg "list" = none
  tuple : mg "tuple" = none
  int : mg "int" = none
  bool : mg "bool" = none
  isi : mg "isinstance" = none
  verr : mg "ValueError" = none
end PL

namespace PL
open PySem PySem.Spec PyProof.Rows L2

theorem impB {a b : Bool} {P : Prop} (h : a = b → P) : a = b → P := h
/-! defs that may raise an error class of the text -/
abbrev pRaise (c : Str) : Phi := fun E _ => E.rt (.exc c)
/-- what the written part says of an own error class over ValueError, at C -/
structure ErrC (K : PySem.W.Frag) (mg : Str → Option Value) (c : Str) (C : Addr) : Prop where
  g : mg c = some (.ref C)
  x : PySem.W.excIn K C [.type "ValueError", .type "Exception", .type "BaseException", .type "object"] "ValueError.__new__" = true
  k : PySem.W.keepIn K (.ref C) = true
  b : PySem.W.subIn K (.ref C) (.type "BaseException") = some true
  t : PySem.W.typeIn K (.ref C) = some (.type "type")
  e : ExcC K C
  v : PySem.W.kitOne K (.ref C) (.type "ValueError") = some true
/-- how one error class lies to another -/
structure ErrR (K : PySem.W.Frag) (mg : Str → Option Value) (C : Addr) (d : Str) (D : Addr) (r : Bool) : Prop where
  g : mg d = some (.ref D)
  s : PySem.W.subIn K (.ref C) (.ref D) = some r
  b : PySem.W.subIn K (.ref D) (.type "BaseException") = some true
  h : PySem.W.hasDictIn K D = true
  t : PySem.W.typeIn K (.ref D) = some (.type "type")
theorem ErrR.kit {K : PySem.W.Frag} {mg : Str → Option Value} {C D : Addr} {d : Str} {r : Bool} (E : ErrR K mg C d D r) (hr : C = D → r = true) : PySem.W.kitOne K (.ref C) (.ref D) = some r := by
  unfold PySem.W.kitOne
  by_cases e : C = D
  · rw [if_pos (by rw [e]; exact beq_self_eq_true _), hr e]
  · rw [if_neg (fun z => e (Value.ref.inj (beq_iff_eq.mp z)))]
    unfold PySem.W.kitCls
    obtain ⟨cd, hc, _⟩ := PySem.W.any_some E.h
    show (if ((PySem.W.clsIn K D).isSome && PySem.W.typeIn K (.ref D) == some (.type "type")) = true then PySem.W.subIn K (.ref C) (.ref D) else none) = some r
    rw [if_pos (by rw [hc, E.t]; rfl)]
    exact E.s
theorem ErrR.exm {K : PySem.W.Frag} {mg : Str → Option Value} {C D : Addr} {d : Str} {r : Bool} (E : ErrR K mg C d D r) : PySem.W.exmOne K (.ref C) (.ref D) = some r := PySem.W.exm_ref E.b E.h E.t E.s

section
variable {X : Cx} {W : Str → Hp → Prop} {o o' : List Nat} {rm : Md}
/-- raise C("..") -/
theorem sraise {Wk : WX} {c m : Str} {C : Addr} {j : Nat} {p p2 pos pos' : Pos} (hc : X.calm = true) (tk : Takes X Wk) (F : ErrC X.K X.mg c C) (hW : ∀ σ H, W c H → Wk (.ref C) none σ H) (hg : Gl X c := by rfl) (hdb : (c == ("__debug__" : Str)) = false := by decide) :
    PSX X W o o' rm (.Raise (some (.Call (.Name c p) [.Constant (.str m) j p2] [] pos')) none pos) (pRaise c) :=
  ps_imp (ps_raise hc tk (pmk_own PySem.F.excBase_ValueError F.x F.g F.k (raises_own F.b F.t) hg hdb)) fun D σ H ⟨G0, H0, ρ, G, E, r, h, k, l⟩ => hW σ H (l.2 c G H r.ext h)
end
/-- the promise of a def that may raise -/
def spX (K : PySem.W.Frag) (mg : Str → Option Value) (n : Nat) (rm : Md) (g : List PV → Prop) (f : List PV → PV) : Sp := fun vs H Q E => ∃ G as, Same G H ∧ Reps K G as vs ∧ as.length = n ∧ g as ∧
  (∀ u G' H', Ext G H G' H' → Res rm K G H G' H' (f as) u → Q u H') ∧ ∀ c C H', f as = .exc c → mg c = some (.ref C) → Same H H' → E (.ref C) none H'
structure CalX (P : Program) (w : World) (K : PySem.W.Frag) (mg : Str → Option Value) (base : Heap) (x : Str) (k n : Nat) (rm : Md) (g : List PV → Prop) (f : List PV → PV) : Prop where
  ex : ∃ (fa : Addr) (fd : FuncData) (ps : List Str), FnOk P w K mg base (L2.CX P w) k fa fd ps (spX K mg n rm g f) ∧ mg x = some (.ref fa) ∧ PySem.W.keepIn K (.ref fa) = true ∧ Binds K fd ps []
section
variable {P : Program} {w : World} {K : PySem.W.Frag} {mg : Str → Option Value} {base : Heap} {x : Str} {st : Stmt} {N ps : List Str} {k n : Nat} {rm : Md} {g : List PV → Prop} {f : List PV → PV}
/-- what a raising def's body wishes of an error -/
def wX (mg : Str → Option Value) (E : XK) : Str → Hp → Prop := fun c H' => ∀ C, mg c = some (.ref C) → E (.ref C) none H'
theorem mkCalX (phi : Phi) (pure : ∀ as, as.length = n → g as → phi ⟨fun _ => False, fun v => v = f as⟩ (st0 N as)) (T : Top K mg x st ps) (S : FnScope N ps (defScope st)) (hn : ps.length = n)
    (body : ∀ (fa : Addr) (cdv : Value) (A : Around) (outer : List Env) (s : Shared) (H : Hp) (E : XK), Room k (A.deeper (envOfC x (defScope st) s.heap.objs.size fa cdv)) →
      ∃ φ o', PSXs (cxOf (L2.CX P w) P w K mg base N x (defScope st) fa cdv A outer s H E) (wX mg E) [] o' rm (defBody st) φ ∧ φ = phi) :
    CalX P w K mg base x (k + 1) n rm g f := by
  obtain ⟨fa, fd, F, hm, hb⟩ := T.ex
  refine ⟨fa, fd, ps, F.okX S (fun vs H Q E h => ?_) (fun cdv A outer s H vs Q E hr h => ?_), hm, F.kp, hb⟩
  · obtain ⟨G, as, _, r, l, _⟩ := h
    rw [← r.length, l, hn]
  · obtain ⟨φ, o', hp, rfl⟩ := body fa cdv A outer s H E hr
    obtain ⟨G, as, sG, r, l, hg, q, qx⟩ := h
    exact ⟨_, hp, G, H, st0 N as, G, _, start_R sG r, pure as l hg, fun _ _ _ _ _ _ z => z.elim, ⟨fun v u G' H' e' ru ev => q u G' H' e' (by rw [← ev]; exact ru), fun c G' H' e' ev C hC => qx c C H' ev.symm hC e'.hh⟩⟩
end
section
variable {X : Cx} {W : Str → Hp → Prop} {o : List Nat} {rm rm' : Md} {e : Expr} {es : List Expr} {g : List PV → Prop} {f : List PV → PV} {ga : PEnv → Prop} {fs : PEnv → List PV} {pos p : Pos} {k n : Nat} {x : Str}
/-- an argument list of a call that may raise, as the reading wants it -/
theorem rd_callX {E : XK} {σ : Sg} {H : Hp} {Q : VK} {G0 H0 G : Hp} {ρ : PEnv} (r : R X.K o G0 H0 ρ σ G H) (h1 : ga ρ) (h2 : (fs ρ).length = n) (h3 : g (fs ρ)) (q : ∀ u G' H', Ext G H G' H' → Res rm' X.K G H G' H' (f (fs ρ)) u → Q u H')
    (qx : ∀ c C H', f (fs ρ) = .exc c → X.mg c = some (.ref C) → Same H H' → E (.ref C) none H') : tA X.K o ga fs σ H fun vs H1 => spX X.K X.mg n rm' g f (vs ++ []) H1 Q E := by
  refine ⟨_, _, _, _, r, h1, fun us G1 H1 e1 ru => ?_⟩
  show spX X.K X.mg n rm' g f (us ++ []) H1 Q E
  rw [List.append_nil]
  exact ⟨G1, fs ρ, e1.gh, ru, h2, h3, fun u G2 H2 e2 hu => q u G2 H2 (e1.trans e2) (Res.from e1 hu), fun c C H' a b s => qx c C H' a b (e1.hh.trans s)⟩
/-- y = f(..), f may raise; so may this def -/
abbrev pSetX (i n : Nat) (F : FS) (a : PArg) : Phi := fun E ρ => a.g ρ ∧ (a.f ρ).length = n ∧ F.g (a.f ρ) ∧ (∀ c, F.f (a.f ρ) = .exc c → E.rt (.exc c)) ∧ E.nx (ρ.set i (some (F.f (a.f ρ))))
end

/-! try: f(..) except B as e: .., where f raises -/
/-- isinstance(e, (c1, c2, ..)), e the error that the suite holds -/
theorem call_isET {X : Cx} {a D : Addr} {oe : Obj} {pn : List (Addr × Obj)} (C : ExcC X.K D) (hz : Zc (.ref D) none oe) (hf : ∃ vs, oe.data = .fields vs) : CallR (X.suite a ((a, oe) :: pn)) (.builtin "isinstance")
    (fun xs H Q => ∃ (tp : Addr) (cs : List V) (us : List Value) (b : Bool), xs = [.ref a, .ref tp] ∧ H tp = some (.tup cs) ∧ Paired ClsV cs us ∧ PySem.W.kitAny X.K (.ref D) us = some b ∧ Q (.bl b) H) := by
  intro pins s σ H xs us Q I r h
  obtain ⟨tp, cs, ws, b, rfl, hT, k, e, q⟩ := h
  obtain ⟨u1, u2, rfl, r1, r2⟩ := vals2 r
  cases (show u1 = Value.ref a from r1)
  cases (show u2 = Value.ref tp from r2)
  obtain ⟨hget, _⟩ := I.pin (a, oe) (List.mem_append.mpr (.inl List.mem_cons_self))
  obtain ⟨vs, hv⟩ := hf
  have J : PySem.W.InstAt s.heap a oe D none := by
    obtain ⟨oc, od, oda, osl⟩ := oe
    obtain ⟨h1, h2⟩ := hz
    dsimp only at h1 h2 hv
    subst h1 h2 hv
    exact ⟨hget, rfl, rfl, trivial⟩
  obtain ⟨_, its, rv, o, h1, h2, n, h3⟩ := (show ObjOk X.prog X.w H s.heap tp (.tup cs) from I.hok tp _ hT)
  have e3 := ClsV.all k rv
  subst e3
  obtain ⟨oc, od, dt, sl⟩ := o
  simp only at h2 h3
  subst h2 h3
  exact PySem.W.kia_tup (PySem.W.handS_kitx_exc C.hg C.hk C.hs C.hd C.ha C.hn C.ht C.hm) I.kIn J h1 e (fun z => nomatch z) fun tk => ⟨.bl b, H, I.kept (t' := tk) fun _ _ z => z, rfl, q⟩
section
variable {X : Cx} {i : Nat} {n : Str} {c d1 d2 d3 d4 b : Str} {C D1 D2 D3 D4 : Addr} {p1 p2 p3 p4 p5 p6 p7 p8 p9 q1 q2 q3 q4 q5 q6 q7 q8 q9 q10 q11 q12 : Pos} {j k1 k2 : Nat}
/-- the suite: if isinstance(e, (D1, D2, D3, D4)): return False; return isinstance(e, C) and isinstance(e, ValueError) -/
def tSuite (i : Nat) (C : Addr) (a : Addr) (cls : Value) (d : Option Addr) : TS := fun D σ H => cls = .ref C ∧ d = none ∧ σ[i]? = some (some (.ref a)) ∧ ∀ H', Same H H' → D.rt (.bl true) H'
theorem suite_ok {a : Addr} {oe : Obj} {cls : Value} {d : Option Addr} {pn : List (Addr × Obj)} (hi : X.N[i]? = some n) (hv : Vis X.env.scope n) (hnd : (n == ("__debug__" : Str)) = false) (hnc : (n == ("__classdict__" : Str)) = false)
    (EC : ErrC X.K X.mg c C) (R1 : ErrR X.K X.mg C d1 D1 false) (R2 : ErrR X.K X.mg C d2 D2 false) (R3 : ErrR X.K X.mg C d3 D3 false) (R4 : ErrR X.K X.mg C d4 D4 false) (n1 : C ≠ D1) (n2 : C ≠ D2) (n3 : C ≠ D3) (n4 : C ≠ D4)
    (mI : X.mg "isinstance" = none) (mV : X.mg "ValueError" = none) (gI : Gl X "isinstance") (gV : Gl X "ValueError") (gC : Gl X c) (g1 : Gl X d1) (g2 : Gl X d2) (g3 : Gl X d3) (g4 : Gl X d4)
    (e1 : (d1 == ("__debug__" : Str)) = false) (e2 : (d2 == ("__debug__" : Str)) = false) (e3 : (d3 == ("__debug__" : Str)) = false) (e4 : (d4 == ("__debug__" : Str)) = false) (eC : (c == ("__debug__" : Str)) = false)
    (hz : Zc cls d oe) (hf : ∃ vs, oe.data = .fields vs) :
    PSs (X.suite a ((a, oe) :: pn)) [.If (.Call (.Name "isinstance" p1) [.Name n p2, .Tuple [.Name d1 p3, .Name d2 p4, .Name d3 p5, .Name d4 p6] k1 p7] [] p8) [.Return (some (.Constant (.bool false) k2 p9)) q1] [] q2,
      .Return (some (.BoolOp .And [.Call (.Name "isinstance" q3) [.Name n q4, .Name c q5] [] q6, .Call (.Name "isinstance" q7) [.Name n q8, .Name "ValueError" q9] [] q10] q11)) q12] (tSuite i C a cls d) := by
  refine ⟨fun pins s σ H D I h => ?_⟩
  obtain ⟨rfl, rfl, hs, q⟩ := h
  have pn' : PE (X.suite a ((a, oe) :: pn)) (.Name n p2) (tVar i) := pe_var hi hv hnd hnc
  have pn2 : PE (X.suite a ((a, oe) :: pn)) (.Name n q4) (tVar i) := pe_var hi hv hnd hnc
  have pn3 : PE (X.suite a ((a, oe) :: pn)) (.Name n q8) (tVar i) := pe_var hi hv hnd hnc
  suffices k : ∃ t, PSs (X.suite a ((a, oe) :: pn)) [.If (.Call (.Name "isinstance" p1) [.Name n p2, .Tuple [.Name d1 p3, .Name d2 p4, .Name d3 p5, .Name d4 p6] k1 p7] [] p8) [.Return (some (.Constant (.bool false) k2 p9)) q1] [] q2,
      .Return (some (.BoolOp .And [.Call (.Name "isinstance" q3) [.Name n q4, .Name c q5] [] q6, .Call (.Name "isinstance" q7) [.Name n q8, .Name "ValueError" q9] [] q10] q11)) q12] t ∧ t D σ H by
    obtain ⟨t, k1, k2⟩ := k
    exact k1.run pins s σ H D I k2
  refine ⟨_, pss_cons (ps_if (pt_val (pe_callB (call_isET EC.e hz hf) gI mI boot_isinstance (pa_cons pn' (pa_cons (pe_tup (pa_cons (pe_glob (v := .ref D1) g1 R1.g rfl e1) (pa_cons (pe_glob (v := .ref D2) g2 R2.g rfl e2) (pa_cons (pe_glob (v := .ref D3) g3 R3.g rfl e3) (pa_cons (pe_glob (v := .ref D4) g4 R4.g rfl e4) pa_nil))))) pa_nil))))
      (pss_one (ps_ret pe_bl)) pss_nil)
    (pss_one (ps_ret (pe_and (pe_callB (call_isE EC.e hz hf) gI mI boot_isinstance (pa_cons pn2 (pa_cons (pe_glob (v := .ref C) gC EC.g rfl eC) pa_nil))) (pe_one (pe_callB (call_isE EC.e hz hf) gI mI boot_isinstance (pa_cons pn3 (pa_cons (pe_bltn (v := .ty "ValueError") gV mV PyProof.Rows.Boot.«ValueError» rfl) pa_nil))))))), ?_⟩
  refine ⟨.ref a, hs, ⟨by show 4 ≤ sizeLine; decide, fun tp ntp => ⟨tp, _, [.ref D1, .ref D2, .ref D3, .ref D4], false, rfl, upd_same, .cons (.own D1) (.cons (.own D2) (.cons (.own D3) (.cons (.own D4) .nil))), ?_, false, rfl, ?_⟩⟩⟩
  · exact kitAny_cons (R1.kit fun z => absurd z n1) (fun _ => kitAny_cons (R2.kit fun z => absurd z n2) (fun _ => kitAny_cons (R3.kit fun z => absurd z n3) (fun _ => kitAny_cons (R4.kit fun z => absurd z n4) (fun _ => rfl) (fun z => by cases z)) (fun z => by cases z)) (fun z => by cases z)) (fun z => by cases z)
  · refine iteF ?_
    refine ⟨.ref a, hs, .ref C, .ref C, true, rfl, fun u h => h, ?_, true, rfl, ?_⟩
    · unfold PySem.W.kitOne
      rw [if_pos (beq_self_eq_true _)]
    · refine iteT ?_
      refine ⟨.ref a, hs, .ty "ValueError", .type "ValueError", true, rfl, fun u h => h, EC.v, q _ fun b o h => ?_⟩
      rw [upd_ne (ne_of_none h ntp)]
      exact h
end
section
variable {X : Cx} {W : Str → Hp → Prop} {o : List Nat} {g : List PV → Prop} {f : List PV → PV} {ga : PEnv → Prop} {fs : PEnv → List PV} {k m i : Nat} {x n c b : Str} {C B : Addr} {e : Expr} {es : List Expr} {b₀ : Stmt} {suite : List Stmt} {p pos pe np pos' pos'' : Pos} {rm' : Md}
/-- try: f(..) except B as e: suite, where f raises c -/
abbrev pTryR (i n : Nat) (F : FS) (a : PArg) (c : Str) : Phi := fun E ρ => i < ρ.length ∧ a.g ρ ∧ (a.f ρ).length = n ∧ F.g (a.f ρ) ∧ F.f (a.f ρ) = .exc c ∧ E.rt (.bl true)
theorem stryr (F : CalX X.prog X.w X.K X.mg X.base x k m rm' g f) (hr : Room k X.A) (ha : ∀ (pn : List (Addr × Obj)) (xe : Value → Shared → Prop), PA (X.tr pn xe) (e :: es) (tA X.K o ga fs)) (EC : ErrC X.K X.mg c C) (RB : ErrR X.K X.mg C b B true)
    (hs : X.stack = X.env :: X.outer) (hf : X.env.frame = some X.env.locals) (hN : X.N.Nodup) (hi : X.N[i]? = some n) (hln : X.env.kindOf n = some .local) (hc : Names X b (.ref B)) (tk : Takes X (fun _ _ _ _ => False))
    (hsu : ∀ (a : Addr) (oe : Obj) (cls : Value) (d : Option Addr) (pn : List (Addr × Obj)), Zc cls d oe → (∃ vs, oe.data = .fields vs) → PSs (X.suite a ((a, oe) :: pn)) (b₀ :: suite) (tSuite i C a cls d))
    (hgx : Gl X x := by rfl) (hdb : (x == ("__debug__" : Str)) = false := by decide) (he : starEach (e :: es) X.env = (false, eval e X.env) :: starEach es X.env := by rfl) (hpl : (backTo pos (starEach es X.env)).any (·.1) = false := by rfl)
    (hsw : swapsWith (.Call (.Name x p) (e :: es) [] pos) none pe.line X.env = pure false := by rfl) :
    PSX X W o o .S (.Try [.Expr (.Call (.Name x p) (e :: es) [] pos) pe] [.ExceptHandler (some (.Name b np)) (some n) (b₀ :: suite) pos'] [] [] pos'') (pTryR i m ⟨g, f⟩ ⟨ga, fs⟩ c) := by
  obtain ⟨fa, fd, ps, FF, hm, hk, hb⟩ := F.ex
  refine ps_imp (ps_try_as (i := i) hs hf hN hi hln hc tk (fun Wt pn xe tk' _ => pss_one (ps_expr (pe_callS FF hr hgx hm hk hb (fun σ => passAt tk' σ) (ha pn xe) hdb he hpl) hsw)) hsu) fun D σ H ⟨G0, H0, ρ, G, E, r, ⟨h0, h1, h2, h3, h4, h5⟩, k, l⟩ => ?_
  have il : i < σ.length := by
    rw [r.len]
    exact h0
  show tCallS _ _ _ σ H _
  refine ⟨_, _, _, _, r, h1, fun us G1 H1 e1 ru => ?_⟩
  refine ⟨G1, fs ρ, e1.gh, ru, h2, h3, fun u G2 H2 e2 hu => ?_, fun c' C' H' a1 b1 s1 => ?_⟩
  · exfalso
    have hu : Res rm' X.K G1 H1 G2 H2 (f (fs ρ)) u := hu
    rw [show f (fs ρ) = .exc c from h4] at hu
    rcases hu.B with z | ⟨xs, a, us, z, _⟩
    · cases z
    · cases z
  · have ec : PV.exc c' = .exc c := a1.symm.trans h4
    cases ec
    have eC : C' = C := by
      have := b1.symm.trans EC.g
      injection this with z
      injection z
    subst eC
    refine ⟨true, RB.exm, fun _ a na => ⟨rfl, rfl, List.getElem?_set_self il, fun H2 s2 => ?_⟩, fun z => by cases z⟩
    exact l.1 (.bl true) (.bl true) G H2 (r.ext.trans ⟨Same.refl _, r.ext.gh.trans (e1.hh.trans (s1.trans s2)), e1.hh.trans (s1.trans s2), fun _ _ _ z => z⟩) (Rep.bl true) h5
end

/-! what the row's top leaves of the error classes -/
structure Errs (K : PySem.W.Frag) (mg : Str → Option Value) (c b d1 d2 d3 d4 : Str) : Prop where
  ex : ∃ C B D1 D2 D3 D4, ErrC K mg c C ∧ ErrR K mg C b B true ∧ (ErrR K mg C d1 D1 false ∧ C ≠ D1) ∧ (ErrR K mg C d2 D2 false ∧ C ≠ D2) ∧ (ErrR K mg C d3 D3 false ∧ C ≠ D3) ∧ (ErrR K mg C d4 D4 false ∧ C ≠ D4)
structure Err1 (K : PySem.W.Frag) (mg : Str → Option Value) (c : Str) : Prop where
  ex : ∃ C, ErrC K mg c C
section
variable {K : PySem.W.Frag} {h : Heap} {mg : Str → Option Value} (X : K.In h) (G : h.Ns mainGlobals mg)
include X G
theorem errC_of {c : Str} {C : Addr} (a : PySem.W.nsIn K mainGlobals c = some (some (.ref C))) (x : PySem.W.excIn K C [.type "ValueError", .type "Exception", .type "BaseException", .type "object"] "ValueError.__new__" = true)
    (k : PySem.W.keepIn K (.ref C) = true) (b : PySem.W.subIn K (.ref C) (.type "BaseException") = some true) (t : PySem.W.typeIn K (.ref C) = some (.type "type")) (v : PySem.W.kitOne K (.ref C) (.type "ValueError") = some true)
    (hg : PySem.W.findIn K (.ref C) "__getattribute__" = some (some (.builtin "BaseException.__getattribute__"))) (hk : PySem.W.findIn K (.ref C) "__getattr__" = some none) (hd : PySem.W.hasDictIn K C = true)
    (ha : PySem.W.findIn K (.ref C) "__class__" = some (some (.builtin "object.__class__"))) (hn : PySem.W.specialIn K (.builtin "object.__class__") "__get__" = some (some (.builtin "getset_descriptor.__get__")))
    (ht : PySem.W.takesIn K (.builtin "object.__class__") = some true) (hm : PySem.W.mroIn K C (.type "object") = some true) : ErrC K mg c C :=
  ⟨PySem.W.mg_of X G a, x, k, b, t, ⟨hg, hk, b, hd, ha, hn, ht, hm⟩, v⟩
theorem errR_of {C : Addr} {d : Str} {D : Addr} {r : Bool} (a : PySem.W.nsIn K mainGlobals d = some (some (.ref D))) (s : PySem.W.subIn K (.ref C) (.ref D) = some r) (b : PySem.W.subIn K (.ref D) (.type "BaseException") = some true)
    (h : PySem.W.hasDictIn K D = true) (t : PySem.W.typeIn K (.ref D) = some (.type "type")) : ErrR K mg C d D r := ⟨PySem.W.mg_of X G a, s, b, h, t⟩
end
theorem Errs.one {K : PySem.W.Frag} {mg : Str → Option Value} {c b d1 d2 d3 d4 : Str} (E : Errs K mg c b d1 d2 d3 d4) : Err1 K mg c := by
  obtain ⟨C, B, D1, D2, D3, D4, h, _⟩ := E.ex
  exact ⟨C, h⟩
end PL

namespace PL
open PySem PySem.Spec PyProof.Rows L2

/-! sizes, by powers of two -/
def Sz (n : Nat) (x : Int) : Prop := x.natAbs < 2 ^ n
theorem Sz.mono {m n : Nat} {x : Int} (h : Sz m x) (k : m ≤ n) : Sz n x := Nat.lt_of_lt_of_le h (Nat.pow_le_pow_right (by decide) k)
theorem Sz.mul {m n : Nat} {x y : Int} (a : Sz m x) (b : Sz n y) : Sz (m + n) (x * y) := wide_lt a b
theorem Sz.add {n : Nat} {x y : Int} (a : Sz n x) (b : Sz n y) : Sz (n + 1) (x + y) := by
  have h := Int.natAbs_add_le x y
  unfold Sz at *
  rw [Nat.pow_succ]
  omega
theorem Sz.neg {n : Nat} {x : Int} (a : Sz n x) : Sz n (-x) := by
  unfold Sz
  rw [Int.natAbs_neg]
  exact a
theorem Sz.sub {n : Nat} {x y : Int} (a : Sz n x) (b : Sz n y) : Sz (n + 1) (x - y) := by
  rw [Int.sub_eq_add_neg]
  exact a.add b.neg
theorem Sz.zero (n : Nat) : Sz n 0 := by
  unfold Sz
  exact Nat.two_pow_pos n
theorem Sz.one : Sz 1 1 := by
  unfold Sz
  decide
theorem Sz.pow {n : Nat} {x : Int} (a : Sz n x) : ∀ k : Nat, Sz (n * k + 1) (x ^ k)
  | 0 => by
    rw [Int.pow_zero]
    exact Sz.one.mono (by omega)
  | k + 1 => by
    rw [Int.pow_succ]
    exact ((Sz.pow a k).mul a).mono (by rw [Nat.mul_succ]; omega)
theorem Sz.W {m n : Nat} {x y : Int} (a : Sz m x) (b : Sz n y) (h : m + n ≤ 999000) : CMulW x y :=
  wide_mul (a.mono (Nat.le_succ m)) (b.mono (Nat.le_succ n)) (Nat.succ_pos _) (Nat.succ_pos _) (by omega)
theorem Sz.D {n : Nat} {x y : Int} (a : Sz n x) (h0 : x ≠ 0) (h : n ≤ 8990) : CDivZ y x :=
  ⟨h0, Nat.lt_of_lt_of_le (PySem.Flt.log2_lt_of (Nat.succ_pos n) (a.mono (Nat.le_succ n))) (by omega)⟩
theorem Sz.le {n : Nat} {x y : Int} (a : Sz n y) (h : x.natAbs ≤ y.natAbs) : Sz n x := Nat.lt_of_le_of_lt h a
theorem Sz.of {n : Nat} {x : Int} (h : -(2 ^ n) < x) (h2 : x < 2 ^ n) : Sz n x := by
  have e : ((2 ^ n : Nat) : Int) = 2 ^ n := by simp
  unfold Sz
  rw [← e] at h h2
  omega

/-! floor division and its rest -/
theorem fmod_pos {a b : Int} (h : 0 < b) : a.fmod b = a % b := Int.fmod_eq_emod_of_nonneg a (by omega)
theorem fdiv_pos {a b : Int} (h : 0 < b) : a.fdiv b = a / b := Int.fdiv_eq_ediv_of_nonneg a (by omega)
theorem fmod_bd {a b : Int} (h : 0 < b) : 0 ≤ a.fmod b ∧ a.fmod b < b := by
  rw [fmod_pos h]
  exact ⟨Int.emod_nonneg a (by omega), Int.emod_lt_of_pos a h⟩
theorem fmod_neg_bd {a b : Int} (h : b < 0) : b < a.fmod b ∧ a.fmod b ≤ 0 := by
  rw [Int.fmod_eq_emod]
  have h1 := Int.emod_nonneg a (show b ≠ 0 by omega)
  have h2 := Int.emod_lt_of_neg a h
  by_cases hd : 0 ≤ b ∨ b ∣ a
  · rw [if_pos hd]
    have hz : a % b = 0 := by
      rcases hd with z | z
      · omega
      · exact Int.emod_eq_zero_of_dvd z
    omega
  · rw [if_neg hd]
    have hz : a % b ≠ 0 := fun z => hd (.inr (Int.dvd_of_emod_eq_zero z))
    omega
theorem fmod_lt {a b : Int} (h : b ≠ 0) : (a.fmod b).natAbs < b.natAbs := by
  rcases Int.lt_or_gt_of_ne h with z | z
  · have := fmod_neg_bd (a := a) z
    omega
  · have := fmod_bd (a := a) z
    omega
theorem gcd_fmod (a b : Int) : Int.gcd b (a.fmod b) = Int.gcd a b := by
  rw [Int.fmod_def, Int.gcd_sub_mul_left_right, Int.gcd_comm]
theorem gcd_sz {n : Nat} {a b : Int} (h : b ≠ 0) (s : Sz n b) : Sz n (Int.gcd a b : Int) :=
  s.le (by rw [Int.natAbs_natCast]; exact Int.gcd_le_natAbs_right a h)
theorem fdiv_dvd {a b : Int} (h : b ∣ a) : a.fdiv b = a / b := Int.fdiv_eq_ediv_of_dvd h

/-! parts -/
def prt (a b : Int) : Int × Int := if b < 0 then (-(a / (Int.gcd a b : Int)), -(b / (Int.gcd a b : Int))) else (a / (Int.gcd a b : Int), b / (Int.gcd a b : Int))
def sgn1 (b : Int) : Int := if b < 0 then -1 else 1
theorem prt_eq (a b : Int) : prt a b = (a.fdiv (if b < 0 then 0 - (Int.gcd a b : Int) else (Int.gcd a b : Int)), b.fdiv (if b < 0 then 0 - (Int.gcd a b : Int) else (Int.gcd a b : Int))) := by
  have h1 := Int.gcd_dvd_left a b
  have h2 := Int.gcd_dvd_right a b
  unfold prt
  split
  · rw [Int.zero_sub, fdiv_dvd (Int.neg_dvd.mpr h1), fdiv_dvd (Int.neg_dvd.mpr h2), Int.ediv_neg, Int.ediv_neg]
  · rw [fdiv_dvd h1, fdiv_dvd h2]
theorem gcd_pos {a b : Int} (h : b ≠ 0) : (0 : Int) < (Int.gcd a b : Int) := by
  have := Int.gcd_pos_of_ne_zero_right a h
  omega
/-- a part: what it is -/
structure IsPart (p q : Int) : Prop where
  pos : 0 < q
  low : Int.gcd p q = 1
theorem prt_part {a b : Int} (h : b ≠ 0) : IsPart (prt a b).1 (prt a b).2 := by
  have hg := gcd_pos (a := a) h
  have h2 := Int.gcd_dvd_right a b
  have hc : Int.gcd (a / (Int.gcd a b : Int)) (b / (Int.gcd a b : Int)) = 1 := Int.gcd_ediv_gcd_ediv_gcd (by omega)
  obtain ⟨k, hk⟩ := h2
  have hd : b / (Int.gcd a b : Int) = k := by
    have e : b / (Int.gcd a b : Int) = ((Int.gcd a b : Int) * k) / (Int.gcd a b : Int) := by rw [← hk]
    rw [e, Int.mul_ediv_cancel_left k (by omega)]
  unfold prt
  split
  · rename_i hb
    refine ⟨?_, by rw [Int.neg_gcd, Int.gcd_neg]; exact hc⟩
    show 0 < -(b / (Int.gcd a b : Int))
    rw [hd]
    have : ¬ 0 ≤ k := fun z => by
      have := Int.mul_nonneg (Int.le_of_lt hg) z
      omega
    omega
  · rename_i hb
    refine ⟨?_, hc⟩
    show 0 < b / (Int.gcd a b : Int)
    rw [hd]
    have : ¬ k ≤ 0 := fun z => by
      have := Int.mul_nonneg (Int.le_of_lt hg) (show 0 ≤ -k by omega)
      rw [Int.mul_neg, ← hk] at this
      omega
    omega
theorem ediv_mul_swap {a b g : Int} (ha : g ∣ a) (hb : g ∣ b) : a / g * b = a * (b / g) := by
  by_cases hg : g = 0
  · subst hg
    rw [Int.ediv_zero, Int.ediv_zero, Int.zero_mul, Int.mul_zero]
  · obtain ⟨x, rfl⟩ := ha
    obtain ⟨y, rfl⟩ := hb
    rw [Int.mul_ediv_cancel_left x hg, Int.mul_ediv_cancel_left y hg, Int.mul_left_comm, Int.mul_assoc]
theorem prt_cross (a b : Int) : (prt a b).1 * b = a * (prt a b).2 := by
  have h1 := Int.gcd_dvd_left a b
  have h2 := Int.gcd_dvd_right a b
  have e := ediv_mul_swap h1 h2
  unfold prt
  split
  · show -(a / (Int.gcd a b : Int)) * b = a * -(b / (Int.gcd a b : Int))
    rw [Int.neg_mul, Int.mul_neg, e]
  · exact e
theorem ediv_natAbs_le (a : Int) (n : Nat) : (a / (n : Int)).natAbs ≤ a.natAbs + 0 ∨ n = 0 := by
  by_cases hn : n = 0
  · exact .inr hn
  · left
    exact Int.natAbs_ediv_le_natAbs a n
theorem prt_sz1 {n : Nat} {a : Int} (b : Int) (s : Sz n a) : Sz n (prt a b).1 := by
  have h := Int.natAbs_ediv_le_natAbs a (Int.gcd a b : Int)
  unfold prt
  split
  · exact (s.le h).neg
  · exact s.le h
theorem prt_sz2 {n : Nat} (a : Int) {b : Int} (s : Sz n b) : Sz n (prt a b).2 := by
  have h := Int.natAbs_ediv_le_natAbs b (Int.gcd a b : Int)
  unfold prt
  split
  · exact (s.le h).neg
  · exact s.le h
theorem cop_dvd {k a b : Int} (h : k ∣ a * b) (c : Int.gcd k a = 1) : k ∣ b := by
  have h' : k.natAbs ∣ a.natAbs * b.natAbs := by
    rw [← Int.natAbs_mul]
    exact Int.natAbs_dvd_natAbs.mpr h
  exact Int.natAbs_dvd_natAbs.mp (Nat.Coprime.dvd_of_dvd_mul_left (show Nat.gcd k.natAbs a.natAbs = 1 from c) h')
/-- two parts that tell one number are one -/
theorem part_eq {p q r s : Int} (h1 : IsPart p q) (h2 : IsPart r s) (h : p * s = r * q) : p = r ∧ q = s := by
  have a1 : q ∣ s := by
    have : q ∣ p * s := ⟨r, by rw [h, Int.mul_comm]⟩
    exact cop_dvd this (by rw [Int.gcd_comm]; exact h1.low)
  have a2 : s ∣ q := by
    have : s ∣ r * q := ⟨p, by rw [← h, Int.mul_comm]⟩
    exact cop_dvd this (by rw [Int.gcd_comm]; exact h2.low)
  have e : q = s := Int.dvd_antisymm (Int.le_of_lt h1.pos) (Int.le_of_lt h2.pos) a1 a2
  subst e
  exact ⟨Int.eq_of_mul_eq_mul_right (Int.ne_of_gt h1.pos) h, rfl⟩
theorem prt_self {p q : Int} (h : IsPart p q) : prt p q = (p, q) := by
  have hq := h.pos
  unfold prt
  rw [if_neg (by omega), h.low]
  simp
end PL
namespace PL
/-! the value of a row at p by q, all brought to one bottom -/
def hv : List Int → Int → Int → Int
  | [], _, _ => 0
  | c :: cs, p, q => c * q ^ cs.length + p * hv cs p q
theorem hv_sz {A B : Nat} {p q : Int} : ∀ (ns : List Int), (∀ c ∈ ns, Sz A c) → Sz B p → Sz B q → Sz (A + (B + 1) * ns.length) (hv ns p q)
  | [], _, _, _ => Sz.zero _
  | c :: cs, h, hp, hq => by
    have ih := hv_sz cs (fun x hx => h x (List.mem_cons_of_mem _ hx)) hp hq
    have h1 := (h c List.mem_cons_self).mul (hq.pow cs.length)
    have h2 := hp.mul ih
    have e : (B + 1) * (cs.length + 1) = (B + 1) * cs.length + B + 1 := by rw [Nat.mul_succ]; omega
    have e2 : B * cs.length + cs.length = (B + 1) * cs.length := by rw [Nat.add_mul, Nat.one_mul]
    by_cases h0 : cs.length = 0
    · have : cs = [] := List.length_eq_zero_iff.mp h0
      subst this
      have h3 : Sz A (c * q ^ 0) := by
        rw [Int.pow_zero, Int.mul_one]
        exact h c List.mem_cons_self
      show Sz _ (c * q ^ 0 + p * 0)
      rw [Int.mul_zero, Int.add_zero]
      exact h3.mono (by omega)
    · show Sz (A + (B + 1) * (cs.length + 1)) (c * q ^ cs.length + p * hv cs p q)
      rw [e]
      exact ((h1.mono (n := A + (B + 1) * cs.length + B) (by omega)).add (h2.mono (by omega))).mono (by omega)
end PL
namespace PL
open PySem PySem.Spec PyProof.Rows L2
theorem Dn {x j : Int} (h : decide (j ≠ 0 ∧ -(2 ^ 30) < j ∧ j < 2 ^ 30) = true) : CDivZ x j := by
  obtain ⟨h1, h2, h3⟩ := of_decide_eq_true h
  exact (Sz.of (n := 30) h2 h3).D h1 (by decide)
theorem Wn {i j : Int} (h : decide (-(2 ^ 100) < i ∧ i < 2 ^ 100 ∧ -(2 ^ 100) < j ∧ j < 2 ^ 100) = true) : CMulW i j := by
  obtain ⟨h1, h2, h3, h4⟩ := of_decide_eq_true h
  exact (Sz.of (n := 100) h1 h2).W (Sz.of (n := 100) h3 h4) (by decide)
theorem W20 : CMulW 2 (10 ^ 20) := Wn (by decide)
theorem W12 : CMulW 2 (10 ^ 12) := Wn (by decide)
theorem fmod_sz {x b : Int} {n : Nat} (h : 0 < b) (hb : b ≤ 2 ^ n) : Sz n (x.fmod b) := by
  have := fmod_bd (a := x) h
  exact Sz.of (by have : (0 : Int) < 2 ^ n := Int.pow_pos (by decide); omega) (by omega)
theorem fm1 {x : Int} {b : Int} (h : 0 < b) : 1 + x.fmod b ≠ 0 := by
  have := fmod_bd (a := x) h
  omega
theorem sl {n : Nat} (h : n ≤ 1000) : n ≤ sizeLine := Nat.le_of_lt (small1000 h)
theorem sl1 : 1 ≤ sizeLine := by decide
theorem sl2 : 2 ≤ sizeLine := by decide
theorem inR0 : inR 0 := ⟨by decide, by decide⟩
theorem inR1 : inR 1 := ⟨by decide, by decide⟩
theorem inRm : inR (-1) := ⟨by decide, by decide⟩
theorem SzL {n : Nat} {x : Int} (h : decide (-(2 ^ n) < x ∧ x < 2 ^ n) = true) : Sz n x := by
  obtain ⟨h1, h2⟩ := of_decide_eq_true h
  exact Sz.of h1 h2
end PL
namespace PL
open PySem PySem.Spec PyProof.Rows L2
/-! the law's own sum -/
def pw1 (p q : Int) (k : Nat) : Nat → Int → Int
  | 0, c => c
  | j + 1, c => if j < k then pw1 p q k j c * p else pw1 p q k j c * q
theorem pw1_eq (p q c : Int) (k : Nat) : ∀ j, pw1 p q k j c = c * p ^ (min j k) * q ^ (j - k)
  | 0 => by simp [pw1]
  | j + 1 => by
    unfold pw1
    rw [pw1_eq p q c k j]
    split
    · rename_i h
      rw [show min (j + 1) k = min j k + 1 by omega, show j + 1 - k = j - k by omega, Int.pow_succ]
      rw [Int.mul_assoc, Int.mul_comm (q ^ (j - k)) p, ← Int.mul_assoc, ← Int.mul_assoc]
    · rename_i h
      rw [show min (j + 1) k = min j k by omega, show j + 1 - k = j - k + 1 by omega, Int.pow_succ, Int.mul_assoc]
/-- the sum of the first k terms -/
def due (ns : List Int) (p q : Int) : Nat → Int
  | 0 => 0
  | k + 1 => due ns p q k + pw1 p q k (ns.length - 1) (ns.getD k 0)
theorem due_hv (ns : List Int) (p q : Int) : ∀ k, k ≤ ns.length → due ns p q k + p ^ k * hv (ns.drop k) p q = hv ns p q
  | 0, _ => by simp [due]
  | k + 1, h => by
    have ih := due_hv ns p q k (by omega)
    have hk : k < ns.length := by omega
    rw [List.drop_eq_getElem_cons hk] at ih
    rw [← ih, due, hv, pw1_eq, List.getD_eq_getElem?_getD, List.getElem?_eq_getElem hk, show min (ns.length - 1) k = k by omega, List.length_drop, show ns.length - 1 - k = ns.length - (k + 1) by omega]
    show due ns p q k + ns[k] * p ^ k * q ^ (ns.length - (k + 1)) + p ^ (k + 1) * hv (ns.drop (k + 1)) p q = due ns p q k + p ^ k * (ns[k] * q ^ (ns.length - (k + 1)) + p * hv (ns.drop (k + 1)) p q)
    rw [Int.pow_succ]
    grind
theorem due_all (ns : List Int) (p q : Int) : due ns p q ns.length = hv ns p q := by
  have := due_hv ns p q ns.length (Nat.le_refl _)
  rw [List.drop_length] at this
  simpa [hv] using this
theorem pw1_sz {A B : Nat} {p q c : Int} {k : Nat} (hc : Sz A c) (hp : Sz B p) (hq : Sz B q) : ∀ j, Sz (A + B * j) (pw1 p q k j c)
  | 0 => hc
  | j + 1 => by
    unfold pw1
    have ih := pw1_sz (k := k) hc hp hq j
    split
    · exact (ih.mul hp).mono (by rw [Nat.mul_succ]; omega)
    · exact (ih.mul hq).mono (by rw [Nat.mul_succ]; omega)
end PL
namespace PL
open PySem PySem.Spec PyProof.Rows L2
/-- a row, as a list or a tuple -/
def RowV (v : PV) (ns : List Int) : Prop := v = .list (ns.map PV.int) ∨ v = .tup (ns.map PV.int)
theorem RowV.el {v : PV} {ns : List Int} (h : RowV v ns) : elems v = ns.map PV.int := by rcases h with rfl | rfl <;> rfl
theorem RowV.sq {v : PV} {ns : List Int} (h : RowV v ns) : isSq v = true := by rcases h with rfl | rfl <;> rfl
theorem RowV.len {v : PV} {ns : List Int} (h : RowV v ns) : (elems v).length = ns.length := by rw [h.el, List.length_map]
theorem RowV.at {v : PV} {ns : List Int} (h : RowV v ns) {j : Nat} (hj : j < ns.length) : atI (elems v) (j : Int) = some (.int ns[j]) := by
  rw [h.el]
  exact atI_nat (by rw [List.getElem?_map, List.getElem?_eq_getElem hj]; rfl)
end PL

local macro_rules | `(tactic| walk_at "sg") => `(tactic| (repeat' (first | exact rfl | exact trivial | exact PL.Dn rfl | apply And.intro | exact of_decide_eq_true rfl | apply Exists.intro | (refine PL.impB fun _ => ?_))))
local macro_rules | `(tactic| walk_at "nf") => `(tactic| (simp only [PL.pSeq, PL.pNil, PL.pNever, PL.pSet, PL.pRet, PL.pRetO, PL.pIf, PL.pApp, PL.pPop, PL.pPut, PL.pPar, PL.pUn3, PL.eV, PL.eI, PL.eB, PL.eN, PL.eS, PL.eAdd, PL.eSub, PL.eMul, PL.eMod, PL.eDiv, PL.ePow, PL.eNeg, PL.eLt, PL.eLe, PL.eGt, PL.eGe, PL.eEqI, PL.eNeI, PL.eEq, PL.eNe, PL.cLt, PL.cLe, PL.cGt, PL.cGe, PL.cEqI, PL.cNeI, PL.cEq, PL.cNe, PL.cIsN, PL.cAnd, PL.cOr, PL.cNot, PL.cVal, PL.c0, PL.eAnd, PL.eOr, PL.eNot, PL.a0, PL.aC, PL.eTup, PL.eLst, PL.eCat, PL.eIx, PL.o0, PL.oC, PL.eCut, PL.eCutT, PL.eLen, PL.eAbs, PL.eSum, PL.eMax, PL.eMin, PL.eList, PL.eTuple, PL.eToI, PL.eIsi, PL.eCall, PL.iSq, PL.iLs, PL.iR1, PL.iR2, PL.iR3, PL.eLc, PL.gI0, PL.gI, PL.gv, PL.gd, PL.toI_int, PL.isI_int, PL.toB_bl, PL.isB_bl, PL.el_list, PL.el_tup, PL.el_scr, PL.sq_list, PL.sq_tup, PL.sq_scr, PL.ls_list, PL.ls_scr, PL.l_list, PL.t_tup, PL.ati0, PL.ati1, PL.ati2, PL.ati3, PL.it0, PL.it1, PL.it2, PL.it3, Option.isSome_some, Option.getD_some, List.map_cons, List.map_nil, List.set_cons_zero, List.set_cons_succ, List.getElem?_cons_zero, List.getElem?_cons_succ, List.length_cons, List.length_nil, true_and, and_true, and_self]))

namespace PL
open PySem PySem.Spec PyProof.Rows L2
abbrev N_divisor : List Str := ["one", "other"]
def phi_divisor : Phi := (pSeq (pWhile (cNeI (eV 1) (eI 0)) (pPar 0 1 (eV 1) (eMod (eV 0) (eV 1)))) (pRet (eAbs (eV 0))))
abbrev N_part : List Str := ["top", "bottom", "by"]
def phi_part (F_divisor : FS) : Phi := (pSeq (pIf (cEqI (eV 1) (eI 0)) pNever pNil) (pSeq (pSet 2 (eCall 2 F_divisor (aC (eV 0) (aC (eV 1) a0)))) (pSeq (pIf (cLt (eV 1) (eI 0)) (pSet 2 (eSub (eI 0) (eV 2))) pNil) (pRet (eTup (aC (eDiv (eV 0) (eV 2)) (aC (eDiv (eV 1) (eV 2)) a0)))))))
def phiX_part (F_divisor : FS) : Phi := (pSeq (pIf (cEqI (eV 1) (eI 0)) (pRaise "NoPart") pNil) (pSeq (pSet 2 (eCall 2 F_divisor (aC (eV 0) (aC (eV 1) a0)))) (pSeq (pIf (cLt (eV 1) (eI 0)) (pSet 2 (eSub (eI 0) (eV 2))) pNil) (pRet (eTup (aC (eDiv (eV 0) (eV 2)) (aC (eDiv (eV 1) (eV 2)) a0)))))))
abbrev N_below : List Str := ["one", "other"]
def phi_below : Phi := (pRet (eLt (eMul (eIx (eV 0) (eI 0)) (eIx (eV 1) (eI 1))) (eMul (eIx (eV 1) (eI 0)) (eIx (eV 0) (eI 1)))))
abbrev N_part_sum : List Str := ["one", "other"]
def phi_part_sum (F_part : FS) : Phi := (pRet (eCall 2 F_part (aC (eAdd (eMul (eIx (eV 0) (eI 0)) (eIx (eV 1) (eI 1))) (eMul (eIx (eV 1) (eI 0)) (eIx (eV 0) (eI 1)))) (aC (eMul (eIx (eV 0) (eI 1)) (eIx (eV 1) (eI 1))) a0))))
abbrev N_part_product : List Str := ["one", "other"]
def phi_part_product (F_part : FS) : Phi := (pRet (eCall 2 F_part (aC (eMul (eIx (eV 0) (eI 0)) (eIx (eV 1) (eI 0))) (aC (eMul (eIx (eV 0) (eI 1)) (eIx (eV 1) (eI 1))) a0))))
abbrev N_law_whole : List Str := ["_law_found"]
def phi_law_whole : Phi := (pRet (eAnd (eIsi "int" (eV 0)) (eNot (eIsi "bool" (eV 0)))))
abbrev N_law_cell_at : List Str := ["_law_script", "_law_k"]
def phi_law_cell_at : Phi := (pSeq (pIf (cLt (eV 1) (eLen (eV 0))) (pRet (eIx (eV 0) (eV 1))) pNil) (pRet (eI 0)))
abbrev N_law_divisor : List Str := ["_law_one", "_law_other", "_law_over"]
def phi_law_divisor : Phi := (pSeq (pWhile (cNeI (eV 1) (eI 0)) (pSeq (pSet 2 (eMod (eV 0) (eV 1))) (pSeq (pSet 0 (eV 1)) (pSet 1 (eV 2))))) (pRet (eAbs (eV 0))))
abbrev N_law_number : List Str := ["_law_script", "_law_k", "_law_cell", "_law_way"]
def phi_law_number (F_law_cell_at : FS) : Phi := (pSeq (pSet 2 (eCall 2 F_law_cell_at (aC (eV 0) (aC (eV 1) a0)))) (pSeq (pSet 3 (eMod (eCall 2 F_law_cell_at (aC (eV 0) (aC (eI 0) a0))) (eI 3))) (pSeq (pIf (cEqI (eV 3) (eI 1)) (pRet (eMul (eSub (eMod (eV 2) (eI 61)) (eI 30)) (eAdd (eI 2) (eMod (eCall 2 F_law_cell_at (aC (eV 0) (aC (eI 3) a0))) (eI 39))))) pNil) (pSeq (pIf (cEqI (eV 3) (eI 2)) (pRet (eIx (eLst (aC (eMod (eDiv (eV 2) (eI 2)) (ePow (eI 10) (eI 30))) (aC (eSub (eNeg (eI 1)) (eMod (eDiv (eV 2) (eI 2)) (ePow (eI 10) (eI 30)))) a0))) (eMod (eV 2) (eI 2)))) pNil) (pRet (eSub (eMod (eV 2) (eI 61)) (eI 30)))))))
abbrev N_law_refused : List Str := ["_law_top", "e"]
def phi_law_refused (FX_part : FS) : Phi := (pSeq (pTryR 1 2 FX_part (aC (eV 0) (aC (eI 0) a0)) "NoPart") (pRet (eB false)))
abbrev N_law_part : List Str := ["_law_top", "_law_bottom", "_law_by"]
def phi_law_part (F_law_divisor : FS) : Phi := (pSeq (pSet 2 (eCall 2 F_law_divisor (aC (eV 0) (aC (eV 1) a0)))) (pRet (eTup (aC (eDiv (eV 0) (eV 2)) (aC (eDiv (eV 1) (eV 2)) a0)))))
abbrev N_law_alike : List Str := ["_law_found", "_law_due"]
def phi_law_alike (F_law_whole : FS) : Phi := (pSeq (pIf (cOr (cNot (cVal (eIsi "tuple" (eV 0)))) (cNeI (eLen (eV 0)) (eI 2))) (pRet (eB false)) pNil) (pRet (eAnd (eCall 1 F_law_whole (aC (eIx (eV 0) (eI 0)) a0)) (eAnd (eCall 1 F_law_whole (aC (eIx (eV 0) (eI 1)) a0)) (eEq (eV 0) (eV 1))))))
abbrev N_law_met : List Str := ["_law_one", "_law_other", "_law_found", "_law_due"]
def phi_law_met (F_below : FS) (F_law_part : FS) (F_law_alike : FS) (F_part_sum : FS) (F_part_product : FS) : Phi := (pSeq (pSet 2 (eCall 2 F_below (aC (eV 0) (aC (eV 1) a0)))) (pSeq (pIf (cOr (cNot (cVal (eIsi "bool" (eV 2)))) (cNe (eV 2) (eLt (eMul (eIx (eV 0) (eI 0)) (eIx (eV 1) (eI 1))) (eMul (eIx (eV 1) (eI 0)) (eIx (eV 0) (eI 1)))))) (pRet (eB false)) pNil) (pSeq (pSet 3 (eCall 2 F_law_part (aC (eAdd (eMul (eIx (eV 0) (eI 0)) (eIx (eV 1) (eI 1))) (eMul (eIx (eV 1) (eI 0)) (eIx (eV 0) (eI 1)))) (aC (eMul (eIx (eV 0) (eI 1)) (eIx (eV 1) (eI 1))) a0)))) (pSeq (pIf (cNot (cVal (eCall 2 F_law_alike (aC (eCall 2 F_part_sum (aC (eV 0) (aC (eV 1) a0))) (aC (eV 3) a0))))) (pRet (eB false)) pNil) (pRet (eCall 2 F_law_alike (aC (eCall 2 F_part_product (aC (eV 0) (aC (eV 1) a0))) (aC (eCall 2 F_law_part (aC (eMul (eIx (eV 0) (eI 0)) (eIx (eV 1) (eI 0))) (aC (eMul (eIx (eV 0) (eI 1)) (eIx (eV 1) (eI 1))) a0))) a0))))))))
abbrev N_law : List Str := ["_law_script", "_law_top", "_law_bottom", "_law_found", "_law_other"]
def phi_law (F_law_number : FS) (F_law_cell_at : FS) (F_law_refused : FS) (F_part : FS) (F_law_whole : FS) (F_law_divisor : FS) (F_law_part : FS) (F_law_met : FS) : Phi := (pSeq (pSet 1 (eCall 2 F_law_number (aC (eV 0) (aC (eI 1) a0)))) (pSeq (pSet 2 (eCall 2 F_law_number (aC (eV 0) (aC (eI 2) a0)))) (pSeq (pIf (cOr (cEqI (eMod (eCall 2 F_law_cell_at (aC (eV 0) (aC (eI 4) a0))) (eI 8)) (eI 1)) (cEqI (eV 2) (eI 0))) (pRet (eCall 1 F_law_refused (aC (eV 1) a0))) pNil) (pSeq (pSet 3 (eCall 2 F_part (aC (eV 1) (aC (eV 2) a0)))) (pSeq (pIf (cOr (cNot (cVal (eIsi "tuple" (eV 3)))) (cOr (cNeI (eLen (eV 3)) (eI 2)) (cOr (cNot (cVal (eCall 1 F_law_whole (aC (eIx (eV 3) (eI 0)) a0)))) (cNot (cVal (eCall 1 F_law_whole (aC (eIx (eV 3) (eI 1)) a0))))))) (pRet (eB false)) pNil) (pSeq (pIf (cOr (cLt (eIx (eV 3) (eI 1)) (eI 1)) (cOr (cNeI (eMul (eIx (eV 3) (eI 0)) (eV 2)) (eMul (eV 1) (eIx (eV 3) (eI 1)))) (cNeI (eCall 2 F_law_divisor (aC (eIx (eV 3) (eI 0)) (aC (eIx (eV 3) (eI 1)) a0))) (eI 1)))) (pRet (eB false)) pNil) (pSeq (pSet 4 (eV 3)) (pSeq (pIf (cNeI (eMod (eCall 2 F_law_cell_at (aC (eV 0) (aC (eI 5) a0))) (eI 4)) (eI 1)) (pSet 4 (eCall 2 F_law_part (aC (eCall 2 F_law_number (aC (eV 0) (aC (eI 5) a0))) (aC (eAdd (eI 1) (eMod (eCall 2 F_law_cell_at (aC (eV 0) (aC (eI 6) a0))) (ePow (eI 10) (eI 30)))) a0)))) pNil) (pRet (eCall 2 F_law_met (aC (eV 3) (aC (eV 4) a0))))))))))))

def s_divisor : FS := ⟨fun as => ∃ a b, as = [.int a, .int b], fun as => match as with
  | [.int a, .int b] => .int (Int.gcd a b : Int)
  | _ => .non⟩
theorem p_divisor : ∀ as, as.length = 2 → s_divisor.g as → phi_divisor ⟨fun _ => False, fun v => v = s_divisor.f as⟩ (st0 N_divisor as) := by
  rintro as - ⟨a, b, rfl⟩
  refine ⟨fun m ρ => ∃ x y, ρ = [some (.int x), some (.int y)] ∧ m = y.natAbs ∧ Int.gcd x y = Int.gcd a b, ⟨_, a, b, rfl, rfl, rfl⟩, ?_⟩
  rintro m ρ ⟨x, y, rfl, rfl, h⟩
  refine ⟨⟨rfl, trivial, rfl, rfl⟩, fun hc => ?_, fun hc => ?_⟩
  · have hy : y ≠ 0 := of_decide_eq_true hc
    exact ⟨rfl, ⟨rfl, rfl, rfl, rfl, hy⟩, _, fmod_lt (a := x) hy, y, x.fmod y, rfl, rfl, by rw [gcd_fmod]; exact h⟩
  · have hy : y = 0 := Classical.not_not.mp (of_decide_eq_false hc)
    subst hy
    refine ⟨⟨rfl, rfl⟩, ?_⟩
    rw [Int.gcd_zero] at h
    show PV.int _ = PV.int _
    rw [← h]
    rfl

theorem p_law_divisor : ∀ as, as.length = 2 → s_divisor.g as → phi_law_divisor ⟨fun _ => False, fun v => v = s_divisor.f as⟩ (st0 N_law_divisor as) := by
  rintro as - ⟨a, b, rfl⟩
  refine ⟨fun m ρ => ∃ x y z, ρ = [some (.int x), some (.int y), z] ∧ m = y.natAbs ∧ Int.gcd x y = Int.gcd a b, ⟨_, a, b, none, rfl, rfl, rfl⟩, ?_⟩
  rintro m ρ ⟨x, y, z, rfl, rfl, h⟩
  refine ⟨⟨rfl, trivial, rfl, rfl⟩, fun hc => ?_, fun hc => ?_⟩
  · have hy : y ≠ 0 := of_decide_eq_true hc
    exact ⟨⟨rfl, rfl, rfl, rfl, hy⟩, rfl, rfl, _, fmod_lt (a := x) hy, y, x.fmod y, _, rfl, rfl, by rw [gcd_fmod]; exact h⟩
  · have hy : y = 0 := Classical.not_not.mp (of_decide_eq_false hc)
    subst hy
    refine ⟨⟨rfl, rfl⟩, ?_⟩
    rw [Int.gcd_zero] at h
    show PV.int _ = PV.int _
    rw [← h]
    rfl

/-- the part of two whole numbers -/
def s_part : FS := ⟨fun as => ∃ a b, as = [.int a, .int b] ∧ b ≠ 0 ∧ Sz 8900 b, fun as => match as with
  | [.int a, .int b] => .tup [.int (prt a b).1, .int (prt a b).2]
  | _ => .non⟩
theorem s_part_f (a b : Int) : s_part.f [.int a, .int b] = .tup [.int (a.fdiv (if b < 0 then 0 - (Int.gcd a b : Int) else (Int.gcd a b : Int))), .int (b.fdiv (if b < 0 then 0 - (Int.gcd a b : Int) else (Int.gcd a b : Int)))] := by
  show PV.tup [.int (prt a b).1, .int (prt a b).2] = _
  rw [prt_eq]

theorem p_part : ∀ as, as.length = 2 → s_part.g as → phi_part s_divisor ⟨fun _ => False, fun v => v = s_part.f as⟩ (st0 N_part as) := by
  rintro as - ⟨a, b, rfl, hb, sb⟩
  have hg := gcd_pos (a := a) hb
  have sg := gcd_sz (a := a) hb sb
  refine ⟨⟨rfl, trivial, rfl, rfl⟩, fun hc => absurd (of_decide_eq_true hc) hb, fun _ => ?_⟩
  refine ⟨⟨⟨rfl, rfl, trivial⟩, rfl, a, b, rfl⟩, ⟨rfl, trivial, rfl, rfl⟩, fun hc => ?_, fun hc => ?_⟩
  · have hn : b < 0 := of_decide_eq_true hc
    refine ⟨⟨trivial, rfl, rfl, rfl⟩, ⟨⟨⟨rfl, rfl, rfl, rfl, ?_⟩, ⟨rfl, rfl, rfl, rfl, ?_⟩, trivial⟩, by show 2 ≤ sizeLine; decide⟩, ?_⟩
    · exact (sg.neg.mono (Nat.le_refl _)).D (y := a) (x := -(Int.gcd a b : Int)) (by omega) (by omega) |> fun z => by rw [← Int.zero_sub] at z; exact z
    · exact (sg.neg.mono (Nat.le_refl _)).D (y := b) (x := -(Int.gcd a b : Int)) (by omega) (by omega) |> fun z => by rw [← Int.zero_sub] at z; exact z
    · show _ = s_part.f [.int a, .int b]
      rw [s_part_f, if_pos hn]
      rfl
  · have hn : ¬ b < 0 := of_decide_eq_false hc
    refine ⟨⟨⟨⟨rfl, rfl, rfl, rfl, sg.D (by omega) (by omega)⟩, ⟨rfl, rfl, rfl, rfl, sg.D (by omega) (by omega)⟩, trivial⟩, by show 2 ≤ sizeLine; decide⟩, ?_⟩
    show _ = s_part.f [.int a, .int b]
    rw [s_part_f, if_neg hn]
    rfl

def s_law_whole : FS := ⟨fun _ => True, fun as => match as with
  | [v] => .bl (inTy "int" v && !inTy "bool" v)
  | _ => .non⟩
theorem p_law_whole : ∀ as, as.length = 1 → s_law_whole.g as → phi_law_whole ⟨fun _ => False, fun v => v = s_law_whole.f as⟩ (st0 N_law_whole as) := by
  intro as hl _
  match as, hl with
  | [v], _ => exact ⟨⟨rfl, rfl, fun _ => ⟨⟨rfl, rfl⟩, rfl⟩⟩, rfl⟩

def cellAt (ns : List Int) (k : Nat) : Int := ns.getD k 0
def s_law_cell_at : FS := ⟨fun as => ∃ ns k, as = [.scr ns, .int k] ∧ 0 ≤ k, fun as => match as with
  | [.scr ns, .int k] => .int (cellAt ns k.toNat)
  | _ => .non⟩
theorem p_law_cell_at : ∀ as, as.length = 2 → s_law_cell_at.g as → phi_law_cell_at ⟨fun _ => False, fun v => v = s_law_cell_at.f as⟩ (st0 N_law_cell_at as) := by
  rintro as - ⟨ns, k, rfl, hk⟩
  obtain ⟨j, rfl⟩ : ∃ j : Nat, k = (j : Int) := ⟨k.toNat, by omega⟩
  refine ⟨⟨rfl, ⟨rfl, rfl⟩, rfl, rfl⟩, fun hc => ?_, fun hc => ⟨trivial, ?_⟩⟩
  · have h1 : (j : Int) < ((ns.map PV.int).length : Int) := of_decide_eq_true hc
    rw [List.length_map] at h1
    have h2 : j < ns.length := by omega
    have e : atI (ns.map PV.int) (j : Int) = some (.int ns[j]) := atI_nat (by rw [List.getElem?_map, List.getElem?_eq_getElem h2]; rfl)
    refine ⟨⟨rfl, rfl, rfl, rfl, ?_⟩, ?_⟩
    · show (atI (ns.map PV.int) (j : Int)).isSome = true
      rw [e]
      rfl
    · show (atI (ns.map PV.int) (j : Int)).getD .non = PV.int (cellAt ns ((j : Int)).toNat)
      rw [e, Int.toNat_natCast, cellAt, List.getD_eq_getElem?_getD, List.getElem?_eq_getElem h2]
      rfl
  · have h1 : ¬ (j : Int) < ((ns.map PV.int).length : Int) := of_decide_eq_false hc
    rw [List.length_map] at h1
    show PV.int 0 = PV.int (cellAt ns ((j : Int)).toNat)
    rw [Int.toNat_natCast, cellAt, List.getD_eq_getElem?_getD, List.getElem?_eq_none (by omega)]
    rfl

abbrev pv (p q : Int) : PV := .tup [.int p, .int q]
def s_below : FS := ⟨fun as => ∃ a b c d, as = [pv a b, pv c d] ∧ CMulW a d ∧ CMulW c b, fun as => match as with
  | [.tup [.int a, .int b], .tup [.int c, .int d]] => .bl (decide (a * d < c * b))
  | _ => .non⟩
theorem p_below : ∀ as, as.length = 2 → s_below.g as → phi_below ⟨fun _ => False, fun v => v = s_below.f as⟩ (st0 N_below as) := by
  rintro as - ⟨a, b, c, d, rfl, h1, h2⟩
  exact ⟨by walk_at "sg" <;> assumption, rfl⟩

def s_part_sum : FS := ⟨fun as => ∃ a b c d, as = [pv a b, pv c d] ∧ CMulW a d ∧ CMulW c b ∧ CMulW b d ∧ b * d ≠ 0 ∧ Sz 8900 (b * d), fun as => match as with
  | [.tup [.int a, .int b], .tup [.int c, .int d]] => pv (prt (a * d + c * b) (b * d)).1 (prt (a * d + c * b) (b * d)).2
  | _ => .non⟩
theorem p_part_sum : ∀ as, as.length = 2 → s_part_sum.g as → phi_part_sum s_part ⟨fun _ => False, fun v => v = s_part_sum.f as⟩ (st0 N_part_sum as) := by
  rintro as - ⟨a, b, c, d, rfl, h1, h2, h3, h4, h5⟩
  exact ⟨by walk_at "sg" <;> assumption, rfl⟩

def s_part_product : FS := ⟨fun as => ∃ a b c d, as = [pv a b, pv c d] ∧ CMulW a c ∧ CMulW b d ∧ b * d ≠ 0 ∧ Sz 8900 (b * d), fun as => match as with
  | [.tup [.int a, .int b], .tup [.int c, .int d]] => pv (prt (a * c) (b * d)).1 (prt (a * c) (b * d)).2
  | _ => .non⟩
theorem p_part_product : ∀ as, as.length = 2 → s_part_product.g as → phi_part_product s_part ⟨fun _ => False, fun v => v = s_part_product.f as⟩ (st0 N_part_product as) := by
  rintro as - ⟨a, b, c, d, rfl, h1, h3, h4, h5⟩
  exact ⟨by walk_at "sg" <;> assumption, rfl⟩

def sX_part : FS := ⟨fun as => ∃ a, as = [.int a, .int 0], fun _ => .exc "NoPart"⟩
theorem pX_part : ∀ as, as.length = 2 → sX_part.g as → phiX_part s_divisor ⟨fun _ => False, fun v => v = sX_part.f as⟩ (st0 N_part as) := by
  rintro as - ⟨a, rfl⟩
  exact ⟨⟨rfl, trivial, rfl, rfl⟩, fun _ => rfl, fun hc => absurd (show decide ((0 : Int) = 0) = false from hc) (by decide)⟩
def s_law_refused : FS := ⟨fun as => ∃ a, as = [.int a], fun _ => .bl true⟩
theorem p_law_refused : ∀ as, as.length = 1 → s_law_refused.g as → phi_law_refused sX_part ⟨fun _ => False, fun v => v = s_law_refused.f as⟩ (st0 N_law_refused as) := by
  rintro as - ⟨a, rfl⟩
  exact ⟨by show 1 < 2; decide, ⟨rfl, trivial, trivial⟩, rfl, ⟨a, rfl⟩, rfl, rfl⟩
def s_part1 : FS := ⟨fun as => ∃ a b, as = [.int a, .int b] ∧ 0 < b ∧ Sz 8900 b, s_part.f⟩
theorem p_law_part : ∀ as, as.length = 2 → s_part1.g as → phi_law_part s_divisor ⟨fun _ => False, fun v => v = s_part1.f as⟩ (st0 N_law_part as) := by
  rintro as - ⟨a, b, rfl, hb, sb⟩
  have hg := gcd_pos (a := a) (b := b) (by omega)
  have sg := gcd_sz (a := a) (by omega) sb
  refine ⟨⟨⟨rfl, rfl, trivial⟩, rfl, a, b, rfl⟩, ⟨⟨⟨rfl, rfl, rfl, rfl, sg.D (by omega) (by omega)⟩, ⟨rfl, rfl, rfl, rfl, sg.D (by omega) (by omega)⟩, trivial⟩, by show 2 ≤ sizeLine; decide⟩, ?_⟩
  show _ = s_part.f [.int a, .int b]
  rw [s_part_f, if_neg (by omega)]
  rfl
def lnum (ns : List Int) (k : Nat) : Int := if (cellAt ns 0).fmod 3 = 1 then ((cellAt ns k).fmod 61 - 30) * (2 + (cellAt ns 3).fmod 39) else
  if (cellAt ns 0).fmod 3 = 2 then (if (cellAt ns k).fmod 2 = 0 then ((cellAt ns k).fdiv 2).fmod (10 ^ 30) else -1 - ((cellAt ns k).fdiv 2).fmod (10 ^ 30)) else (cellAt ns k).fmod 61 - 30
theorem lnum_sz (ns : List Int) (k : Nat) : Sz 105 (lnum ns k) := by
  unfold lnum
  split
  · have h1 : Sz 7 ((cellAt ns k).fmod 61 - 30) := (fmod_sz (n := 6) (by decide) (by decide)).sub (Sz.of (n := 6) (by decide) (by decide))
    have h2 : Sz 7 (2 + (cellAt ns 3).fmod 39) := (Sz.of (n := 6) (by decide) (by decide)).add (fmod_sz (n := 6) (by decide) (by decide))
    exact (h1.mul h2).mono (by decide)
  · split
    · have h1 : Sz 100 (((cellAt ns k).fdiv 2).fmod (10 ^ 30)) := fmod_sz (n := 100) (by decide) (by decide)
      split
      · exact h1.mono (by decide)
      · exact ((Sz.of (n := 100) (by decide) (by decide)).sub h1).mono (by decide)
    · exact ((fmod_sz (n := 6) (by decide) (by decide)).sub (Sz.of (n := 6) (by decide) (by decide))).mono (by decide)
def s_law_number : FS := ⟨fun as => ∃ ns k, as = [.scr ns, .int k] ∧ 0 ≤ k, fun as => match as with
  | [.scr ns, .int k] => .int (lnum ns k.toNat)
  | _ => .non⟩
theorem at2_0 (x y : PV) {c : Int} (h : c.fmod 2 = 0) : atI [x, y] (c.fmod 2) = some x := by rw [h]; rfl
theorem at2_1 (x y : PV) {c : Int} (h : ¬ c.fmod 2 = 0) : atI [x, y] (c.fmod 2) = some y := by
  have := fmod_bd (a := c) (b := 2) (by decide)
  rw [show c.fmod 2 = 1 by omega]
  rfl
theorem p_law_number : ∀ as, as.length = 2 → s_law_number.g as → phi_law_number s_law_cell_at ⟨fun _ => False, fun v => v = s_law_number.f as⟩ (st0 N_law_number as) := by
  rintro as - ⟨ns, k, rfl, hk⟩
  have e : s_law_number.f [.scr ns, .int k] = .int (lnum ns k.toNat) := rfl
  rw [e]
  have W1 : CMulW ((cellAt ns k.toNat).fmod 61 - 30) (2 + (cellAt ns 3).fmod 39) :=
    ((fmod_sz (n := 6) (by decide) (by decide)).sub (Sz.of (n := 6) (by decide) (by decide))).W ((Sz.of (n := 6) (by decide) (by decide)).add (fmod_sz (n := 6) (by decide) (by decide))) (by decide)
  refine ⟨⟨⟨rfl, rfl, trivial⟩, rfl, ns, k, rfl, hk⟩, by walk_at "sg", by walk_at "sg", fun hc => ?_, fun hc => ⟨by walk_at "sg", fun hd => ?_, fun hd => ⟨by walk_at "sg", ?_⟩⟩⟩
  · have hc : (cellAt ns 0).fmod 3 = 1 := of_decide_eq_true hc
    refine ⟨by walk_at "sg" <;> exact W1, ?_⟩
    rw [lnum, if_pos hc]
    rfl
  · have hc : ¬ (cellAt ns 0).fmod 3 = 1 := of_decide_eq_false hc
    have hd : (cellAt ns 0).fmod 3 = 2 := of_decide_eq_true hd
    rw [lnum, if_neg hc, if_pos hd]
    by_cases h0 : (cellAt ns k.toNat).fmod 2 = 0
    · refine ⟨⟨by walk_at "sg" <;> exact sl2, by walk_at "sg", rfl, rfl, ?_⟩, ?_⟩
      · exact congrArg Option.isSome (at2_0 _ _ h0)
      · rw [if_pos h0]
        exact congrArg (fun o => Option.getD o .non) (at2_0 _ _ h0)
    · refine ⟨⟨by walk_at "sg" <;> exact sl2, by walk_at "sg", rfl, rfl, ?_⟩, ?_⟩
      · exact congrArg Option.isSome (at2_1 _ _ h0)
      · rw [if_neg h0]
        exact congrArg (fun o => Option.getD o .non) (at2_1 _ _ h0)
  · have hc : ¬ (cellAt ns 0).fmod 3 = 1 := of_decide_eq_false hc
    have hd : ¬ (cellAt ns 0).fmod 3 = 2 := of_decide_eq_false hd
    rw [lnum, if_neg hc, if_neg hd]
    rfl
def s_law_alike : FS := ⟨fun as => ∃ a b, as = [pv a b, pv a b], fun _ => .bl true⟩
theorem shP_pv (a b : Int) : shP (pv a b) = true := shP_of rfl (by simp [dep, deps])
theorem eqP_bl (b : Bool) : eqP (.bl b) (.bl b) = true := by cases b <;> rfl
theorem p_law_alike : ∀ as, as.length = 2 → s_law_alike.g as → phi_law_alike s_law_whole ⟨fun _ => False, fun v => v = s_law_alike.f as⟩ (st0 N_law_alike as) := by
  rintro as - ⟨a, b, rfl⟩
  refine ⟨⟨⟨rfl, rfl⟩, fun _ => ⟨⟨rfl, rfl⟩, trivial, rfl, rfl⟩⟩, fun hc => absurd (show (false || decide ((2 : Int) ≠ 2)) = true from hc) (by decide), fun _ => ⟨⟨by walk_at "sg", rfl, fun _ => ⟨⟨by walk_at "sg", rfl, fun _ => ⟨⟨rfl, rfl, shP_pv a b, shP_pv a b⟩, rfl⟩⟩, rfl⟩⟩, ?_⟩⟩
  show PV.bl (true && (true && eqP (pv a b) (pv a b))) = .bl true
  rw [eqP_self rfl]
  rfl
def s_law_met : FS := ⟨fun as => ∃ a b c d, as = [pv a b, pv c d] ∧ 0 < b ∧ 0 < d ∧ Sz 400 a ∧ Sz 400 b ∧ Sz 400 c ∧ Sz 400 d, fun _ => .bl true⟩
theorem p_law_met : ∀ as, as.length = 2 → s_law_met.g as → phi_law_met s_below s_part1 s_law_alike s_part_sum s_part_product ⟨fun _ => False, fun v => v = s_law_met.f as⟩ (st0 N_law_met as) := by
  rintro as - ⟨a, b, c, d, rfl, hb, hd, sa, sb, sc, sd⟩
  have w1 : CMulW a d := sa.W sd (by decide)
  have w2 : CMulW c b := sc.W sb (by decide)
  have w3 : CMulW b d := sb.W sd (by decide)
  have w4 : CMulW a c := sa.W sc (by decide)
  have hbd : 0 < b * d := Int.mul_pos hb hd
  have sbd : Sz 8900 (b * d) := (sb.mul sd).mono (by decide)
  have n : b * d ≠ 0 := by omega
  refine ⟨⟨⟨rfl, rfl, trivial⟩, rfl, a, b, c, d, rfl, w1, w2⟩, ⟨⟨rfl, rfl⟩, fun _ => ⟨rfl, by walk_at "sg" <;> assumption, rfl, rfl⟩⟩, fun hc => ?_, fun _ => ⟨by walk_at "sg" <;> first | assumption | exact ⟨_, _, rfl, hbd, sbd⟩, ?_⟩⟩
  · have hc : (false || !eqP (.bl (decide (a * d < c * b))) (.bl (decide (a * d < c * b)))) = true := hc
    rw [eqP_bl] at hc
    cases hc
  · refine ⟨⟨⟨⟨⟨⟨rfl, rfl, trivial⟩, rfl, a, b, c, d, rfl, w1, w2, w3, n, sbd⟩, rfl, trivial⟩, rfl, _, _, rfl⟩, rfl⟩, fun hc => absurd (show (!true) = true from hc) (by decide), fun _ => ⟨⟨⟨⟨⟨rfl, rfl, trivial⟩, rfl, a, b, c, d, rfl, w4, w3, n, sbd⟩, ⟨⟨by walk_at "sg" <;> assumption, by walk_at "sg" <;> assumption, trivial⟩, rfl, _, _, rfl, hbd, sbd⟩, trivial⟩, rfl, _, _, rfl⟩, rfl⟩⟩
def s_law : FS := ⟨fun as => ∃ ns, as = [.scr ns], fun _ => .bl true⟩
theorem p_law : ∀ as, as.length = 1 → s_law.g as → phi_law s_law_number s_law_cell_at s_law_refused s_part s_law_whole s_divisor s_part1 s_law_met ⟨fun _ => False, fun v => v = s_law.f as⟩ (st0 N_law as) := by
  rintro as - ⟨ns, rfl⟩
  have st := lnum_sz ns 1
  have sb := lnum_sz ns 2
  have s5 := lnum_sz ns 5
  have s6 : Sz 105 (1 + (cellAt ns 6).fmod (10 ^ 30)) := ((SzL (n := 100) (by decide)).add (fmod_sz (n := 100) (by decide) (by decide))).mono (by decide)
  have h6 : 0 < 1 + (cellAt ns 6).fmod (10 ^ 30) := by
    have := fmod_bd (a := cellAt ns 6) (b := 10 ^ 30) (by decide)
    omega
  refine ⟨⟨⟨rfl, trivial, trivial⟩, rfl, ns, 1, rfl, by decide⟩, ⟨⟨rfl, trivial, trivial⟩, rfl, ns, 2, rfl, by decide⟩, by walk_at "sg", fun _ => ⟨⟨⟨rfl, trivial⟩, rfl, lnum ns 1, rfl⟩, rfl⟩, fun hc => ?_⟩
  have hc : (decide ((cellAt ns 4).fmod 8 = 1) || decide (lnum ns 2 = 0)) = false := hc
  have hb : lnum ns 2 ≠ 0 := by
    rw [Bool.or_eq_false_iff] at hc
    exact of_decide_eq_false hc.2
  have hp := prt_part (a := lnum ns 1) hb
  have hx := prt_cross (lnum ns 1) (lnum ns 2)
  have s1 := prt_sz1 (lnum ns 2) st
  have s2 := prt_sz2 (lnum ns 1) sb
  have ep : s_part.f [.int (lnum ns 1), .int (lnum ns 2)] = pv (prt (lnum ns 1) (lnum ns 2)).1 (prt (lnum ns 1) (lnum ns 2)).2 := rfl
  refine ⟨⟨⟨rfl, rfl, trivial⟩, rfl, _, _, rfl, hb, sb.mono (by decide)⟩, ?_⟩
  show (pSeq _ _) _ [some (.scr ns), some (.int (lnum ns 1)), some (.int (lnum ns 2)), some (s_part.f [.int (lnum ns 1), .int (lnum ns 2)]), none]
  rw [ep]
  generalize hP : (prt (lnum ns 1) (lnum ns 2)).1 = p at hp hx s1
  generalize hQ : (prt (lnum ns 1) (lnum ns 2)).2 = q at hp hx s2
  refine ⟨by walk_at "sg", fun hc => absurd (show (false || (decide ((2 : Int) ≠ 2) || (!(true && !false) || !(true && !false)))) = true from hc) (by decide), fun _ => ?_⟩
  refine ⟨by walk_at "sg" <;> first | exact s1.W sb (by decide) | exact st.W s2 (by decide), fun hc => ?_, fun _ => ?_⟩
  · have hc : (decide (q < 1) || (decide (p * lnum ns 2 ≠ lnum ns 1 * q) || decide ((Int.gcd p q : Int) ≠ 1))) = true := hc
    have := hp.pos
    rw [decide_eq_false (by omega), decide_eq_false (by rw [hx]; simp), decide_eq_false (by rw [hp.low]; simp)] at hc
    cases hc
  · refine ⟨rfl, by walk_at "sg", fun hc => ?_, fun hc => ?_⟩
    · have q5 := prt_part (a := lnum ns 5) (b := 1 + (cellAt ns 6).fmod (10 ^ 30)) (by omega)
      exact ⟨by walk_at "sg" <;> first | exact h6 | exact s6.mono (by decide) | decide, ⟨⟨rfl, rfl, trivial⟩, rfl, p, q, _, _, rfl, hp.pos, q5.pos, s1.mono (by decide), s2.mono (by decide), (prt_sz1 _ s5).mono (by decide), (prt_sz2 _ s6).mono (by decide)⟩, rfl⟩
    · exact ⟨⟨⟨rfl, rfl, trivial⟩, rfl, p, q, p, q, rfl, hp.pos, hp.pos, s1.mono (by decide), s2.mono (by decide), s1.mono (by decide), s2.mono (by decide)⟩, rfl⟩

def topS (i : Nat) : Stmt := PySem.Challenge.pw_rootpeg_k01_parts.main.body.getD i (.Pass ⟨0, 0, 0, 0⟩)
theorem sc_divisor : FnScope N_divisor ["one", "other"] (defScope (topS 8)) := ⟨rfl, rfl, rfl, by decide +kernel, rfl, by decide +kernel, by decide +kernel⟩
theorem d_divisor {P : Program} {w : World} {K : PySem.W.Frag} {mg : Str → Option Value} {base : Heap} (B : Blt mg) {me : FS} (T : Top K mg "divisor" (topS 8) ["one", "other"])
    (pure : ∀ as, as.length = 2 → me.g as → phi_divisor ⟨fun _ => False, fun v => v = me.f as⟩ (st0 N_divisor as)) : Cal P w K mg base "divisor" 1 2 .S me.g me.f   :=
  mkCal (phi_divisor) pure T sc_divisor rfl fun fa cdv A outer s H E hr => ⟨_, [], (zf [] (zc (swhile PassesOwn.never (yneI (xv 1) xint) (zw (o2 := []) (z1 (spar 0 1 rfl sc_divisor.nd (xv 1) (xmod (xv 0) (xv 1)))))) (z1 (sret (xabs B.abs (xv 0)))))), by kernel_rfl⟩
theorem sc_part : FnScope N_part ["top", "bottom"] (defScope (topS 9)) := ⟨rfl, rfl, rfl, by decide +kernel, rfl, by decide +kernel, by decide +kernel⟩
theorem d_part {P : Program} {w : World} {K : PySem.W.Frag} {mg : Str → Option Value} {base : Heap} (B : Blt mg) {F_divisor : FS} (C_divisor : Cal P w K mg base "divisor" 1 2 .S F_divisor.g F_divisor.f) {me : FS} (T : Top K mg "part" (topS 9) ["top", "bottom"])
    (pure : ∀ as, as.length = 2 → me.g as → phi_part F_divisor ⟨fun _ => False, fun v => v = me.f as⟩ (st0 N_part as)) : Cal P w K mg base "part" 2 2 .S me.g me.f   :=
  mkCal (phi_part F_divisor) pure T sc_part rfl fun fa cdv A outer s H E hr => ⟨_, [], (zf [] (zc (sif (yeqI (xv 1) xint) (z1 snever) (zw (o2 := []) z0)) (zc (sset 2 (xcall C_divisor (hr.mono (by decide)) (xa (xv 0) (xa (xv 1) xa0))) sc_part.nd) (zf [] (zc (sif (ylt (xv 1) xint) (zw (o2 := []) (z1 (sset 2 (xsub xint (xv 2)) sc_part.nd))) (zw (o2 := []) z0)) (z1 (sret (xtup (xa (xdiv (xv 0) (xv 2)) (xa (xdiv (xv 1) (xv 2)) xa0)))))))))), by kernel_rfl⟩
theorem dX_part {P : Program} {w : World} {K : PySem.W.Frag} {mg : Str → Option Value} {base : Heap} (B : Blt mg) {F_divisor : FS} (C_divisor : Cal P w K mg base "divisor" 1 2 .S F_divisor.g F_divisor.f) {A_NoPart : Addr} (E_NoPart : ErrC K mg "NoPart" A_NoPart) {me : FS} (T : Top K mg "part" (topS 9) ["top", "bottom"])
    (pure : ∀ as, as.length = 2 → me.g as → phiX_part F_divisor ⟨fun _ => False, fun v => v = me.f as⟩ (st0 N_part as)) : CalX P w K mg base "part" 2 2 .S me.g me.f   :=
  mkCalX (phiX_part F_divisor) pure T sc_part rfl fun fa cdv A outer s H E hr => ⟨_, [], (zf [] (zc (sif (yeqI (xv 1) xint) (z1 (sraise rfl (takes_of rfl rfl rfl rfl) E_NoPart (fun _ _ h => h _ E_NoPart.g))) (zw (o2 := []) z0)) (zc (sset 2 (xcall C_divisor (hr.mono (by decide)) (xa (xv 0) (xa (xv 1) xa0))) sc_part.nd) (zf [] (zc (sif (ylt (xv 1) xint) (zw (o2 := []) (z1 (sset 2 (xsub xint (xv 2)) sc_part.nd))) (zw (o2 := []) z0)) (z1 (sret (xtup (xa (xdiv (xv 0) (xv 2)) (xa (xdiv (xv 1) (xv 2)) xa0)))))))))), by kernel_rfl⟩
theorem sc_below : FnScope N_below ["one", "other"] (defScope (topS 10)) := ⟨rfl, rfl, rfl, by decide +kernel, rfl, by decide +kernel, by decide +kernel⟩
theorem d_below {P : Program} {w : World} {K : PySem.W.Frag} {mg : Str → Option Value} {base : Heap} (B : Blt mg) {me : FS} (T : Top K mg "below" (topS 10) ["one", "other"])
    (pure : ∀ as, as.length = 2 → me.g as → phi_below ⟨fun _ => False, fun v => v = me.f as⟩ (st0 N_below as)) : Cal P w K mg base "below" 1 2 .S me.g me.f   :=
  mkCal (phi_below) pure T sc_below rfl fun fa cdv A outer s H E hr => ⟨_, [], (z1 (sret (xlt (xmul (xix (xv 0) xint) (xix (xv 1) xint)) (xmul (xix (xv 1) xint) (xix (xv 0) xint))))), by kernel_rfl⟩
theorem sc_part_sum : FnScope N_part_sum ["one", "other"] (defScope (topS 11)) := ⟨rfl, rfl, rfl, by decide +kernel, rfl, by decide +kernel, by decide +kernel⟩
theorem d_part_sum {P : Program} {w : World} {K : PySem.W.Frag} {mg : Str → Option Value} {base : Heap} (B : Blt mg) {F_part : FS} (C_part : Cal P w K mg base "part" 2 2 .S F_part.g F_part.f) {me : FS} (T : Top K mg "part_sum" (topS 11) ["one", "other"])
    (pure : ∀ as, as.length = 2 → me.g as → phi_part_sum F_part ⟨fun _ => False, fun v => v = me.f as⟩ (st0 N_part_sum as)) : Cal P w K mg base "part_sum" 3 2 .S me.g me.f   :=
  mkCal (phi_part_sum F_part) pure T sc_part_sum rfl fun fa cdv A outer s H E hr => ⟨_, [], (z1 (sret (xcall C_part (hr.mono (by decide)) (xa (xadd (xmul (xix (xv 0) xint) (xix (xv 1) xint)) (xmul (xix (xv 1) xint) (xix (xv 0) xint))) (xa (xmul (xix (xv 0) xint) (xix (xv 1) xint)) xa0))))), by kernel_rfl⟩
theorem sc_part_product : FnScope N_part_product ["one", "other"] (defScope (topS 12)) := ⟨rfl, rfl, rfl, by decide +kernel, rfl, by decide +kernel, by decide +kernel⟩
theorem d_part_product {P : Program} {w : World} {K : PySem.W.Frag} {mg : Str → Option Value} {base : Heap} (B : Blt mg) {F_part : FS} (C_part : Cal P w K mg base "part" 2 2 .S F_part.g F_part.f) {me : FS} (T : Top K mg "part_product" (topS 12) ["one", "other"])
    (pure : ∀ as, as.length = 2 → me.g as → phi_part_product F_part ⟨fun _ => False, fun v => v = me.f as⟩ (st0 N_part_product as)) : Cal P w K mg base "part_product" 3 2 .S me.g me.f   :=
  mkCal (phi_part_product F_part) pure T sc_part_product rfl fun fa cdv A outer s H E hr => ⟨_, [], (z1 (sret (xcall C_part (hr.mono (by decide)) (xa (xmul (xix (xv 0) xint) (xix (xv 1) xint)) (xa (xmul (xix (xv 0) xint) (xix (xv 1) xint)) xa0))))), by kernel_rfl⟩
theorem sc_law_whole : FnScope N_law_whole ["_law_found"] (defScope (topS 14)) := ⟨rfl, rfl, rfl, by decide +kernel, rfl, by decide +kernel, by decide +kernel⟩
theorem d_law_whole {P : Program} {w : World} {K : PySem.W.Frag} {mg : Str → Option Value} {base : Heap} (B : Blt mg) {me : FS} (T : Top K mg "_law_whole" (topS 14) ["_law_found"])
    (pure : ∀ as, as.length = 1 → me.g as → phi_law_whole ⟨fun _ => False, fun v => v = me.f as⟩ (st0 N_law_whole as)) : Cal P w K mg base "_law_whole" 1 1 .S me.g me.f   :=
  mkCal (phi_law_whole) pure T sc_law_whole rfl fun fa cdv A outer s H E hr => ⟨_, [], (z1 (sret (xand (xisi (T := "int") (T' := "int") B.isi B.int boot_int (xv 0) (by simp)) (xone (xnot (xisi (T := "bool") (T' := "bool") B.isi B.bool boot_bool (xv 0) (by simp))))))), by kernel_rfl⟩
theorem sc_law_cell_at : FnScope N_law_cell_at ["_law_script", "_law_k"] (defScope (topS 15)) := ⟨rfl, rfl, rfl, by decide +kernel, rfl, by decide +kernel, by decide +kernel⟩
theorem d_law_cell_at {P : Program} {w : World} {K : PySem.W.Frag} {mg : Str → Option Value} {base : Heap} (B : Blt mg) {me : FS} (T : Top K mg "_law_cell_at" (topS 15) ["_law_script", "_law_k"])
    (pure : ∀ as, as.length = 2 → me.g as → phi_law_cell_at ⟨fun _ => False, fun v => v = me.f as⟩ (st0 N_law_cell_at as)) : Cal P w K mg base "_law_cell_at" 1 2 .S me.g me.f   :=
  mkCal (phi_law_cell_at) pure T sc_law_cell_at rfl fun fa cdv A outer s H E hr => ⟨_, [], (zf [] (zc (sif (ylt (xv 1) (xlen B.len (xv 0))) (z1 (sret (xix (xv 0) (xv 1)))) (zw (o2 := []) z0)) (z1 (sret xint)))), by kernel_rfl⟩
theorem sc_law_divisor : FnScope N_law_divisor ["_law_one", "_law_other"] (defScope (topS 16)) := ⟨rfl, rfl, rfl, by decide +kernel, rfl, by decide +kernel, by decide +kernel⟩
theorem d_law_divisor {P : Program} {w : World} {K : PySem.W.Frag} {mg : Str → Option Value} {base : Heap} (B : Blt mg) {me : FS} (T : Top K mg "_law_divisor" (topS 16) ["_law_one", "_law_other"])
    (pure : ∀ as, as.length = 2 → me.g as → phi_law_divisor ⟨fun _ => False, fun v => v = me.f as⟩ (st0 N_law_divisor as)) : Cal P w K mg base "_law_divisor" 1 2 .S me.g me.f   :=
  mkCal (phi_law_divisor) pure T sc_law_divisor rfl fun fa cdv A outer s H E hr => ⟨_, [], (zf [] (zc (swhile PassesOwn.never (yneI (xv 1) xint) (zw (o2 := []) (zc (sset 2 (xmod (xv 0) (xv 1)) sc_law_divisor.nd) (zc (sset 0 (xv 1) sc_law_divisor.nd) (z1 (sset 1 (xv 2) sc_law_divisor.nd)))))) (z1 (sret (xabs B.abs (xv 0)))))), by kernel_rfl⟩
theorem sc_law_number : FnScope N_law_number ["_law_script", "_law_k"] (defScope (topS 17)) := ⟨rfl, rfl, rfl, by decide +kernel, rfl, by decide +kernel, by decide +kernel⟩
theorem d_law_number {P : Program} {w : World} {K : PySem.W.Frag} {mg : Str → Option Value} {base : Heap} (B : Blt mg) {F_law_cell_at : FS} (C_law_cell_at : Cal P w K mg base "_law_cell_at" 1 2 .S F_law_cell_at.g F_law_cell_at.f) {me : FS} (T : Top K mg "_law_number" (topS 17) ["_law_script", "_law_k"])
    (pure : ∀ as, as.length = 2 → me.g as → phi_law_number F_law_cell_at ⟨fun _ => False, fun v => v = me.f as⟩ (st0 N_law_number as)) : Cal P w K mg base "_law_number" 2 2 .S me.g me.f   :=
  mkCal (phi_law_number F_law_cell_at) pure T sc_law_number rfl fun fa cdv A outer s H E hr => ⟨_, [], (zc (sset 2 (xcall C_law_cell_at (hr.mono (by decide)) (xa (xv 0) (xa (xv 1) xa0))) sc_law_number.nd) (zc (sset 3 (xmod (xcall C_law_cell_at (hr.mono (by decide)) (xa (xv 0) (xa xint xa0))) xint) sc_law_number.nd) (zf [] (zc (sif (yeqI (xv 3) xint) (z1 (sret (xmul (xsub (xmod (xv 2) xint) xint) (xadd xint (xmod (xcall C_law_cell_at (hr.mono (by decide)) (xa (xv 0) (xa xint xa0))) xint))))) (zw (o2 := []) z0)) (zf [] (zc (sif (yeqI (xv 3) xint) (z1 (sret (xix (xlst (xa (xmod (xdiv (xv 2) xint) (xpow xint xint)) (xa (xsub (xneg xint) (xmod (xdiv (xv 2) xint) (xpow xint xint))) xa0))) (xmod (xv 2) xint)))) (zw (o2 := []) z0)) (z1 (sret (xsub (xmod (xv 2) xint) xint))))))))), by kernel_rfl⟩
theorem sc_law_refused : FnScope N_law_refused ["_law_top"] (defScope (topS 18)) := ⟨rfl, rfl, rfl, by decide +kernel, rfl, by decide +kernel, by decide +kernel⟩
theorem d_law_refused {P : Program} {w : World} {K : PySem.W.Frag} {mg : Str → Option Value} {base : Heap} (B : Blt mg) {FX_part : FS} (CX_part : CalX P w K mg base "part" 2 2 .S FX_part.g FX_part.f) (ER : Errs K mg "NoPart" "PegError" "NoQuotient" "NoRow" "NoStretch" "NotAlone") {me : FS} (T : Top K mg "_law_refused" (topS 18) ["_law_top"])
    (pure : ∀ as, as.length = 1 → me.g as → phi_law_refused FX_part ⟨fun _ => False, fun v => v = me.f as⟩ (st0 N_law_refused as)) : Cal P w K mg base "_law_refused" 3 1 .S me.g me.f   :=
  by
  obtain ⟨C, B_, D1, D2, D3, D4, EC, RB, ⟨R1, n1⟩, ⟨R2, n2⟩, ⟨R3, n3⟩, ⟨R4, n4⟩⟩ := ER.ex
  exact mkCal (phi_law_refused FX_part) pure T sc_law_refused rfl fun fa cdv A outer s H E hr => ⟨_, [], (zc (stryr (i := 1) CX_part (hr.mono (by decide)) (fun pn xe => (xa (xv 0) (xa xint xa0))) EC RB rfl rfl sc_law_refused.nd rfl rfl ⟨rfl, by decide, .inl RB.g⟩ takes0 (fun a oe cls d pn hz hf => suite_ok (i := 1) rfl (by first | exact Or.inl rfl | exact Or.inr (Or.inl rfl) | exact Or.inr (Or.inr rfl)) (by decide) (by decide) EC R1 R2 R3 R4 n1 n2 n3 n4 B.isi B.verr rfl rfl rfl rfl rfl rfl rfl (by decide) (by decide) (by decide) (by decide) (by decide) hz hf)) (z1 (sret xbl))), by kernel_rfl⟩
theorem sc_law_part : FnScope N_law_part ["_law_top", "_law_bottom"] (defScope (topS 19)) := ⟨rfl, rfl, rfl, by decide +kernel, rfl, by decide +kernel, by decide +kernel⟩
theorem d_law_part {P : Program} {w : World} {K : PySem.W.Frag} {mg : Str → Option Value} {base : Heap} (B : Blt mg) {F_law_divisor : FS} (C_law_divisor : Cal P w K mg base "_law_divisor" 1 2 .S F_law_divisor.g F_law_divisor.f) {me : FS} (T : Top K mg "_law_part" (topS 19) ["_law_top", "_law_bottom"])
    (pure : ∀ as, as.length = 2 → me.g as → phi_law_part F_law_divisor ⟨fun _ => False, fun v => v = me.f as⟩ (st0 N_law_part as)) : Cal P w K mg base "_law_part" 2 2 .S me.g me.f   :=
  mkCal (phi_law_part F_law_divisor) pure T sc_law_part rfl fun fa cdv A outer s H E hr => ⟨_, [], (zc (sset 2 (xcall C_law_divisor (hr.mono (by decide)) (xa (xv 0) (xa (xv 1) xa0))) sc_law_part.nd) (z1 (sret (xtup (xa (xdiv (xv 0) (xv 2)) (xa (xdiv (xv 1) (xv 2)) xa0)))))), by kernel_rfl⟩
theorem sc_law_alike : FnScope N_law_alike ["_law_found", "_law_due"] (defScope (topS 20)) := ⟨rfl, rfl, rfl, by decide +kernel, rfl, by decide +kernel, by decide +kernel⟩
theorem d_law_alike {P : Program} {w : World} {K : PySem.W.Frag} {mg : Str → Option Value} {base : Heap} (B : Blt mg) {F_law_whole : FS} (C_law_whole : Cal P w K mg base "_law_whole" 1 1 .S F_law_whole.g F_law_whole.f) {me : FS} (T : Top K mg "_law_alike" (topS 20) ["_law_found", "_law_due"])
    (pure : ∀ as, as.length = 2 → me.g as → phi_law_alike F_law_whole ⟨fun _ => False, fun v => v = me.f as⟩ (st0 N_law_alike as)) : Cal P w K mg base "_law_alike" 2 2 .S me.g me.f   :=
  mkCal (phi_law_alike F_law_whole) pure T sc_law_alike rfl fun fa cdv A outer s H E hr => ⟨_, [], (zf [] (zc (sif (yw (wor (ynot (yval (xisi (T := "tuple") (T' := "tuple") B.isi B.tuple boot_tuple (xv 0) (by simp)))) (wone' (yneI (xlen B.len (xv 0)) xint)))) (z1 (sret xbl)) (zw (o2 := []) z0)) (z1 (sret (xand (xcall C_law_whole (hr.mono (by decide)) (xa (xix (xv 0) xint) xa0)) (xand (xcall C_law_whole (hr.mono (by decide)) (xa (xix (xv 0) xint) xa0)) (xone (xeq hr.units (xv 0) (xv 1))))))))), by kernel_rfl⟩
theorem sc_law_met : FnScope N_law_met ["_law_one", "_law_other"] (defScope (topS 21)) := ⟨rfl, rfl, rfl, by decide +kernel, rfl, by decide +kernel, by decide +kernel⟩
theorem d_law_met {P : Program} {w : World} {K : PySem.W.Frag} {mg : Str → Option Value} {base : Heap} (B : Blt mg) {F_below : FS} {F_law_part : FS} {F_law_alike : FS} {F_part_sum : FS} {F_part_product : FS} (C_below : Cal P w K mg base "below" 1 2 .S F_below.g F_below.f) (C_law_part : Cal P w K mg base "_law_part" 2 2 .S F_law_part.g F_law_part.f) (C_law_alike : Cal P w K mg base "_law_alike" 2 2 .S F_law_alike.g F_law_alike.f) (C_part_sum : Cal P w K mg base "part_sum" 3 2 .S F_part_sum.g F_part_sum.f) (C_part_product : Cal P w K mg base "part_product" 3 2 .S F_part_product.g F_part_product.f) {me : FS} (T : Top K mg "_law_met" (topS 21) ["_law_one", "_law_other"])
    (pure : ∀ as, as.length = 2 → me.g as → phi_law_met F_below F_law_part F_law_alike F_part_sum F_part_product ⟨fun _ => False, fun v => v = me.f as⟩ (st0 N_law_met as)) : Cal P w K mg base "_law_met" 4 2 .S me.g me.f   :=
  mkCal (phi_law_met F_below F_law_part F_law_alike F_part_sum F_part_product) pure T sc_law_met rfl fun fa cdv A outer s H E hr => ⟨_, [], (zc (sset 2 (xcall C_below (hr.mono (by decide)) (xa (xv 0) (xa (xv 1) xa0))) sc_law_met.nd) (zf [] (zc (sif (yw (wor (ynot (yval (xisi (T := "bool") (T' := "bool") B.isi B.bool boot_bool (xv 2) (by simp)))) (wone' (yne hr.units (xv 2) (xlt (xmul (xix (xv 0) xint) (xix (xv 1) xint)) (xmul (xix (xv 1) xint) (xix (xv 0) xint))))))) (z1 (sret xbl)) (zw (o2 := []) z0)) (zc (sset 3 (xcall C_law_part (hr.mono (by decide)) (xa (xadd (xmul (xix (xv 0) xint) (xix (xv 1) xint)) (xmul (xix (xv 1) xint) (xix (xv 0) xint))) (xa (xmul (xix (xv 0) xint) (xix (xv 1) xint)) xa0))) sc_law_met.nd) (zf [] (zc (sif (ynot (yval (xcall C_law_alike (hr.mono (by decide)) (xa (xcall C_part_sum (hr.mono (by decide)) (xa (xv 0) (xa (xv 1) xa0))) (xa (xv 3) xa0))))) (z1 (sret xbl)) (zw (o2 := []) z0)) (z1 (sret (xcall C_law_alike (hr.mono (by decide)) (xa (xcall C_part_product (hr.mono (by decide)) (xa (xv 0) (xa (xv 1) xa0))) (xa (xcall C_law_part (hr.mono (by decide)) (xa (xmul (xix (xv 0) xint) (xix (xv 1) xint)) (xa (xmul (xix (xv 0) xint) (xix (xv 1) xint)) xa0))) xa0))))))))))), by kernel_rfl⟩
theorem sc_law : FnScope N_law ["_law_script"] (defScope (topS 22)) := ⟨rfl, rfl, rfl, by decide +kernel, rfl, by decide +kernel, by decide +kernel⟩
theorem d_law {P : Program} {w : World} {K : PySem.W.Frag} {mg : Str → Option Value} {base : Heap} (B : Blt mg) {F_law_number : FS} {F_law_cell_at : FS} {F_law_refused : FS} {F_part : FS} {F_law_whole : FS} {F_law_divisor : FS} {F_law_part : FS} {F_law_met : FS} (C_law_number : Cal P w K mg base "_law_number" 2 2 .S F_law_number.g F_law_number.f) (C_law_cell_at : Cal P w K mg base "_law_cell_at" 1 2 .S F_law_cell_at.g F_law_cell_at.f) (C_law_refused : Cal P w K mg base "_law_refused" 3 1 .S F_law_refused.g F_law_refused.f) (C_part : Cal P w K mg base "part" 2 2 .S F_part.g F_part.f) (C_law_whole : Cal P w K mg base "_law_whole" 1 1 .S F_law_whole.g F_law_whole.f) (C_law_divisor : Cal P w K mg base "_law_divisor" 1 2 .S F_law_divisor.g F_law_divisor.f) (C_law_part : Cal P w K mg base "_law_part" 2 2 .S F_law_part.g F_law_part.f) (C_law_met : Cal P w K mg base "_law_met" 4 2 .S F_law_met.g F_law_met.f) {me : FS} {fl : Addr} {fdl : FuncData} (T : Fun K "law" "law" (topS 22) fl fdl)
    (pure : ∀ as, as.length = 1 → me.g as → phi_law F_law_number F_law_cell_at F_law_refused F_part F_law_whole F_law_divisor F_law_part F_law_met ⟨fun _ => False, fun v => v = me.f as⟩ (st0 N_law as)) : FnOk P w K mg base CX0 5 fl fdl ["_law_script"] (spF K 1 .S me.g me.f)   :=
  mkFn T (phi_law F_law_number F_law_cell_at F_law_refused F_part F_law_whole F_law_divisor F_law_part F_law_met) pure sc_law rfl fun fa cdv A outer s H E hr => ⟨_, [], (zc (sset 1 (xcall C_law_number (hr.mono (by decide)) (xa (xv 0) (xa xint xa0))) sc_law.nd) (zc (sset 2 (xcall C_law_number (hr.mono (by decide)) (xa (xv 0) (xa xint xa0))) sc_law.nd) (zf [] (zc (sif (yw (wor (yeqI (xmod (xcall C_law_cell_at (hr.mono (by decide)) (xa (xv 0) (xa xint xa0))) xint) xint) (wone' (yeqI (xv 2) xint)))) (z1 (sret (xcall C_law_refused (hr.mono (by decide)) (xa (xv 1) xa0)))) (zw (o2 := []) z0)) (zc (sset 3 (xcall C_part (hr.mono (by decide)) (xa (xv 1) (xa (xv 2) xa0))) sc_law.nd) (zf [] (zc (sif (yw (wor (ynot (yval (xisi (T := "tuple") (T' := "tuple") B.isi B.tuple boot_tuple (xv 3) (by simp)))) (wor (yneI (xlen B.len (xv 3)) xint) (wor (ynot (yval (xcall C_law_whole (hr.mono (by decide)) (xa (xix (xv 3) xint) xa0)))) (wone' (ynot (yval (xcall C_law_whole (hr.mono (by decide)) (xa (xix (xv 3) xint) xa0))))))))) (z1 (sret xbl)) (zw (o2 := []) z0)) (zf [] (zc (sif (yw (wor (ylt (xix (xv 3) xint) xint) (wor (yneI (xmul (xix (xv 3) xint) (xv 2)) (xmul (xv 1) (xix (xv 3) xint))) (wone' (yneI (xcall C_law_divisor (hr.mono (by decide)) (xa (xix (xv 3) xint) (xa (xix (xv 3) xint) xa0))) xint))))) (z1 (sret xbl)) (zw (o2 := []) z0)) (zc (sset 4 (xv 3) sc_law.nd) (zf [] (zc (sif (yneI (xmod (xcall C_law_cell_at (hr.mono (by decide)) (xa (xv 0) (xa xint xa0))) xint) xint) (zw (o2 := []) (z1 (sset 4 (xcall C_law_part (hr.mono (by decide)) (xa (xcall C_law_number (hr.mono (by decide)) (xa (xv 0) (xa xint xa0))) (xa (xadd xint (xmod (xcall C_law_cell_at (hr.mono (by decide)) (xa (xv 0) (xa xint xa0))) (xpow xint xint))) xa0))) sc_law.nd))) (zw (o2 := []) z0)) (z1 (sret (xcall C_law_met (hr.mono (by decide)) (xa (xv 3) (xa (xv 4) xa0))))))))))))))))), by kernel_rfl⟩

end PL
open PySem PySem.W PyProof.Rows
set_option maxHeartbeats 0 in
theorem PySem.Challenge.cw_rootpeg_k01_parts_holds : PySem.Challenge.rw_rootpeg_k01_parts.Holds := by
  w_on; o_law; k_head; (case hw => w_witness2)
  k_fill
  refine L2.walk_of (l := PySem.Challenge.rw_rootpeg_k01_parts) (n := 63) (k := 5) (x := "_law_script") (CX := fun _ => L2.CX0) (sp := fun w => PL.spLaw PL.s_law.g PL.s_law.f _) rfl (by decide) rfl ⟨rfl, by decide, by decide⟩ (fun w h Y => PySem.W.kIn_of Y) ?F (fun _ _ a ns hl _ hS => PL.spLaw_ok hS ⟨ns, rfl⟩ rfl) (fun _ _ _ _ _ h => h)
  case F =>
    intro w mg fa h KX G hmg
    have B : PL.Blt mg := by
      refine' ⟨PySem.W.mg_none_of KX G ?len, PySem.W.mg_none_of KX G ?abs, PySem.W.mg_none_of KX G ?min, PySem.W.mg_none_of KX G ?max, PySem.W.mg_none_of KX G ?sum, PySem.W.mg_none_of KX G ?range, PySem.W.mg_none_of KX G ?list, PySem.W.mg_none_of KX G ?tuple, PySem.W.mg_none_of KX G ?int, PySem.W.mg_none_of KX G ?bool, PySem.W.mg_none_of KX G ?isi, PySem.W.mg_none_of KX G ?verr⟩
      (case len => k_is)
      (case abs => k_is)
      (case min => k_is)
      (case max => k_is)
      (case sum => k_is)
      (case range => k_is)
      (case list => k_is)
      (case tuple => k_is)
      (case int => k_is)
      (case bool => k_is)
      (case isi => k_is)
      (case verr => k_is)
    have T_divisor : PL.Top (L2.KOf KX) mg "divisor" (PL.topS 8) ["one", "other"] := by
      refine' PL.top_of KX G ?a ?l ?c ?k (fun _ _ _ _ _ _ us hl => match us, hl with | [_, _], _ => rfl)
      (case a => k_is); (case l => k_is); (case c => k_is); (case k => k_is)
    have T_part : PL.Top (L2.KOf KX) mg "part" (PL.topS 9) ["top", "bottom"] := by
      refine' PL.top_of KX G ?a ?l ?c ?k (fun _ _ _ _ _ _ us hl => match us, hl with | [_, _], _ => rfl)
      (case a => k_is); (case l => k_is); (case c => k_is); (case k => k_is)
    have T_below : PL.Top (L2.KOf KX) mg "below" (PL.topS 10) ["one", "other"] := by
      refine' PL.top_of KX G ?a ?l ?c ?k (fun _ _ _ _ _ _ us hl => match us, hl with | [_, _], _ => rfl)
      (case a => k_is); (case l => k_is); (case c => k_is); (case k => k_is)
    have T_part_sum : PL.Top (L2.KOf KX) mg "part_sum" (PL.topS 11) ["one", "other"] := by
      refine' PL.top_of KX G ?a ?l ?c ?k (fun _ _ _ _ _ _ us hl => match us, hl with | [_, _], _ => rfl)
      (case a => k_is); (case l => k_is); (case c => k_is); (case k => k_is)
    have T_part_product : PL.Top (L2.KOf KX) mg "part_product" (PL.topS 12) ["one", "other"] := by
      refine' PL.top_of KX G ?a ?l ?c ?k (fun _ _ _ _ _ _ us hl => match us, hl with | [_, _], _ => rfl)
      (case a => k_is); (case l => k_is); (case c => k_is); (case k => k_is)
    have T_law_whole : PL.Top (L2.KOf KX) mg "_law_whole" (PL.topS 14) ["_law_found"] := by
      refine' PL.top_of KX G ?a ?l ?c ?k (fun _ _ _ _ _ _ us hl => match us, hl with | [_], _ => rfl)
      (case a => k_is); (case l => k_is); (case c => k_is); (case k => k_is)
    have T_law_cell_at : PL.Top (L2.KOf KX) mg "_law_cell_at" (PL.topS 15) ["_law_script", "_law_k"] := by
      refine' PL.top_of KX G ?a ?l ?c ?k (fun _ _ _ _ _ _ us hl => match us, hl with | [_, _], _ => rfl)
      (case a => k_is); (case l => k_is); (case c => k_is); (case k => k_is)
    have T_law_divisor : PL.Top (L2.KOf KX) mg "_law_divisor" (PL.topS 16) ["_law_one", "_law_other"] := by
      refine' PL.top_of KX G ?a ?l ?c ?k (fun _ _ _ _ _ _ us hl => match us, hl with | [_, _], _ => rfl)
      (case a => k_is); (case l => k_is); (case c => k_is); (case k => k_is)
    have T_law_number : PL.Top (L2.KOf KX) mg "_law_number" (PL.topS 17) ["_law_script", "_law_k"] := by
      refine' PL.top_of KX G ?a ?l ?c ?k (fun _ _ _ _ _ _ us hl => match us, hl with | [_, _], _ => rfl)
      (case a => k_is); (case l => k_is); (case c => k_is); (case k => k_is)
    have T_law_refused : PL.Top (L2.KOf KX) mg "_law_refused" (PL.topS 18) ["_law_top"] := by
      refine' PL.top_of KX G ?a ?l ?c ?k (fun _ _ _ _ _ _ us hl => match us, hl with | [_], _ => rfl)
      (case a => k_is); (case l => k_is); (case c => k_is); (case k => k_is)
    have T_law_part : PL.Top (L2.KOf KX) mg "_law_part" (PL.topS 19) ["_law_top", "_law_bottom"] := by
      refine' PL.top_of KX G ?a ?l ?c ?k (fun _ _ _ _ _ _ us hl => match us, hl with | [_, _], _ => rfl)
      (case a => k_is); (case l => k_is); (case c => k_is); (case k => k_is)
    have T_law_alike : PL.Top (L2.KOf KX) mg "_law_alike" (PL.topS 20) ["_law_found", "_law_due"] := by
      refine' PL.top_of KX G ?a ?l ?c ?k (fun _ _ _ _ _ _ us hl => match us, hl with | [_, _], _ => rfl)
      (case a => k_is); (case l => k_is); (case c => k_is); (case k => k_is)
    have T_law_met : PL.Top (L2.KOf KX) mg "_law_met" (PL.topS 21) ["_law_one", "_law_other"] := by
      refine' PL.top_of KX G ?a ?l ?c ?k (fun _ _ _ _ _ _ us hl => match us, hl with | [_, _], _ => rfl)
      (case a => k_is); (case l => k_is); (case c => k_is); (case k => k_is)
    have ER : PL.Errs (L2.KOf KX) mg "NoPart" "PegError" "NoQuotient" "NoRow" "NoStretch" "NotAlone" := by
      refine' ⟨_, _, _, _, _, _, PL.errC_of KX G ?a ?x ?k ?b ?t ?v ?hg ?hk ?hd ?ha ?hn ?ht ?hm, PL.errR_of KX G ?aB ?sB ?bB ?hB ?tB, ⟨PL.errR_of KX G ?a1 ?s1 ?b1 ?h1 ?t1, ?n1⟩, ⟨PL.errR_of KX G ?a2 ?s2 ?b2 ?h2 ?t2, ?n2⟩, ⟨PL.errR_of KX G ?a3 ?s3 ?b3 ?h3 ?t3, ?n3⟩, ⟨PL.errR_of KX G ?a4 ?s4 ?b4 ?h4 ?t4, ?n4⟩⟩
      (case a => first | k_is | k_exc | rfl)
      (case aB => first | k_is | k_exc | rfl)
      (case a1 => first | k_is | k_exc | rfl)
      (case a2 => first | k_is | k_exc | rfl)
      (case a3 => first | k_is | k_exc | rfl)
      (case a4 => first | k_is | k_exc | rfl)
      (case x => first | k_is | k_exc | rfl)
      (case k => first | k_is | k_exc | rfl)
      (case b => first | k_is | k_exc | rfl)
      (case t => first | k_is | k_exc | rfl)
      (case v => first | k_is | k_exc | rfl)
      (case hg => first | k_is | k_exc | rfl)
      (case hk => first | k_is | k_exc | rfl)
      (case hd => first | k_is | k_exc | rfl)
      (case ha => first | k_is | k_exc | rfl)
      (case hn => first | k_is | k_exc | rfl)
      (case ht => first | k_is | k_exc | rfl)
      (case hm => first | k_is | k_exc | rfl)
      (case sB => first | k_is | k_exc | rfl)
      (case bB => first | k_is | k_exc | rfl)
      (case hB => first | k_is | k_exc | rfl)
      (case tB => first | k_is | k_exc | rfl)
      (case s1 => first | k_is | k_exc | rfl)
      (case b1 => first | k_is | k_exc | rfl)
      (case h1 => first | k_is | k_exc | rfl)
      (case t1 => first | k_is | k_exc | rfl)
      (case s2 => first | k_is | k_exc | rfl)
      (case b2 => first | k_is | k_exc | rfl)
      (case h2 => first | k_is | k_exc | rfl)
      (case t2 => first | k_is | k_exc | rfl)
      (case s3 => first | k_is | k_exc | rfl)
      (case b3 => first | k_is | k_exc | rfl)
      (case h3 => first | k_is | k_exc | rfl)
      (case t3 => first | k_is | k_exc | rfl)
      (case s4 => first | k_is | k_exc | rfl)
      (case b4 => first | k_is | k_exc | rfl)
      (case h4 => first | k_is | k_exc | rfl)
      (case t4 => first | k_is | k_exc | rfl)
      (case n1 => decide)
      (case n2 => decide)
      (case n3 => decide)
      (case n4 => decide)
    obtain ⟨_, E_NoPart⟩ := ER.one.ex
    have TL : ∃ (fdl : FuncData), L2.Fun (L2.KOf KX) "law" "law" (PL.topS 22) fa fdl ∧ ∀ (s : Shared) (v : Value), BindsTo s fdl ⟨[v], []⟩ [("_law_script", v)] := by
      refine' PL.law_of (st := PL.topS 22) KX G hmg ?a ?l ?c ?k (fun _ _ _ _ _ _ s v => .of_eq rfl)
      (case a => k_is); (case l => k_is); (case c => k_is); (case k => k_is)
    obtain ⟨fdl, FL, BL⟩ := TL
    refine ⟨fdl, BL, fun base _ _ => ?_⟩
    have C_divisor := PL.d_divisor (P := (PySem.Challenge.rw_rootpeg_k01_parts).prog) (w := w) (base := base) B  T_divisor PL.p_divisor
    have C_part := PL.d_part (P := (PySem.Challenge.rw_rootpeg_k01_parts).prog) (w := w) (base := base) B C_divisor T_part PL.p_part
    have CX_part := PL.dX_part (P := (PySem.Challenge.rw_rootpeg_k01_parts).prog) (w := w) (base := base) B C_divisor E_NoPart T_part PL.pX_part
    have C_below := PL.d_below (P := (PySem.Challenge.rw_rootpeg_k01_parts).prog) (w := w) (base := base) B  T_below PL.p_below
    have C_part_sum := PL.d_part_sum (P := (PySem.Challenge.rw_rootpeg_k01_parts).prog) (w := w) (base := base) B C_part T_part_sum PL.p_part_sum
    have C_part_product := PL.d_part_product (P := (PySem.Challenge.rw_rootpeg_k01_parts).prog) (w := w) (base := base) B C_part T_part_product PL.p_part_product
    have C_law_whole := PL.d_law_whole (P := (PySem.Challenge.rw_rootpeg_k01_parts).prog) (w := w) (base := base) B  T_law_whole PL.p_law_whole
    have C_law_cell_at := PL.d_law_cell_at (P := (PySem.Challenge.rw_rootpeg_k01_parts).prog) (w := w) (base := base) B  T_law_cell_at PL.p_law_cell_at
    have C_law_divisor := PL.d_law_divisor (P := (PySem.Challenge.rw_rootpeg_k01_parts).prog) (w := w) (base := base) B  T_law_divisor PL.p_law_divisor
    have C_law_number := PL.d_law_number (P := (PySem.Challenge.rw_rootpeg_k01_parts).prog) (w := w) (base := base) B C_law_cell_at T_law_number PL.p_law_number
    have C_law_refused := PL.d_law_refused (P := (PySem.Challenge.rw_rootpeg_k01_parts).prog) (w := w) (base := base) B CX_part ER T_law_refused PL.p_law_refused
    have C_law_part := PL.d_law_part (P := (PySem.Challenge.rw_rootpeg_k01_parts).prog) (w := w) (base := base) B C_law_divisor T_law_part PL.p_law_part
    have C_law_alike := PL.d_law_alike (P := (PySem.Challenge.rw_rootpeg_k01_parts).prog) (w := w) (base := base) B C_law_whole T_law_alike PL.p_law_alike
    have C_law_met := PL.d_law_met (P := (PySem.Challenge.rw_rootpeg_k01_parts).prog) (w := w) (base := base) B C_below C_law_part C_law_alike C_part_sum C_part_product T_law_met PL.p_law_met
    exact PL.d_law B C_law_number C_law_cell_at C_law_refused C_part C_law_whole C_law_divisor C_law_part C_law_met FL PL.p_law

