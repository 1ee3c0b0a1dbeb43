import PyProof.Rows.All
import Wide.All
import OpenK.AllK
import Wide.FinOn
import HandS.ForMost
import HandS.ForExc
import HandS.Wide
import HandS.IsInst
import HandS.ExcIs
import HandS.HotCalls
import PySem.Challenge.RW_rootpeg_k06_pegs_made
set_option Elab.async false
set_option linter.all false
set_option maxRecDepth 100000
set_option maxHeartbeats 4000000
namespace PL
open PySem PySem.Spec PyProof.Rows L2

/-! pure values, and how they lie in an abstract heap -/
inductive PV where
  | non | bl (b : Bool) | int (i : Int) | str (x : Str)
  | list (xs : List PV) | tup (xs : List PV) | scr (ns : List Int)
  | exc (c : Str)
  | exo (a : Addr)

mutual
inductive Rep (K : PySem.W.Frag) (G : Hp) : PV → V → Prop
  | non : Rep K G .non .non
  | bl (b : Bool) : Rep K G (.bl b) (.bl b)
  | int (i : Int) : Rep K G (.int i) (.int i)
  | str (x : Str) : Rep K G (.str x) (.str x)
  | list {a : Addr} {us : List V} {xs : List PV} : G a = some (.lst us) → Reps K G xs us → Rep K G (.list xs) (.ref a)
  | tup {a : Addr} {us : List V} {xs : List PV} : G a = some (.tup us) → Reps K G xs us → Rep K G (.tup xs) (.ref a)
  | scr {a : Addr} {ns : List Int} : SqL K G a (ns.map V.int) → Rep K G (.scr ns) (.ref a)
  | exo (a : Addr) : Rep K G (.exo a) (.ref a)
inductive Reps (K : PySem.W.Frag) (G : Hp) : List PV → List V → Prop
  | nil : Reps K G [] []
  | cons {v : PV} {vs : List PV} {u : V} {us : List V} : Rep K G v u → Reps K G vs us → Reps K G (v :: vs) (u :: us)
end

section
variable {K : PySem.W.Frag} {G G' : Hp}
mutual
theorem Rep.mono (s : Same G G') : ∀ {v : PV} {u : V}, Rep K G v u → Rep K G' v u
  | _, _, .non => .non
  | _, _, .bl b => .bl b
  | _, _, .int i => .int i
  | _, _, .str x => .str x
  | _, _, .list h r => .list (s _ _ h) (Reps.mono s r)
  | _, _, .tup h r => .tup (s _ _ h) (Reps.mono s r)
  | _, _, .scr h => .scr (s.seq h)
  | _, _, .exo a => .exo a
theorem Reps.mono (s : Same G G') : ∀ {vs : List PV} {us : List V}, Reps K G vs us → Reps K G' vs us
  | _, _, .nil => .nil
  | _, _, .cons h r => .cons (Rep.mono s h) (Reps.mono s r)
end
theorem Reps.length : ∀ {vs : List PV} {us : List V}, Reps K G vs us → vs.length = us.length
  | _, _, .nil => rfl
  | _, _, .cons _ r => by rw [List.length_cons, List.length_cons, Reps.length r]
theorem Reps.get : ∀ {vs : List PV} {us : List V} {i : Nat} {v : PV}, Reps K G vs us → vs[i]? = some v → ∃ u, us[i]? = some u ∧ Rep K G v u
  | _, _, _, _, .nil, e => by simp at e
  | _, _, 0, _, .cons h _, e => by
    simp at e
    subst e
    exact ⟨_, rfl, h⟩
  | _, _, i + 1, _, .cons _ r, e => by
    obtain ⟨u, h1, h2⟩ := Reps.get (i := i) r (by simpa using e)
    exact ⟨u, by simpa using h1, h2⟩
theorem Reps.get' {vs : List PV} {us : List V} {i : Nat} {u : V} (r : Reps K G vs us) (e : us[i]? = some u) : ∃ v, vs[i]? = some v ∧ Rep K G v u := by
  have hl := r.length
  have hi : i < us.length := (List.getElem?_eq_some_iff.mp e).1
  have e2 : vs[i]? = some (vs[i]'(by omega)) := List.getElem?_eq_getElem (by omega)
  obtain ⟨u', h1, h2⟩ := r.get e2
  rw [e] at h1
  cases h1
  exact ⟨_, e2, h2⟩
theorem Reps.append : ∀ {vs ws : List PV} {us zs : List V}, Reps K G vs us → Reps K G ws zs → Reps K G (vs ++ ws) (us ++ zs)
  | _, _, _, _, .nil, s => s
  | _, _, _, _, .cons h r, s => .cons h (Reps.append r s)
theorem Reps.set {v : PV} {u : V} (h : Rep K G v u) : ∀ {vs : List PV} {us : List V} (i : Nat), Reps K G vs us → Reps K G (vs.set i v) (us.set i u)
  | _, _, _, .nil => .nil
  | _, _, 0, .cons _ r => .cons h r
  | _, _, i + 1, .cons q r => .cons q (Reps.set h i r)
theorem Reps.take : ∀ {vs : List PV} {us : List V} (n : Nat), Reps K G vs us → Reps K G (vs.take n) (us.take n)
  | _, _, 0, _ => .nil
  | _, _, _ + 1, .nil => .nil
  | _, _, n + 1, .cons h r => .cons h (Reps.take n r)
theorem Reps.drop : ∀ {vs : List PV} {us : List V} (n : Nat), Reps K G vs us → Reps K G (vs.drop n) (us.drop n)
  | _, _, 0, r => r
  | _, _, _ + 1, .nil => .nil
  | _, _, n + 1, .cons _ r => Reps.drop n r
theorem Reps.dropLast {vs : List PV} {us : List V} (r : Reps K G vs us) : Reps K G vs.dropLast us.dropLast := by
  rw [List.dropLast_eq_take, List.dropLast_eq_take, r.length]
  exact r.take _
theorem Reps.ints : ∀ (ns : List Int), Reps K G (ns.map PV.int) (ns.map V.int)
  | [] => .nil
  | n :: ns => .cons (.int n) (Reps.ints ns)
theorem Reps.ints_eq : ∀ {ns : List Int} {us : List V}, Reps K G (ns.map PV.int) us → us = ns.map V.int
  | [], _, h => by cases h; rfl
  | n :: ns, _, h => by
    cases h with
    | cons h r =>
      cases h
      rw [Reps.ints_eq r]
      rfl
theorem Rep.int_eq {i : Int} {u : V} (h : Rep K G (.int i) u) : u = .int i := by cases h; rfl
theorem Rep.bl_eq {i : Bool} {u : V} (h : Rep K G (.bl i) u) : u = .bl i := by cases h; rfl
theorem Rep.non_eq {u : V} (h : Rep K G .non u) : u = .non := by cases h; rfl
theorem Rep.str_eq {i : Str} {u : V} (h : Rep K G (.str i) u) : u = .str i := by cases h; rfl
end

/-! from one moment to a later one: G what never changes any more, H all that is tracked -/
structure Ext (G H G' H' : Hp) : Prop where
  gg : Same G G'
  gh : Same G' H'
  hh : Same H H'
  nw : ∀ a o, H a = some o → G a = none → G' a = none
theorem Ext.refl {G H : Hp} (h : Same G H) : Ext G H G H := ⟨Same.refl _, h, Same.refl _, fun _ _ _ h => h⟩
theorem Ext.trans {G H G1 H1 G2 H2 : Hp} (a : Ext G H G1 H1) (b : Ext G1 H1 G2 H2) : Ext G H G2 H2 :=
  ⟨a.gg.trans b.gg, b.gh, a.hh.trans b.hh, fun c o h g => b.nw c o (a.hh c o h) (a.nw c o h g)⟩

inductive Md | S | B | F

def Res (m : Md) (K : PySem.W.Frag) (G H G' H' : Hp) (v : PV) (u : V) : Prop := match m with
  | .S => Rep K G' v u
  | .B => Rep K G' v u ∨ ∃ xs a us, v = .list xs ∧ u = .ref a ∧ H' a = some (.lst us) ∧ Reps K G' xs us
  | .F => ∃ xs p us, v = .list xs ∧ u = .ref p ∧ H p = none ∧ G' p = none ∧ H' p = some (.lst us) ∧ Reps K G' xs us

abbrev PEnv := List (Option PV)
abbrev Sg := L2.St

/-- o: the slots that hold a list that nothing else refers to -/
structure R (K : PySem.W.Frag) (o : List Nat) (G0 H0 : Hp) (ρ : PEnv) (σ : Sg) (G H : Hp) : Prop where
  len : σ.length = ρ.length
  ext : Ext G0 H0 G H
  sh : ∀ (i : Nat) (v : PV), ρ[i]? = some (some v) → i ∉ o → ∃ u, σ[i]? = some (some u) ∧ Rep K G v u
  ow : ∀ (i : Nat) (v : PV), ρ[i]? = some (some v) → i ∈ o → ∃ xs p us, v = .list xs ∧ σ[i]? = some (some (.ref p)) ∧ H0 p = none ∧ G p = none ∧ H p = some (.lst us) ∧ Reps K G xs us
  sep : ∀ (i j : Nat) (v w : PV) (p : Addr), i ∈ o → j ∈ o → i ≠ j → ρ[i]? = some (some v) → ρ[j]? = some (some w) → σ[i]? = some (some (.ref p)) → σ[j]? = some (some (.ref p)) → False

section
variable {K : PySem.W.Frag} {o o' : List Nat} {G0 H0 G H G' H' : Hp} {ρ : PEnv} {σ : Sg}
theorem R.on (r : R K o G0 H0 ρ σ G H) (e : Ext G H G' H') : R K o G0 H0 ρ σ G' H' where
  len := r.len
  ext := r.ext.trans e
  sh := fun i v h hi => let ⟨u, a, b⟩ := r.sh i v h hi; ⟨u, a, b.mono e.gg⟩
  ow := fun i v h hi => by
    obtain ⟨xs, p, us, h1, h2, h3, h4, h5, h6⟩ := r.ow i v h hi
    exact ⟨xs, p, us, h1, h2, h3, e.nw p _ h5 h4, e.hh _ _ h5, h6.mono e.gg⟩
  sep := r.sep
theorem R.congr (r : R K o G0 H0 ρ σ G H) (h : ∀ i, i ∈ o ↔ i ∈ o') : R K o' G0 H0 ρ σ G H where
  len := r.len
  ext := r.ext
  sh := fun i v e hi => r.sh i v e fun z => hi ((h i).mp z)
  ow := fun i v e hi => r.ow i v e ((h i).mpr hi)
  sep := fun i j v w p hi hj => r.sep i j v w p ((h i).mpr hi) ((h j).mpr hj)
/-- a slot's list is given out of hand -/
theorem R.freeze1 (r : R K o G0 H0 ρ σ G H) (i : Nat) : ∃ G', Same G G' ∧ R K (o.filter (fun j => decide (j ≠ i))) G0 H0 ρ σ G' H := by
  have mem : ∀ j, j ∈ o.filter (fun j => decide (j ≠ i)) ↔ j ∈ o ∧ j ≠ i := fun j => by simp
  by_cases hi : i ∈ o
  · by_cases hv : ∃ v, ρ[i]? = some (some v)
    · obtain ⟨v, hv⟩ := hv
      obtain ⟨xs, p, us, h1, h2, h3, h4, h5, h6⟩ := r.ow i v hv hi
      have sg : Same G (upd G p (.lst us)) := fun b x e => by
        rw [upd_ne (ne_of_none e h4)]
        exact e
      have sh : Same (upd G p (.lst us)) H := fun b x e => by
        by_cases hb : b = p
        · subst hb
          rw [upd_same] at e
          cases e
          exact h5
        · rw [upd_ne hb] at e
          exact r.ext.gh _ _ e
      refine ⟨upd G p (.lst us), sg, ⟨r.len, ⟨r.ext.gg.trans sg, sh, r.ext.hh, fun a x e1 e2 => ?_⟩, fun j w e hj => ?_, fun j w e hj => ?_, fun j k v w q hj hk => r.sep j k v w q ((mem j).mp hj).1 ((mem k).mp hk).1⟩⟩
      · rw [upd_ne (ne_of_none e1 h3)]
        exact r.ext.nw a x e1 e2
      · by_cases hji : j = i
        · subst hji
          rw [hv] at e
          cases e
          subst h1
          exact ⟨.ref p, h2, .list upd_same (h6.mono sg)⟩
        · obtain ⟨u, a, b⟩ := r.sh j w e fun z => hj ((mem j).mpr ⟨z, hji⟩)
          exact ⟨u, a, b.mono sg⟩
      · obtain ⟨hj1, hj2⟩ := (mem j).mp hj
        obtain ⟨ys, q, zs, k1, k2, k3, k4, k5, k6⟩ := r.ow j w e hj1
        have hqp : q ≠ p := fun z => by
          subst z
          exact r.sep j i w v q hj1 hi hj2 e hv k2 h2
        exact ⟨ys, q, zs, k1, k2, k3, by rw [upd_ne hqp]; exact k4, k5, k6.mono sg⟩
    · refine ⟨G, Same.refl _, r.len, r.ext, fun j w e hj => r.sh j w e fun z => ?_, fun j w e hj => r.ow j w e ((mem j).mp hj).1, fun j k v w q hj hk => r.sep j k v w q ((mem j).mp hj).1 ((mem k).mp hk).1⟩
      by_cases hji : j = i
      · subst hji
        exact hv ⟨_, e⟩
      · exact hj ((mem j).mpr ⟨z, hji⟩)
  · refine ⟨G, Same.refl _, r.congr fun j => ?_⟩
    rw [mem]
    exact ⟨fun z => ⟨z, fun e => hi (e ▸ z)⟩, fun z => z.1⟩
end
end PL

namespace PL
open PySem PySem.Spec PyProof.Rows L2

/-! reading pure values -/
def gv (ρ : PEnv) (i : Nat) : PV := match ρ[i]? with
  | some (some v) => v
  | _ => .non
def gd (ρ : PEnv) (i : Nat) : Bool := match ρ[i]? with
  | some (some _) => true
  | _ => false
theorem gd_some {ρ : PEnv} {i : Nat} (h : gd ρ i = true) : ρ[i]? = some (some (gv ρ i)) := by
  unfold gd at h
  unfold gv
  split at h
  · rename_i v e
    rw [e]
  · cases h
def isI : PV → Bool
  | .int _ => true
  | _ => false
def toI : PV → Int
  | .int i => i
  | _ => 0
def isB : PV → Bool
  | .bl _ => true
  | _ => false
def toB : PV → Bool
  | .bl b => b
  | _ => false
def isL : PV → Bool
  | .list _ => true
  | _ => false
def isT : PV → Bool
  | .tup _ => true
  | _ => false
def isSq : PV → Bool
  | .list _ => true
  | .tup _ => true
  | .scr _ => true
  | _ => false
def isLS : PV → Bool
  | .list _ => true
  | .scr _ => true
  | _ => false
def elems : PV → List PV
  | .list xs => xs
  | .tup xs => xs
  | .scr ns => ns.map PV.int
  | _ => []
/-- holds no reference -/
def isSc : PV → Bool
  | .non => true
  | .bl _ => true
  | .int _ => true
  | .str _ => true
  | _ => false

/-! the readings -/
def tP (K : PySem.W.Frag) (o : List Nat) (m : Md) (g : PEnv → Prop) (f : PEnv → PV) : TE := fun σ H Q => ∃ G0 H0 ρ G, R K o G0 H0 ρ σ G H ∧ g ρ ∧
  ∀ u G' H', Ext G H G' H' → Res m K G H G' H' (f ρ) u → Q u H'
def tT (K : PySem.W.Frag) (o : List Nat) (g : PEnv → Prop) (c : PEnv → Bool) : TT := fun σ H Q => ∃ G0 H0 ρ G, R K o G0 H0 ρ σ G H ∧ g ρ ∧
  ∀ G' H', Ext G H G' H' → Q (c ρ) H'
/-- arguments: shared ones, lent ones -/
def tA (K : PySem.W.Frag) (o : List Nat) (g : PEnv → Prop) (f : PEnv → List PV) : TA := fun σ H Q => ∃ G0 H0 ρ G, R K o G0 H0 ρ σ G H ∧ g ρ ∧
  ∀ us G' H', Ext G H G' H' → Reps K G' (f ρ) us → Q us H'
def tAB (K : PySem.W.Frag) (o : List Nat) (g : PEnv → Prop) (f : PEnv → List PV) : TA := fun σ H Q => ∃ G0 H0 ρ G, R K o G0 H0 ρ σ G H ∧ g ρ ∧
  ∀ us G' H', Ext G H G' H' → Reps K H' (f ρ) us → Q us H'
abbrev PX (X : Cx) (o : List Nat) (m : Md) (e : Expr) (g : PEnv → Prop) (f : PEnv → PV) : Prop := PE X e (tP X.K o m g f)
abbrev PXT (X : Cx) (o : List Nat) (e : Expr) (g : PEnv → Prop) (c : PEnv → Bool) : Prop := PT X e (tT X.K o g c)
abbrev PXW (X : Cx) (o : List Nat) (e : Expr) (g : PEnv → Prop) (c : PEnv → Bool) : Prop := PW X e (tT X.K o g c)
abbrev PXA (X : Cx) (o : List Nat) (es : List Expr) (g : PEnv → Prop) (f : PEnv → List PV) : Prop := PA X es (tA X.K o g f)
abbrev PXB (X : Cx) (o : List Nat) (es : List Expr) (g : PEnv → Prop) (f : PEnv → List PV) : Prop := PA X es (tAB X.K o g f)

theorem pe_imp {X : Cx} {e : Expr} {t t' : TE} (h : PE X e t) (k : ∀ σ H Q, t' σ H Q → t σ H Q) : PE X e t' := ⟨fun pins s σ H Q I hw => h.run pins s σ H Q I (k σ H Q hw)⟩
theorem pt_imp {X : Cx} {e : Expr} {t t' : TT} (h : PT X e t) (k : ∀ σ H Q, t' σ H Q → t σ H Q) : PT X e t' := ⟨fun pins s σ H Q I hw => h.run pins s σ H Q I (k σ H Q hw)⟩
theorem pw_imp {X : Cx} {e : Expr} {t t' : TT} (h : PW X e t) (k : ∀ σ H Q, t' σ H Q → t σ H Q) : PW X e t' := ⟨fun wh pins s σ H Q I hw => h.run wh pins s σ H Q I (k σ H Q hw)⟩
theorem pa_imp {X : Cx} {es : List Expr} {t t' : TA} (h : PA X es t) (k : ∀ σ H Q, t' σ H Q → t σ H Q) : PA X es t' := ⟨fun pos pins s σ H Q I hw => h.run pos pins s σ H Q I (k σ H Q hw)⟩

theorem Ext.new {G H : Hp} {p : Addr} {u : HO} (h : Same G H) (n : H p = none) : Ext G H G (upd H p u) := by
  have sm : Same H (upd H p u) := fun b x e => by
    rw [upd_ne (ne_of_none e n)]
    exact e
  exact ⟨Same.refl _, h.trans sm, sm, fun _ _ _ h => h⟩
/-- a new object that will never change -/
theorem Ext.lay {G H : Hp} {p : Addr} {u : HO} (h : Same G H) (n : H p = none) : Ext G H (upd G p u) (upd H p u) := by
  have sm : Same H (upd H p u) := fun b x e => by
    rw [upd_ne (ne_of_none e n)]
    exact e
  have sg : Same G (upd G p u) := fun b x e => by
    rw [upd_ne (ne_of_none e (h.free n))]
    exact e
  refine ⟨sg, fun b x e => ?_, sm, fun a x e1 e2 => ?_⟩
  · by_cases hb : b = p
    · subst hb
      rw [upd_same] at e
      rw [upd_same]
      exact e
    · rw [upd_ne hb] at e
      rw [upd_ne hb]
      exact h _ _ e
  · rw [upd_ne (ne_of_none e1 n)]
    exact e2

section
variable {K : PySem.W.Frag} {o : List Nat} {m ma mb : Md} {G0 H0 G H G' H' G1 H1 G2 H2 : Hp} {ρ : PEnv} {σ : Sg} {v : PV} {u : V}
theorem Res.on (h : Res m K G H G1 H1 v u) (e : Ext G1 H1 G2 H2) : Res m K G H G2 H2 v u := by
  cases m with
  | S => exact Rep.mono e.gg h
  | B =>
    rcases h with h | ⟨xs, a, us, h1, h2, h3, h4⟩
    · exact .inl (h.mono e.gg)
    · exact .inr ⟨xs, a, us, h1, h2, e.hh _ _ h3, h4.mono e.gg⟩
  | F =>
    obtain ⟨xs, p, us, h1, h2, h3, h4, h5, h6⟩ := h
    exact ⟨xs, p, us, h1, h2, h3, e.nw p _ h5 h4, e.hh _ _ h5, h6.mono e.gg⟩
/-- seen from an earlier moment -/
theorem Res.from (e : Ext G H G1 H1) (h : Res m K G1 H1 G2 H2 v u) : Res m K G H G2 H2 v u := by
  cases m with
  | S => exact h
  | B => exact h
  | F =>
    obtain ⟨xs, p, us, h1, h2, h3, h4, h5, h6⟩ := h
    exact ⟨xs, p, us, h1, h2, e.hh.free h3, h4, h5, h6⟩
theorem Res.B (h : Res m K G H G' H' v u) : Res .B K G H G' H' v u := by
  cases m with
  | S => exact .inl h
  | B => exact h
  | F =>
    obtain ⟨xs, p, us, h1, h2, _, _, h5, h6⟩ := h
    exact .inr ⟨xs, p, us, h1, h2, h5, h6⟩
theorem Res.sc (h : Res m K G H G' H' v u) (hs : isSc v = true) : ∀ G, Rep K G v u := by
  intro G3
  have e := h.B
  rcases e with e | ⟨xs, a, us, h1, _⟩
  · cases e with
    | non => exact .non
    | bl b => exact .bl b
    | int i => exact .int i
    | str x => exact .str x
    | list _ _ => cases hs
    | tup _ _ => cases hs
    | scr _ => cases hs
    | exo _ => cases hs
  · subst h1
    cases hs
theorem Res.eqI (h : Res m K G H G' H' v u) (hs : isI v = true) : u = .int (toI v) := by
  cases v with
  | int i => exact (h.sc rfl G).int_eq
  | _ => cases hs
theorem Res.eqB (h : Res m K G H G' H' v u) (hs : isB v = true) : u = .bl (toB v) := by
  cases v with
  | bl i => exact (h.sc rfl G).bl_eq
  | _ => cases hs
/-- everything stands in the whole heap -/
theorem Res.all (h : Res m K G H G' H' v u) (s : Same G' H') : Rep K H' v u := by
  rcases h.B with e | ⟨xs, a, us, h1, h2, h3, h4⟩
  · exact e.mono s
  · subst h1 h2
    exact .list h3 (h4.mono s)
theorem Res.seq (h : Res m K G H G' H' v u) (s : Same G' H') (hs : isSq v = true) : ∃ a us, u = .ref a ∧ (SqL K H' a us ∨ SqT K H' a us) ∧ Reps K G' (elems v) us := by
  rcases h.B with e | ⟨xs, a, us, h1, h2, h3, h4⟩
  · cases e with
    | list h0 r0 => exact ⟨_, _, rfl, .inl (SqL.of (s _ _ h0)), r0⟩
    | tup h0 r0 => exact ⟨_, _, rfl, .inr (SqT.of (s _ _ h0)), r0⟩
    | scr h0 => exact ⟨_, _, rfl, .inl (s.seq h0), Reps.ints _⟩
    | _ => cases hs
  · subst h1 h2
    exact ⟨_, _, rfl, .inl (SqL.of h3), h4⟩
theorem Res.ls (h : Res m K G H G' H' v u) (s : Same G' H') (hs : isLS v = true) : ∃ a us, u = .ref a ∧ SqL K H' a us ∧ Reps K G' (elems v) us := by
  rcases h.B with e | ⟨xs, a, us, h1, h2, h3, h4⟩
  · cases e with
    | list h0 r0 => exact ⟨_, _, rfl, SqL.of (s _ _ h0), r0⟩
    | scr h0 => exact ⟨_, _, rfl, s.seq h0, Reps.ints _⟩
    | _ => cases hs
  · subst h1 h2
    exact ⟨_, _, rfl, SqL.of h3, h4⟩
theorem Res.lst (h : Res m K G H G' H' v u) (s : Same G' H') (hs : isL v = true) : ∃ a us, u = .ref a ∧ H' a = some (.lst us) ∧ Reps K G' (elems v) us := by
  rcases h.B with e | ⟨xs, a, us, h1, h2, h3, h4⟩
  · cases e with
    | list h0 r0 => exact ⟨_, _, rfl, s _ _ h0, r0⟩
    | _ => cases hs
  · subst h1 h2
    exact ⟨_, _, rfl, h3, h4⟩
theorem Res.tup (h : Res m K G H G' H' v u) (s : Same G' H') (hs : isT v = true) : ∃ a us, u = .ref a ∧ SqT K H' a us ∧ Reps K G' (elems v) us := by
  rcases h.B with e | ⟨xs, a, us, h1, h2, h3, h4⟩
  · cases e with
    | tup h0 r0 => exact ⟨_, _, rfl, SqT.of (s _ _ h0), r0⟩
    | _ => cases hs
  · subst h1
    cases hs
/-- a fresh list given out of hand -/
theorem Res.share (h : Res .F K G H G' H' v u) (e : Ext G H G' H') : ∃ G'', Ext G H G'' H' ∧ Rep K G'' v u := by
  obtain ⟨xs, p, us, h1, h2, h3, h4, h5, h6⟩ := h
  have sg : Same G' (upd G' p (.lst us)) := fun b x q => by
    rw [upd_ne (ne_of_none q h4)]
    exact q
  refine ⟨upd G' p (.lst us), ⟨e.gg.trans sg, fun b x q => ?_, e.hh, fun a x q1 q2 => ?_⟩, ?_⟩
  · by_cases hb : b = p
    · subst hb
      rw [upd_same] at q
      cases q
      exact h5
    · rw [upd_ne hb] at q
      exact e.gh _ _ q
  · rw [upd_ne (ne_of_none q1 h3)]
    exact e.nw a x q1 q2
  · subst h1 h2
    exact .list upd_same (h6.mono sg)
/-- two parts, one behind the other -/
theorem two {ga gb : PEnv → Prop} {fa fb : PEnv → PV} {P : V → V → Hp → Prop} (r : R K o G0 H0 ρ σ G H) (ha : ga ρ) (hb : gb ρ)
    (k : ∀ x y G' H', Ext G H G' H' → R K o G0 H0 ρ σ G' H' → Res ma K G H G' H' (fa ρ) x → Res mb K G H G' H' (fb ρ) y → P x y H') :
    tP K o ma ga fa σ H (fun x H1 => tP K o mb gb fb σ H1 (fun y H2 => P x y H2)) :=
  ⟨G0, H0, ρ, G, r, ha, fun x G1 H1 e1 r1 => ⟨G0, H0, ρ, G1, r.on e1, hb, fun y G2 H2 e2 r2 => k x y G2 H2 (e1.trans e2) (r.on (e1.trans e2)) (r1.on e2) (Res.from e1 r2)⟩⟩
theorem one {ga : PEnv → Prop} {fa : PEnv → PV} {P : V → Hp → Prop} (r : R K o G0 H0 ρ σ G H) (ha : ga ρ)
    (k : ∀ x G' H', Ext G H G' H' → R K o G0 H0 ρ σ G' H' → Res ma K G H G' H' (fa ρ) x → P x H') :
    tP K o ma ga fa σ H P := ⟨G0, H0, ρ, G, r, ha, fun x G1 H1 e1 r1 => k x G1 H1 e1 (r.on e1) r1⟩
end

section
variable {X : Cx} {o : List Nat} {m ma mb : Md} {e a b : Expr} {g ga gb : PEnv → Prop} {f fa fb : PEnv → PV} {pos : Pos}

/-! change of mode -/
theorem xB (h : PX X o m e g f) : PX X o .B e g f := pe_imp h fun σ H Q ⟨G0, H0, ρ, G, r, hg, q⟩ => ⟨G0, H0, ρ, G, r, hg, fun u G' H' e hu => q u G' H' e hu.B⟩
theorem xS (h : PX X o .F e g f) : PX X o .S e g f := pe_imp h fun σ H Q ⟨G0, H0, ρ, G, r, hg, q⟩ => ⟨G0, H0, ρ, G, r, hg, fun u G' H' e hu =>
  let ⟨G'', e', h'⟩ := hu.share e; q u G'' H' e' h'⟩

/-! names and constants -/
theorem xv (i : Nat) {x : Str} {pos : Pos} (ho : i ∉ o := by decide) (hN : X.N[i]? = some x := by rfl) (hv : Vis X.env.scope x := by first | exact Or.inl rfl | exact Or.inr (Or.inl rfl) | exact Or.inr (Or.inr rfl))
    (hd : (x == ("__debug__" : Str)) = false := by decide) (hcd : (x == ("__classdict__" : Str)) = false := by decide) : PX X o .S (.Name x pos) (fun ρ => gd ρ i = true) (fun ρ => gv ρ i) :=
  pe_imp (pe_var hN hv hd hcd) fun σ H Q ⟨G0, H0, ρ, G, r, hg, q⟩ => by
    obtain ⟨u, h1, h2⟩ := r.sh i _ (gd_some hg) ho
    exact ⟨u, h1, q u G H (Ext.refl r.ext.gh) h2⟩
theorem xw (i : Nat) {x : Str} {pos : Pos} (ho : i ∈ o := by decide) (hN : X.N[i]? = some x := by rfl) (hv : Vis X.env.scope x := by first | exact Or.inl rfl | exact Or.inr (Or.inl rfl) | exact Or.inr (Or.inr rfl))
    (hd : (x == ("__debug__" : Str)) = false := by decide) (hcd : (x == ("__classdict__" : Str)) = false := by decide) : PX X o .B (.Name x pos) (fun ρ => gd ρ i = true) (fun ρ => gv ρ i) :=
  pe_imp (pe_var hN hv hd hcd) fun σ H Q ⟨G0, H0, ρ, G, r, hg, q⟩ => by
    obtain ⟨xs, p, us, h1, h2, h3, h4, h5, h6⟩ := r.ow i _ (gd_some hg) ho
    exact ⟨.ref p, h2, q _ G H (Ext.refl r.ext.gh) (.inr ⟨xs, p, us, h1, rfl, h5, h6⟩)⟩
theorem xint {i j pos} : PX X o .S (.Constant (.int i) j pos) (fun _ => True) (fun _ => .int i) := pe_imp pe_int fun σ H Q ⟨G0, H0, ρ, G, r, _, q⟩ => q _ G H (Ext.refl r.ext.gh) (Rep.int i)
theorem xbl {b j pos} : PX X o .S (.Constant (.bool b) j pos) (fun _ => True) (fun _ => .bl b) := pe_imp pe_bl fun σ H Q ⟨G0, H0, ρ, G, r, _, q⟩ => q _ G H (Ext.refl r.ext.gh) (Rep.bl b)
theorem xnon {j pos} : PX X o .S (.Constant .none j pos) (fun _ => True) (fun _ => .non) := pe_imp pe_non fun σ H Q ⟨G0, H0, ρ, G, r, _, q⟩ => q _ G H (Ext.refl r.ext.gh) Rep.non
theorem xstr {x j pos} : PX X o .S (.Constant (.str x) j pos) (fun _ => True) (fun _ => .str x) := pe_imp pe_str fun σ H Q ⟨G0, H0, ρ, G, r, _, q⟩ => q _ G H (Ext.refl r.ext.gh) (Rep.str x)

/-! two ints -/
def gI (ga gb : PEnv → Prop) (fa fb : PEnv → PV) (C : Int → Int → Prop) (ρ : PEnv) : Prop := ga ρ ∧ gb ρ ∧ isI (fa ρ) = true ∧ isI (fb ρ) = true ∧ C (toI (fa ρ)) (toI (fb ρ))
def gI0 (ga gb : PEnv → Prop) (fa fb : PEnv → PV) (ρ : PEnv) : Prop := ga ρ ∧ gb ρ ∧ isI (fa ρ) = true ∧ isI (fb ρ) = true
theorem rd_int {K : PySem.W.Frag} {C : Int → Int → Prop} {h : Int → Int → PV} {hv : Int → Int → V} (hh : ∀ G i j, Rep K G (h i j) (hv i j)) {σ : Sg} {H : Hp} {Q : VK}
    (q : tP K o .S (gI ga gb fa fb C) (fun ρ => h (toI (fa ρ)) (toI (fb ρ))) σ H Q) : tOp (rI C hv) (tP K o ma ga fa) (tP K o mb gb fb) σ H Q := by
  obtain ⟨G0, H0, ρ, G, r, ⟨h1, h2, h3, h4, h5⟩, q⟩ := q
  exact two r h1 h2 fun x y G' H' e r' rx ry => ⟨_, _, rx.eqI h3, ry.eqI h4, h5, q _ G' H' e (hh _ _ _)⟩
theorem rd_int0 {K : PySem.W.Frag} {h : Int → Int → PV} {hv : Int → Int → V} (hh : ∀ G i j, Rep K G (h i j) (hv i j)) {σ : Sg} {H : Hp} {Q : VK}
    (q : tP K o .S (gI0 ga gb fa fb) (fun ρ => h (toI (fa ρ)) (toI (fb ρ))) σ H Q) : tOp (rI0 hv) (tP K o ma ga fa) (tP K o mb gb fb) σ H Q := by
  obtain ⟨G0, H0, ρ, G, r, ⟨h1, h2, h3, h4⟩, q⟩ := q
  exact two r h1 h2 fun x y G' H' e r' rx ry => ⟨_, _, rx.eqI h3, ry.eqI h4, q _ G' H' e (hh _ _ _)⟩
theorem xadd (ha : PX X o ma a ga fa) (hb : PX X o mb b gb fb) : PX X o .S (.BinOp a .Add b pos) (gI0 ga gb fa fb) (fun ρ => .int (toI (fa ρ) + toI (fb ρ))) :=
  pe_imp (pe_op op_add ha hb) fun σ H Q => rd_int0 (h := fun i j => .int (i + j)) fun _ _ _ => .int _
theorem xsub (ha : PX X o ma a ga fa) (hb : PX X o mb b gb fb) : PX X o .S (.BinOp a .Sub b pos) (gI0 ga gb fa fb) (fun ρ => .int (toI (fa ρ) - toI (fb ρ))) :=
  pe_imp (pe_op op_sub ha hb) fun σ H Q => rd_int0 (h := fun i j => .int (i - j)) fun _ _ _ => .int _
theorem xmul (ha : PX X o ma a ga fa) (hb : PX X o mb b gb fb) : PX X o .S (.BinOp a .Mult b pos) (gI ga gb fa fb CMulW) (fun ρ => .int (toI (fa ρ) * toI (fb ρ))) :=
  pe_imp (pe_op op_mulW ha hb) fun σ H Q => rd_int (h := fun i j => .int (i * j)) fun _ _ _ => .int _
/-- a factor between -2^64 and 2^64 -/
theorem xmulc (ha : PX X o ma a ga fa) (hb : PX X o mb b gb fb) : PX X o .S (.BinOp a .Mult b pos) (gI ga gb fa fb CMul) (fun ρ => .int (toI (fa ρ) * toI (fb ρ))) :=
  pe_imp (pe_op op_mul ha hb) fun σ H Q => rd_int (h := fun i j => .int (i * j)) fun _ _ _ => .int _
theorem xmod (ha : PX X o ma a ga fa) (hb : PX X o mb b gb fb) : PX X o .S (.BinOp a .Mod b pos) (gI ga gb fa fb fun _ j => j ≠ 0) (fun ρ => .int ((toI (fa ρ)).fmod (toI (fb ρ)))) :=
  pe_imp (pe_op op_modN ha hb) fun σ H Q => rd_int (h := fun i j => .int (i.fmod j)) fun _ _ _ => .int _
/-- a divisor that isn't nought, of less than 9000 bits -/
def CDivZ (_ j : Int) : Prop := j ≠ 0 ∧ j.natAbs.log2 < 9000
theorem op_fdivZ : OpR X (binaryOp .FloorDiv) (rI CDivZ fun i j => .int (i.fdiv j)) := opI fun i j _ _ _ _ _ hc q => floordiv_int hc.1 q (.inl (PyProof.noPylong_of_log2 hc.2))
theorem xdiv (ha : PX X o ma a ga fa) (hb : PX X o mb b gb fb) : PX X o .S (.BinOp a .FloorDiv b pos) (gI ga gb fa fb CDivZ) (fun ρ => .int ((toI (fa ρ)).fdiv (toI (fb ρ)))) :=
  pe_imp (pe_op op_fdivZ ha hb) fun σ H Q => rd_int (h := fun i j => .int (i.fdiv j)) fun _ _ _ => .int _
theorem xpow (ha : PX X o ma a ga fa) (hb : PX X o mb b gb fb) : PX X o .S (.BinOp a .Pow b pos) (gI ga gb fa fb CPow) (fun ρ => .int (toI (fa ρ) ^ (toI (fb ρ)).toNat)) :=
  pe_imp (pe_op op_pow ha hb) fun σ H Q => rd_int (h := fun i j => .int (i ^ j.toNat)) fun _ _ _ => .int _
theorem xneg (ha : PX X o ma a ga fa) : PX X o .S (.UnaryOp .USub a pos) (fun ρ => ga ρ ∧ isI (fa ρ) = true) (fun ρ => .int (-(toI (fa ρ)))) :=
  pe_imp (pe_un un_neg ha) fun σ H Q ⟨G0, H0, ρ, G, r, ⟨h1, h2⟩, q⟩ => one r h1 fun x G' H' e r' rx => ⟨_, rx.eqI h2, q _ G' H' e (Rep.int _)⟩
/-! comparisons, as values and as tests -/
theorem rd_tst {K : PySem.W.Frag} {c : PEnv → Bool} {t : TE} (h : ∀ σ H Q, tP K o .S g (fun ρ => .bl (c ρ)) σ H Q → t σ H Q) {σ : Sg} {H : Hp} {Q : Bool → Hp → Prop} (q : tT K o g c σ H Q) : tTest t σ H Q := by
  obtain ⟨G0, H0, ρ, G, r, hg, q⟩ := q
  exact h _ _ _ ⟨G0, H0, ρ, G, r, hg, fun u G' H' e hu => ⟨c ρ, Rep.bl_eq hu, q G' H' e⟩⟩
theorem xlt (ha : PX X o ma a ga fa) (hb : PX X o mb b gb fb) : PX X o .S (.Compare a [.Lt] [b] pos) (gI0 ga gb fa fb) (fun ρ => .bl (decide (toI (fa ρ) < toI (fb ρ)))) :=
  pe_imp (pe_cmpR op_lt ha hb (nomark _)) fun σ H Q => rd_int0 (h := fun i j => .bl (decide (i < j))) fun _ _ _ => .bl _
theorem xle (ha : PX X o ma a ga fa) (hb : PX X o mb b gb fb) : PX X o .S (.Compare a [.LtE] [b] pos) (gI0 ga gb fa fb) (fun ρ => .bl (decide (toI (fa ρ) ≤ toI (fb ρ)))) :=
  pe_imp (pe_cmpR op_le ha hb (nomark _)) fun σ H Q => rd_int0 (h := fun i j => .bl (decide (i ≤ j))) fun _ _ _ => .bl _
theorem xgt (ha : PX X o ma a ga fa) (hb : PX X o mb b gb fb) : PX X o .S (.Compare a [.Gt] [b] pos) (gI0 ga gb fa fb) (fun ρ => .bl (decide (toI (fb ρ) < toI (fa ρ)))) :=
  pe_imp (pe_cmpR op_gt ha hb (nomark _)) fun σ H Q => rd_int0 (h := fun i j => .bl (decide (j < i))) fun _ _ _ => .bl _
theorem xge (ha : PX X o ma a ga fa) (hb : PX X o mb b gb fb) : PX X o .S (.Compare a [.GtE] [b] pos) (gI0 ga gb fa fb) (fun ρ => .bl (decide (toI (fb ρ) ≤ toI (fa ρ)))) :=
  pe_imp (pe_cmpR op_ge ha hb (nomark _)) fun σ H Q => rd_int0 (h := fun i j => .bl (decide (j ≤ i))) fun _ _ _ => .bl _
theorem ylt (ha : PX X o ma a ga fa) (hb : PX X o mb b gb fb) : PXT X o (.Compare a [.Lt] [b] pos) (gI0 ga gb fa fb) (fun ρ => decide (toI (fa ρ) < toI (fb ρ))) :=
  pt_imp (pt_cmpR op_lt ha hb (nomark _)) fun σ H Q => rd_tst fun σ H Q => rd_int0 (h := fun i j => .bl (decide (i < j))) fun _ _ _ => .bl _
theorem yle (ha : PX X o ma a ga fa) (hb : PX X o mb b gb fb) : PXT X o (.Compare a [.LtE] [b] pos) (gI0 ga gb fa fb) (fun ρ => decide (toI (fa ρ) ≤ toI (fb ρ))) :=
  pt_imp (pt_cmpR op_le ha hb (nomark _)) fun σ H Q => rd_tst fun σ H Q => rd_int0 (h := fun i j => .bl (decide (i ≤ j))) fun _ _ _ => .bl _
theorem ygt (ha : PX X o ma a ga fa) (hb : PX X o mb b gb fb) : PXT X o (.Compare a [.Gt] [b] pos) (gI0 ga gb fa fb) (fun ρ => decide (toI (fb ρ) < toI (fa ρ))) :=
  pt_imp (pt_cmpR op_gt ha hb (nomark _)) fun σ H Q => rd_tst fun σ H Q => rd_int0 (h := fun i j => .bl (decide (j < i))) fun _ _ _ => .bl _
theorem yge (ha : PX X o ma a ga fa) (hb : PX X o mb b gb fb) : PXT X o (.Compare a [.GtE] [b] pos) (gI0 ga gb fa fb) (fun ρ => decide (toI (fb ρ) ≤ toI (fa ρ))) :=
  pt_imp (pt_cmpR op_ge ha hb (nomark _)) fun σ H Q => rd_tst fun σ H Q => rd_int0 (h := fun i j => .bl (decide (j ≤ i))) fun _ _ _ => .bl _
/-- ints alone: ==, != -/
theorem rd_eqI {K : PySem.W.Frag} {σ : Sg} {H : Hp} {Q : VK} (q : tP K o .S (gI0 ga gb fa fb) (fun ρ => .bl (decide (toI (fa ρ) = toI (fb ρ)))) σ H Q) : tOp rEq (tP K o ma ga fa) (tP K o mb gb fb) σ H Q := by
  obtain ⟨G0, H0, ρ, G, r, ⟨h1, h2, h3, h4⟩, q⟩ := q
  refine two r h1 h2 fun x y G' H' e r' rx ry => ?_
  rw [rx.eqI h3, ry.eqI h4]
  refine ⟨rfl, ?_⟩
  have z := q _ G' H' e (Rep.bl _)
  rw [dec_int, Bool.beq_eq_decide_eq]
  exact z
theorem rd_neI {K : PySem.W.Frag} {σ : Sg} {H : Hp} {Q : VK} (q : tP K o .S (gI0 ga gb fa fb) (fun ρ => .bl (decide (toI (fa ρ) ≠ toI (fb ρ)))) σ H Q) : tOp rNe (tP K o ma ga fa) (tP K o mb gb fb) σ H Q := by
  obtain ⟨G0, H0, ρ, G, r, ⟨h1, h2, h3, h4⟩, q⟩ := q
  refine two r h1 h2 fun x y G' H' e r' rx ry => ?_
  rw [rx.eqI h3, ry.eqI h4]
  refine ⟨rfl, ?_⟩
  have z := q _ G' H' e (Rep.bl _)
  rw [dec_int, Bool.beq_eq_decide_eq, ← decide_not]
  exact z
theorem xeqI (ha : PX X o ma a ga fa) (hb : PX X o mb b gb fb) : PX X o .S (.Compare a [.Eq] [b] pos) (gI0 ga gb fa fb) (fun ρ => .bl (decide (toI (fa ρ) = toI (fb ρ)))) :=
  pe_imp (pe_cmpR op_eq ha hb (nomark _)) fun σ H Q => rd_eqI
theorem xneI (ha : PX X o ma a ga fa) (hb : PX X o mb b gb fb) : PX X o .S (.Compare a [.NotEq] [b] pos) (gI0 ga gb fa fb) (fun ρ => .bl (decide (toI (fa ρ) ≠ toI (fb ρ)))) :=
  pe_imp (pe_cmpR op_ne ha hb (nomark _)) fun σ H Q => rd_neI
theorem yeqI (ha : PX X o ma a ga fa) (hb : PX X o mb b gb fb) : PXT X o (.Compare a [.Eq] [b] pos) (gI0 ga gb fa fb) (fun ρ => decide (toI (fa ρ) = toI (fb ρ))) :=
  pt_imp (pt_cmpR op_eq ha hb (nomark _)) fun σ H Q => rd_tst fun σ H Q => rd_eqI
theorem yneI (ha : PX X o ma a ga fa) (hb : PX X o mb b gb fb) : PXT X o (.Compare a [.NotEq] [b] pos) (gI0 ga gb fa fb) (fun ρ => decide (toI (fa ρ) ≠ toI (fb ρ))) :=
  pt_imp (pt_cmpR op_ne ha hb (nomark _)) fun σ H Q => rd_tst fun σ H Q => rd_neI
end
end PL

namespace PL
open PySem PySem.Spec PyProof.Rows L2

section
variable {X : Cx} {o : List Nat} {m ma mb : Md} {e a b : Expr} {es : List Expr} {g ga gb ge : PEnv → Prop} {f fa fb fe : PEnv → PV} {fs : PEnv → List PV} {pos : Pos}

/-! arguments -/
theorem xa0 : PXA X o [] (fun _ => True) (fun _ => []) := pa_imp pa_nil fun σ H Q ⟨G0, H0, ρ, G, r, _, q⟩ => q [] G H (Ext.refl r.ext.gh) .nil
theorem xa (ha : PX X o .S e ge fe) (hr : PXA X o es g fs) (hs : starEach (e :: es) X.env = (false, eval e X.env) :: starEach es X.env := by rfl) : PXA X o (e :: es) (fun ρ => ge ρ ∧ g ρ) (fun ρ => fe ρ :: fs ρ) :=
  pa_imp (pa_cons ha hr hs) fun σ H Q ⟨G0, H0, ρ, G, r, ⟨h1, h2⟩, q⟩ => one r h1 fun x G1 H1 e1 r1 rx => ⟨_, _, _, _, r1, h2, fun us G2 H2 e2 ru => q _ G2 H2 (e1.trans e2) (.cons (Rep.mono e2.gg rx) ru)⟩
theorem xb0 : PXB X o [] (fun _ => True) (fun _ => []) := pa_imp pa_nil fun σ H Q ⟨G0, H0, ρ, G, r, _, q⟩ => q [] G H (Ext.refl r.ext.gh) .nil
theorem xb (ha : PX X o m e ge fe) (hr : PXB X o es g fs) (hs : starEach (e :: es) X.env = (false, eval e X.env) :: starEach es X.env := by rfl) : PXB X o (e :: es) (fun ρ => ge ρ ∧ g ρ) (fun ρ => fe ρ :: fs ρ) :=
  pa_imp (pa_cons ha hr hs) fun σ H Q ⟨G0, H0, ρ, G, r, ⟨h1, h2⟩, q⟩ => one r h1 fun x G1 H1 e1 r1 rx => ⟨_, _, _, _, r1, h2, fun us G2 H2 e2 ru => q _ G2 H2 (e1.trans e2) (.cons ((rx.all e1.gh).mono e2.hh) ru)⟩

/-! lists and tuples made -/
theorem xtup {k : Nat} (h : PXA X o es g fs) : PX X o .S (.Tuple es k pos) (fun ρ => g ρ ∧ (fs ρ).length ≤ sizeLine) (fun ρ => .tup (fs ρ)) :=
  pe_imp (pe_tup h) fun σ H Q ⟨G0, H0, ρ, G, r, ⟨h1, h2⟩, q⟩ => ⟨_, _, _, _, r, h1, fun us G1 H1 e1 ru => ⟨by rw [← ru.length]; exact h2, fun p np =>
    q _ _ _ (e1.trans (Ext.lay e1.gh np)) (Rep.tup upd_same (ru.mono (Ext.lay (u := .tup us) e1.gh np).gg))⟩⟩
theorem Ext.fresh {K : PySem.W.Frag} {G H G1 H1 : Hp} {p : Addr} {us : List V} {xs : List PV} (e1 : Ext G H G1 H1) (np : H1 p = none) (ru : Reps K G1 xs us) : Res .F K G H G1 (upd H1 p (.lst us)) (.list xs) (.ref p) :=
  ⟨xs, p, us, rfl, rfl, e1.hh.free np, e1.gh.free np, upd_same, ru⟩
theorem xlst (h : PXA X o es g fs) : PX X o .F (.List es pos) (fun ρ => g ρ ∧ (fs ρ).length ≤ sizeLine) (fun ρ => .list (fs ρ)) :=
  pe_imp (pe_lst h) fun σ H Q ⟨G0, H0, ρ, G, r, ⟨h1, h2⟩, q⟩ => ⟨_, _, _, _, r, h1, fun us G1 H1 e1 ru => ⟨by rw [← ru.length]; exact h2, fun p np =>
    q _ _ _ (e1.trans (Ext.new e1.gh np)) (e1.fresh np ru)⟩⟩
theorem xcat (ha : PX X o ma a ga fa) (hb : PX X o mb b gb fb) : PX X o .F (.BinOp a .Add b pos) (fun ρ => ga ρ ∧ gb ρ ∧ isL (fa ρ) = true ∧ isL (fb ρ) = true ∧ (elems (fa ρ)).length + (elems (fb ρ)).length ≤ sizeLine) (fun ρ => .list (elems (fa ρ) ++ elems (fb ρ))) :=
  pe_imp (pe_op op_cat ha hb) fun σ H Q ⟨G0, H0, ρ, G, r, ⟨h1, h2, h3, h4, h5⟩, q⟩ => two r h1 h2 fun x y G1 H1 e1 r1 rx ry => by
    obtain ⟨p1, us, rfl, k1, k2⟩ := rx.lst e1.gh h3
    obtain ⟨p2, ws, rfl, k3, k4⟩ := ry.lst e1.gh h4
    exact ⟨p1, p2, us, ws, rfl, rfl, k1, k3, by rw [← k2.length, ← k4.length]; exact h5, fun p np => q _ _ _ (e1.trans (Ext.new e1.gh np)) (e1.fresh np (k2.append k4))⟩
/-- [..] * n -/
theorem reps_rep {K : PySem.W.Frag} {G : Hp} {xs : List PV} {us : List V} (h : Reps K G xs us) : ∀ k : Nat, Reps K G (List.replicate k xs).flatten (List.replicate k us).flatten
  | 0 => .nil
  | k + 1 => by
    rw [List.replicate_succ, List.replicate_succ, List.flatten_cons, List.flatten_cons]
    exact h.append (reps_rep h k)

/-! items -/
theorem atI_rep {K : PySem.W.Frag} {G : Hp} {xs : List PV} {us : List V} {i : Int} {v : PV} (h : Reps K G xs us) (e : atI xs i = some v) : ∃ u, atI us i = some u ∧ Rep K G v u := by
  unfold atI at e ⊢
  rw [h.length] at e
  cases q : ixN us.length i with
  | none => rw [q] at e; cases e
  | some j =>
    rw [q] at e
    exact h.get e
def itAt (xs : List PV) (i : Int) : PV := (atI xs i).getD .non
theorem itAt_some {xs : List PV} {i : Int} (h : (atI xs i).isSome = true) : atI xs i = some (itAt xs i) := by
  unfold itAt
  cases q : atI xs i with
  | none => rw [q] at h; cases h
  | some v => rfl
theorem xix (ha : PX X o ma a ga fa) (hb : PX X o mb b gb fb) (hs : PlainIx b := by exact fun _ _ => rfl) : PX X o .S (.Subscript a b pos) (fun ρ => ga ρ ∧ gb ρ ∧ isSq (fa ρ) = true ∧ isI (fb ρ) = true ∧ (atI (elems (fa ρ)) (toI (fb ρ))).isSome = true) (fun ρ => itAt (elems (fa ρ)) (toI (fb ρ))) :=
  pe_imp (pe_ix ix_seq ha hb hs) fun σ H Q ⟨G0, H0, ρ, G, r, ⟨h1, h2, h3, h4, h5⟩, q⟩ => two r h1 h2 fun x y G1 H1 e1 r1 rx ry => by
    obtain ⟨p1, us, rfl, k1, k2⟩ := rx.seq e1.gh h3
    obtain ⟨u, k3, k4⟩ := atI_rep k2 (itAt_some h5)
    have q' := q u G1 H1 e1 k4
    rcases k1 with k1 | k1
    · exact .inl ⟨p1, us, _, u, rfl, ry.eqI h4, k1, k3, q'⟩
    · exact .inr (.inl ⟨p1, us, _, u, rfl, ry.eqI h4, k1, k3, q'⟩)

/-! slices -/
def tOO (K : PySem.W.Frag) (o : List Nat) (g : PEnv → Prop) (f : PEnv → Option Int) : TO := fun σ H Q => ∃ G0 H0 ρ G, R K o G0 H0 ρ σ G H ∧ g ρ ∧ ∀ G' H', Ext G H G' H' → Q (f ρ) H'
abbrev PXO (X : Cx) (o : List Nat) (e : Option Expr) (g : PEnv → Prop) (f : PEnv → Option Int) : Prop := PO X e (tOO X.K o g f)
theorem po_imp {e : Option Expr} {t t' : TO} (h : PO X e t) (k : ∀ σ H Q, t' σ H Q → t σ H Q) : PO X e t' := ⟨fun pins s σ H Q A B C => h.run pins s σ H Q A (k σ H _ B) C⟩
theorem xo0 : PXO X o none (fun _ => True) (fun _ => none) := po_imp po_none fun σ H Q ⟨G0, H0, ρ, G, r, _, q⟩ => q G H (Ext.refl r.ext.gh)
theorem xo (ha : PX X o m e ge fe) : PXO X o (some e) (fun ρ => ge ρ ∧ isI (fe ρ) = true) (fun ρ => some (toI (fe ρ))) :=
  po_imp (po_some ha) fun σ H Q ⟨G0, H0, ρ, G, r, ⟨h1, h2⟩, q⟩ => one r h1 fun x G1 H1 e1 r1 rx => ⟨_, rx.eqI h2, q G1 H1 e1⟩
def cutP (xs : List PV) (lo hi : Option Int) : List PV := (xs.drop (HT.sIx xs.length 0 lo)).take (HT.sIx xs.length xs.length hi - HT.sIx xs.length 0 lo)
theorem Reps.cut {K : PySem.W.Frag} {G : Hp} {xs : List PV} {us : List V} (h : Reps K G xs us) (lo hi : Option Int) : Reps K G (cutP xs lo hi) (cutV us lo hi) := by
  unfold cutP cutV
  rw [h.length]
  exact (h.drop _).take _
variable {lo hi : Option Expr} {gl gh : PEnv → Prop} {fl fh : PEnv → Option Int} {p2 : Pos}
theorem xcut (ha : PX X o ma a ga fa) (hl : PXO X o lo gl fl) (hh : PXO X o hi gh fh) : PX X o .F (.Subscript a (.Slice lo hi none p2) pos) (fun ρ => ga ρ ∧ gl ρ ∧ gh ρ ∧ isLS (fa ρ) = true) (fun ρ => .list (cutP (elems (fa ρ)) (fl ρ) (fh ρ))) :=
  pe_imp (pe_slice sl_list ha hl hh) fun σ H Q ⟨G0, H0, ρ, G, r, ⟨h1, h2, h3, h4⟩, q⟩ => one r h1 fun x G1 H1 e1 r1 rx => ⟨_, _, _, _, r1, h2, fun G2 H2 e2 => ⟨_, _, _, _, r1.on e2, h3, fun G3 H3 e3 => by
    have e := e1.trans (e2.trans e3)
    obtain ⟨p1, us, rfl, k1, k2⟩ := (rx.on (e2.trans e3)).ls e.gh h4
    exact ⟨p1, us, rfl, k1, fun p np => q _ _ _ (e.trans (Ext.new e.gh np)) (e.fresh np (k2.cut _ _))⟩⟩⟩

/-! built-ins -/
section
variable {gA : PEnv → Prop} {fA : PEnv → List PV} {x : Str} {p : Pos}
theorem xcutT (ha : PX X o ma a ga fa) (hl : PXO X o lo gl fl) (hh : PXO X o hi gh fh) : PX X o .S (.Subscript a (.Slice lo hi none p2) pos) (fun ρ => ga ρ ∧ gl ρ ∧ gh ρ ∧ isT (fa ρ) = true ∧
    ¬ (HT.sIx (elems (fa ρ)).length 0 (fl ρ) = 0 ∧ HT.sIx (elems (fa ρ)).length (elems (fa ρ)).length (fh ρ) = (elems (fa ρ)).length)) (fun ρ => .tup (cutP (elems (fa ρ)) (fl ρ) (fh ρ))) :=
  pe_imp (pe_slice sl_tup ha hl hh) fun σ H Q ⟨G0, H0, ρ, G, r, ⟨h1, h2, h3, h4, h5⟩, q⟩ => one r h1 fun x G1 H1 e1 r1 rx => ⟨_, _, _, _, r1, h2, fun G2 H2 e2 => ⟨_, _, _, _, r1.on e2, h3, fun G3 H3 e3 => by
    have e := e1.trans (e2.trans e3)
    obtain ⟨p1, us, rfl, k1, k2⟩ := (rx.on (e2.trans e3)).tup e.gh h4
    exact ⟨p1, us, rfl, k1, by rw [← k2.length]; exact h5, fun p np => q _ _ _ (e.trans (Ext.lay e.gh np)) (Rep.tup upd_same ((k2.cut _ _).mono (Ext.lay (u := .tup (cutV us (fl ρ) (fh ρ))) e.gh np).gg))⟩⟩⟩
/-- one argument, of any mode -/
theorem rd1 {K : PySem.W.Frag} {r : List V → Hp → VK → Prop} {m' : Md} {g' : PEnv → Prop} {f' : PEnv → PV} (k : ∀ {ρ x G H G1 H1 Q}, Ext G H G1 H1 → Res ma K G H G1 H1 (fa ρ) x → g' ρ → (∀ u G' H', Ext G H G' H' → Res m' K G H G' H' (f' ρ) u → Q u H') → r [x] H1 Q)
    {σ : Sg} {H : Hp} {Q : VK} (q : tP K o m' (fun ρ => ga ρ ∧ g' ρ) f' σ H Q) : tCB r (tCons (tP K o ma ga fa) tNil) σ H Q := by
  obtain ⟨G0, H0, ρ, G, rr, ⟨h1, h2⟩, q⟩ := q
  exact one rr h1 fun x G1 H1 e1 r1 rx => k e1 rx h2 q
theorem xlen (mg : X.mg "len" = none) (ha : PX X o ma a ga fa) (hg : Gl X "len" := by rfl) (hs : starEach [a] X.env = (false, eval a X.env) :: starEach [] X.env := by rfl) :
    PX X o .S (.Call (.Name "len" p) [a] [] pos) (fun ρ => ga ρ ∧ isSq (fa ρ) = true) (fun ρ => .int (elems (fa ρ)).length) :=
  pe_imp (pe_callB call_len_seq hg mg PySem.boot_len (pa_cons ha pa_nil hs) (he := hs)) fun σ H Q => rd1 fun {ρ x G H G1 H1 Q} e1 rx h q => by
    obtain ⟨p1, us, rfl, k1, k2⟩ := rx.seq e1.gh h
    refine ⟨p1, us, rfl, k1, ?_⟩
    rw [← k2.length]
    exact q _ _ _ e1 (Rep.int _)
theorem xabs (mg : X.mg "abs" = none) (ha : PX X o ma a ga fa) (hg : Gl X "abs" := by rfl) (hs : starEach [a] X.env = (false, eval a X.env) :: starEach [] X.env := by rfl) :
    PX X o .S (.Call (.Name "abs" p) [a] [] pos) (fun ρ => ga ρ ∧ isI (fa ρ) = true) (fun ρ => .int ((toI (fa ρ)).natAbs : Int)) :=
  pe_imp (pe_callB call_abs hg mg boot_abs (pa_cons ha pa_nil hs) (he := hs)) fun σ H Q => rd1 fun {ρ x G H G1 H1 Q} e1 rx h q => by
    refine ⟨_, by rw [rx.eqI h], ?_⟩
    have e : (if toI (fa ρ) < 0 then -(toI (fa ρ)) else toI (fa ρ)) = ((toI (fa ρ)).natAbs : Int) := by split <;> omega
    rw [e]
    exact q _ _ _ e1 (Rep.int _)
def allI (xs : List PV) : Bool := xs.all isI
def toIs (xs : List PV) : List Int := xs.map toI
theorem toIs_of : ∀ {xs : List PV}, allI xs = true → xs = (toIs xs).map PV.int
  | [], _ => rfl
  | x :: xs, h => by
    simp only [allI, List.all_cons, Bool.and_eq_true] at h
    obtain ⟨h1, h2⟩ := h
    cases x with
    | int i =>
      show PV.int i :: xs = PV.int i :: (toIs xs).map PV.int
      rw [← toIs_of h2]
    | _ => cases h1
theorem allI_map (ns : List Int) : allI (ns.map PV.int) = true := by
  induction ns with
  | nil => rfl
  | cons n ns ih => exact ih
theorem toIs_map (ns : List Int) : toIs (ns.map PV.int) = ns := by
  induction ns with
  | nil => rfl
  | cons n ns ih =>
    show n :: toIs (ns.map PV.int) = n :: ns
    rw [ih]
theorem xsum (hc : X.calm = true) (mg : X.mg "sum" = none) (ha : PX X o ma a ga fa) (hg : Gl X "sum" := by rfl) (hs : starEach [a] X.env = (false, eval a X.env) :: starEach [] X.env := by rfl) :
    PX X o .S (.Call (.Name "sum" p) [a] [] pos) (fun ρ => ga ρ ∧ isLS (fa ρ) = true ∧ allI (elems (fa ρ)) = true) (fun ρ => .int (toIs (elems (fa ρ))).sum) :=
  pe_imp (pe_callB (cr_sum hc) hg mg boot_sum (pa_cons ha pa_nil hs) (he := hs)) fun σ H Q => rd1 fun {ρ x G H G1 H1 Q} e1 rx h q => by
    obtain ⟨p1, us, rfl, k1, k2⟩ := rx.ls e1.gh h.1
    have e := toIs_of h.2
    rw [e] at k2
    rw [k2.ints_eq] at k1
    exact ⟨p1, _, rfl, k1, q _ _ _ e1 (Rep.int _)⟩
/-- the greatest of a list: the program's own word for it is any m that is in it and above all -/
theorem xmax (hc : X.calm = true) (mg : X.mg "max" = none) (mx : List Int → Int) (hmx : ∀ (ns : List Int) (m : Int), m ∈ ns → (∀ y, y ∈ ns → y ≤ m) → m = mx ns) (ha : PX X o ma a ga fa) (hg : Gl X "max" := by rfl) (hs : starEach [a] X.env = (false, eval a X.env) :: starEach [] X.env := by rfl) :
    PX X o .S (.Call (.Name "max" p) [a] [] pos) (fun ρ => ga ρ ∧ isLS (fa ρ) = true ∧ allI (elems (fa ρ)) = true ∧ 0 < (elems (fa ρ)).length) (fun ρ => .int (mx (toIs (elems (fa ρ))))) :=
  pe_imp (pe_callB (cr_max hc) hg mg boot_max (pa_cons ha pa_nil hs) (he := hs)) fun σ H Q => rd1 fun {ρ x G H G1 H1 Q} e1 rx h q => by
    obtain ⟨p1, us, rfl, k1, k2⟩ := rx.ls e1.gh h.1
    have e := toIs_of h.2.1
    rw [e] at k2
    rw [k2.ints_eq] at k1
    refine ⟨p1, _, rfl, k1, by rw [toIs, List.length_map]; exact h.2.2, fun m h1 h2 => ?_⟩
    rw [hmx _ m h1 h2]
    exact q _ _ _ e1 (Rep.int _)
theorem xmin2 (hc : X.calm = true) (mg : X.mg "min" = none) (ha : PX X o ma a ga fa) (hb : PX X o mb b gb fb) (hg : Gl X "min" := by rfl) (hs : starEach [a, b] X.env = (false, eval a X.env) :: starEach [b] X.env := by rfl) (hs2 : starEach [b] X.env = (false, eval b X.env) :: starEach [] X.env := by rfl)
    (hpl : (backTo pos (starEach [b] X.env)).any (·.1) = false := by rfl) :
    PX X o .S (.Call (.Name "min" p) [a, b] [] pos) (gI0 ga gb fa fb) (fun ρ => .int (min (toI (fa ρ)) (toI (fb ρ)))) :=
  pe_imp (pe_callB (call_min2 hc) hg mg boot_min (pa_cons ha (pa_cons hb pa_nil hs2) hs) (he := hs) (hpl := hpl)) fun σ H Q ⟨G0, H0, ρ, G, r, ⟨h1, h2, h3, h4⟩, q⟩ => two r h1 h2 fun x y G' H' e r' rx ry => by
    refine ⟨_, _, by rw [rx.eqI h3, ry.eqI h4], ?_⟩
    have e2 : (if toI (fb ρ) < toI (fa ρ) then toI (fb ρ) else toI (fa ρ)) = min (toI (fa ρ)) (toI (fb ρ)) := by omega
    rw [e2]
    exact q _ _ _ e (Rep.int _)
theorem xlist (mg : X.mg "list" = none) (ha : PX X o ma a ga fa) (hg : Gl X "list" := by rfl) (hs : starEach [a] X.env = (false, eval a X.env) :: starEach [] X.env := by rfl) :
    PX X o .F (.Call (.Name "list" p) [a] [] pos) (fun ρ => ga ρ ∧ isSq (fa ρ) = true) (fun ρ => .list (elems (fa ρ))) :=
  pe_imp (pe_callTy call_list_of hg mg boot_list (pa_cons ha pa_nil hs) (he := hs)) fun σ H Q => rd1 fun {ρ x G H G1 H1 Q} e1 rx h q => by
    obtain ⟨p1, us, rfl, k1, k2⟩ := rx.seq e1.gh h
    exact ⟨p1, us, rfl, k1, fun l nl => q _ _ _ (e1.trans (Ext.new e1.gh nl)) (e1.fresh nl k2)⟩
theorem xtuple (mg : X.mg "tuple" = none) (ha : PX X o ma a ga fa) (hg : Gl X "tuple" := by rfl) (hs : starEach [a] X.env = (false, eval a X.env) :: starEach [] X.env := by rfl) :
    PX X o .S (.Call (.Name "tuple" p) [a] [] pos) (fun ρ => ga ρ ∧ isSq (fa ρ) = true) (fun ρ => .tup (elems (fa ρ))) :=
  pe_imp (pe_callTy call_tuple_of hg mg boot_tuple (pa_cons ha pa_nil hs) (he := hs)) fun σ H Q => rd1 fun {ρ x G H G1 H1 Q} e1 rx h q => by
    by_cases ht : isT (fa ρ) = true
    · have z := rx
      obtain ⟨p1, us, rfl, k1, k2⟩ := rx.tup e1.gh ht
      refine ⟨p1, us, rfl, .inr ⟨k1, q _ _ _ e1 ?_⟩⟩
      rcases z.B with z | ⟨xs, a, us, h1, _⟩
      · cases q2 : fa ρ with
        | tup xs =>
          rw [q2] at z
          exact z
        | _ =>
          rw [q2] at ht
          cases ht
      · rw [h1] at ht
        cases ht
    · have hl : isLS (fa ρ) = true := by
        cases q2 : fa ρ with
        | tup xs =>
          rw [q2] at ht
          exact absurd rfl ht
        | list xs => rfl
        | scr xs => rfl
        | _ =>
          rw [q2] at h
          cases h
      obtain ⟨p1, us, rfl, k1, k2⟩ := rx.ls e1.gh hl
      exact ⟨p1, us, rfl, .inl ⟨k1, fun l nl => q _ _ _ (e1.trans (Ext.lay e1.gh nl)) (Rep.tup upd_same (k2.mono (Ext.lay (u := .tup us) e1.gh nl).gg))⟩⟩
/-- int of a truth value or of an int -/
def toInt : PV → Int
  | .int i => i
  | .bl b => if b then 1 else 0
  | _ => 0
def isIB : PV → Bool
  | .int _ => true
  | .bl _ => true
  | _ => false
theorem xtoint (mg : X.mg "int" = none) (ha : PX X o ma a ga fa) (hg : Gl X "int" := by rfl) (hs : starEach [a] X.env = (false, eval a X.env) :: starEach [] X.env := by rfl) :
    PX X o .S (.Call (.Name "int" p) [a] [] pos) (fun ρ => ga ρ ∧ isIB (fa ρ) = true) (fun ρ => .int (toInt (fa ρ))) :=
  pe_imp (pe_callTy call_int1 hg mg boot_int (pa_cons ha pa_nil hs) (he := hs)) fun σ H Q => rd1 fun {ρ x G H G1 H1 Q} e1 rx h q => by
    cases q2 : fa ρ with
    | int i =>
      rw [q2] at rx q
      exact .inl ⟨i, by rw [rx.eqI rfl]; rfl, q _ _ _ e1 (Rep.int _)⟩
    | bl i =>
      rw [q2] at rx q
      exact .inr ⟨i, by rw [rx.eqB rfl]; rfl, q _ _ _ e1 (Rep.int _)⟩
    | _ =>
      rw [q2] at h
      cases h
/-! isinstance by a built-in class -/
def tyS : PV → String
  | .non => "NoneType"
  | .bl _ => "bool"
  | .int _ => "int"
  | .str _ => "str"
  | .list _ => "list"
  | .tup _ => "tuple"
  | .scr _ => "list"
  | .exc _ => "NoneType"
  | .exo _ => "NoneType"
/-- no caught error itself -/
def noE : PV → Prop
  | .exo _ => False
  | _ => True
def inTyS (T a : String) : Bool := a == T || (a == "bool" && T == "int")
def inTy (T : String) (v : PV) : Bool := inTyS T (tyS v)
theorem kit_tbl {a T : String} (ha : a = "NoneType" ∨ a = "bool" ∨ a = "int" ∨ a = "str" ∨ a = "list" ∨ a = "tuple") (hT : T = "int" ∨ T = "bool" ∨ T = "list" ∨ T = "tuple") : kitB a T = some (inTyS T a) := by
  rcases ha with rfl | rfl | rfl | rfl | rfl | rfl <;> rcases hT with rfl | rfl | rfl | rfl <;> decide +kernel
theorem isi_core {K : PySem.W.Frag} {G H G1 H1 : Hp} {v : PV} {x : V} {T : String} (hT : T = "int" ∨ T = "bool" ∨ T = "list" ∨ T = "tuple") (s : Same G1 H1) (rx : Res ma K G H G1 H1 v x) (ne : noE v) :
    ∃ t, TyX K H1 x t ∧ PySem.W.kitOne K t (.type T) = some (inTy T v) := by
  have z := rx.all s
  cases z with
  | non => exact ⟨_, .base .non, kit_ty (kit_tbl (by simp) hT)⟩
  | bl b => exact ⟨_, .base (.bl b), kit_ty (kit_tbl (by simp) hT)⟩
  | int b => exact ⟨_, .base (.int b), kit_ty (kit_tbl (by simp) hT)⟩
  | str b => exact ⟨_, .base (.str b), kit_ty (kit_tbl (by simp) hT)⟩
  | list h _ => exact ⟨_, .base (.lst h), kit_ty (kit_tbl (by simp) hT)⟩
  | tup h _ => exact ⟨_, .base (.tup h), kit_ty (kit_tbl (by simp) hT)⟩
  | scr h =>
    rcases h with (h | ⟨o, h⟩) | ⟨o, its, n, h, c, _⟩
    · exact ⟨_, .base (.lst h), kit_ty (kit_tbl (by simp) hT)⟩
    · exact ⟨_, .base (.frz h), kit_ty (kit_tbl (by simp) hT)⟩
    · exact ⟨_, .kList h c, kit_ty (kit_tbl (by simp) hT)⟩
  | exo a => exact ne.elim
theorem xisi {T : Str} {T' : String} (mg : X.mg "isinstance" = none) (mgT : X.mg T = none) (bT : bootBuiltins T = some (.type T')) (ha : PX X o ma a ga fa) (hT : T' = "int" ∨ T' = "bool" ∨ T' = "list" ∨ T' = "tuple")
    (hnT : T ≠ "__name__" := by decide) (hdT : (T == ("__debug__" : Str)) = false := by decide) {pT : Pos}
    (hg : Gl X "isinstance" := by rfl) (hgT : Gl X T := by rfl) (hs : starEach [a, .Name T pT] X.env = (false, eval a X.env) :: starEach [.Name T pT] X.env := by rfl) (hs2 : starEach [.Name T pT] X.env = (false, eval (.Name T pT) X.env) :: starEach [] X.env := by rfl)
    (hpl : (backTo pos (starEach [.Name T pT] X.env)).any (·.1) = false := by rfl) :
    PX X o .S (.Call (.Name "isinstance" p) [a, .Name T pT] [] pos) (fun ρ => ga ρ ∧ noE (fa ρ)) (fun ρ => .bl (inTy T' (fa ρ))) :=
  pe_imp (pe_callB call_isi hg mg boot_isinstance (pa_cons ha (pa_cons (pe_bltn (v := .ty T') hgT mgT bT rfl hnT hdT) pa_nil hs2) hs) (he := hs) (hpl := hpl)) fun σ H Q ⟨G0, H0, ρ, G, r, ⟨h1, h2⟩, q⟩ => one r h1 fun x G1 H1 e1 r1 rx => by
    obtain ⟨t, k1, k2⟩ := isi_core hT e1.gh rx h2
    exact ⟨x, .ty T', t, .type T', _, rfl, .ty T', k1, k2, q _ _ _ e1 (Rep.bl _)⟩
end

/-! and, or, not -/
theorem wone {c : PEnv → Bool} (h : PXT X o e g c) : PXW X o (.BoolOp .And [e] pos) g c := pw_and1 h
theorem wone' {c : PEnv → Bool} (h : PXT X o e g c) : PXW X o (.BoolOp .Or [e] pos) g c := pw_or1 h
theorem wand {ca cb : PEnv → Bool} (ha : PXT X o a ga ca) (hb : PXW X o (.BoolOp .And (b :: es) pos) gb cb) : PXW X o (.BoolOp .And (a :: b :: es) pos) (fun ρ => ga ρ ∧ (ca ρ = true → gb ρ)) (fun ρ => ca ρ && cb ρ) :=
  pw_imp (pw_and ha hb) fun σ H Q ⟨G0, H0, ρ, G, r, ⟨h1, h2⟩, q⟩ => ⟨_, _, _, _, r, h1, fun G1 H1 e1 => by
    cases hc : ca ρ with
    | true =>
      rw [if_pos rfl]
      refine ⟨_, _, _, _, r.on e1, h2 hc, fun G2 H2 e2 => ?_⟩
      have z := q G2 H2 (e1.trans e2)
      dsimp only at z
      rw [hc] at z
      exact z
    | false =>
      rw [if_neg Bool.false_ne_true]
      have z := q G1 H1 e1
      dsimp only at z
      rw [hc] at z
      exact z⟩
theorem wor {ca cb : PEnv → Bool} (ha : PXT X o a ga ca) (hb : PXW X o (.BoolOp .Or (b :: es) pos) gb cb) : PXW X o (.BoolOp .Or (a :: b :: es) pos) (fun ρ => ga ρ ∧ (ca ρ = false → gb ρ)) (fun ρ => ca ρ || cb ρ) :=
  pw_imp (pw_or ha hb) fun σ H Q ⟨G0, H0, ρ, G, r, ⟨h1, h2⟩, q⟩ => ⟨_, _, _, _, r, h1, fun G1 H1 e1 => by
    cases hc : ca ρ with
    | false =>
      rw [if_neg Bool.false_ne_true]
      refine ⟨_, _, _, _, r.on e1, h2 hc, fun G2 H2 e2 => ?_⟩
      have z := q G2 H2 (e1.trans e2)
      dsimp only at z
      rw [hc] at z
      exact z
    | true =>
      rw [if_pos rfl]
      have z := q G1 H1 e1
      dsimp only at z
      rw [hc] at z
      exact z⟩
theorem yw {c : PEnv → Bool} (h : PXW X o e g c) : PXT X o e g c := PW.pt h
theorem ynot {c : PEnv → Bool} (h : PXT X o e g c) : PXT X o (.UnaryOp .Not e pos) g (fun ρ => !c ρ) :=
  pt_imp (pt_not h) fun σ H Q ⟨G0, H0, ρ, G, r, h1, q⟩ => ⟨_, _, _, _, r, h1, fun G1 H1 e1 => q G1 H1 e1⟩
/-- an expression that tells a truth value, as a test -/
theorem yval (h : PX X o m e g f) (he : ∀ whole, isTrue e X.env whole = (do let v ← whole; standAt e.pos; holding [v] (truthy v)) := by intro _; rfl) : PXT X o e (fun ρ => g ρ ∧ isB (f ρ) = true) (fun ρ => toB (f ρ)) :=
  pt_imp (pt_val h he) fun σ H Q ⟨G0, H0, ρ, G, r, ⟨h1, h2⟩, q⟩ => one r h1 fun x G1 H1 e1 r1 rx => ⟨_, rx.eqB h2, q G1 H1 e1⟩
/-- .. as values: each part a truth value -/
theorem xone {op : BoolOp} (h : PX X o m e g f) : PX X o m (.BoolOp op [e] pos) g f := pe_one h
theorem xand (ha : PX X o ma a ga fa) (hb : PX X o .S (.BoolOp .And (b :: es) pos) gb fb) : PX X o .S (.BoolOp .And (a :: b :: es) pos) (fun ρ => ga ρ ∧ isB (fa ρ) = true ∧ (toB (fa ρ) = true → gb ρ ∧ isB (fb ρ) = true)) (fun ρ => .bl (toB (fa ρ) && toB (fb ρ))) :=
  pe_imp (pe_and ha hb) fun σ H Q ⟨G0, H0, ρ, G, r, ⟨h1, h2, h3⟩, q⟩ => one r h1 fun x G1 H1 e1 r1 rx => ⟨_, rx.eqB h2, by
    cases hc : toB (fa ρ) with
    | true =>
      rw [if_pos rfl]
      obtain ⟨h4, h5⟩ := h3 hc
      refine ⟨_, _, _, _, r1, h4, fun u G2 H2 e2 hu => ?_⟩
      have z := q u G2 H2 (e1.trans e2)
      dsimp only at z
      rw [hc, Bool.true_and] at z
      have z2 := hu.eqB h5
      exact z (by rw [z2]; exact Rep.bl _)
    | false =>
      rw [if_neg Bool.false_ne_true]
      have z := q (.bl false) G1 H1 e1
      dsimp only at z
      rw [hc, Bool.false_and] at z
      exact z (Rep.bl _)⟩
theorem xor (ha : PX X o ma a ga fa) (hb : PX X o .S (.BoolOp .Or (b :: es) pos) gb fb) : PX X o .S (.BoolOp .Or (a :: b :: es) pos) (fun ρ => ga ρ ∧ isB (fa ρ) = true ∧ (toB (fa ρ) = false → gb ρ ∧ isB (fb ρ) = true)) (fun ρ => .bl (toB (fa ρ) || toB (fb ρ))) :=
  pe_imp (pe_or ha hb) fun σ H Q ⟨G0, H0, ρ, G, r, ⟨h1, h2, h3⟩, q⟩ => one r h1 fun x G1 H1 e1 r1 rx => ⟨_, rx.eqB h2, by
    cases hc : toB (fa ρ) with
    | false =>
      rw [if_neg Bool.false_ne_true]
      obtain ⟨h4, h5⟩ := h3 hc
      refine ⟨_, _, _, _, r1, h4, fun u G2 H2 e2 hu => ?_⟩
      have z := q u G2 H2 (e1.trans e2)
      dsimp only at z
      rw [hc, Bool.false_or] at z
      have z2 := hu.eqB h5
      exact z (by rw [z2]; exact Rep.bl _)
    | true =>
      rw [if_pos rfl]
      have z := q (.bl true) G1 H1 e1
      dsimp only at z
      rw [hc, Bool.true_or] at z
      exact z (Rep.bl _)⟩
theorem xnot (ha : PX X o ma a ga fa) : PX X o .S (.UnaryOp .Not a pos) (fun ρ => ga ρ ∧ isB (fa ρ) = true) (fun ρ => .bl (!toB (fa ρ))) :=
  pe_imp (pe_not ha) fun σ H Q ⟨G0, H0, ρ, G, r, ⟨h1, h2⟩, q⟩ => one r h1 fun x G1 H1 e1 r1 rx => ⟨_, rx.eqB h2, q _ _ _ e1 (Rep.bl _)⟩

/-! == at any depth (a caught error itself is never compared: it counts as too deep) -/
def deepD : Nat → PyData
  | 0 => .none
  | n + 1 => .list [deepD n]
theorem deepD_depth : ∀ n, (deepD n).depth = n
  | 0 => rfl
  | n + 1 => by
    show max (deepD n).depth 0 + 1 = n + 1
    rw [deepD_depth n]
    omega
mutual
def pd : PV → PyData
  | .non => .none
  | .bl b => .bool b
  | .int i => .int i
  | .str x => .str x
  | .list xs => .list (pds xs)
  | .tup xs => .tuple (pds xs)
  | .scr ns => .list (ns.map PyData.int)
  | .exc _ => .none
  | .exo _ => deepD 100
def pds : List PV → List PyData
  | [] => []
  | x :: xs => pd x :: pds xs
end

theorem dpInts {K : PySem.W.Frag} {H : Hp} : ∀ (ns : List Int), DpAll K H (ns.map V.int) (ns.map PyData.int)
  | [] => .nil
  | n :: ns => .cons (.int n) (dpInts ns)
mutual
theorem Rep.dp {K : PySem.W.Frag} {H : Hp} : ∀ {v : PV} {u : V}, Rep K H v u → (pd v).depth ≤ 64 → Dp K H u (pd v)
  | _, _, .non, _ => .non
  | _, _, .bl b, _ => .bl b
  | _, _, .int i, _ => .int i
  | _, _, .str x, _ => .str x
  | _, _, .list (xs := xs) h r, d => .lst (SqL.of h) (Reps.dp r (by
    have d : PyData.depthAll (pds xs) + 1 ≤ 64 := d
    omega))
  | _, _, .tup (xs := xs) h r, d => .tup (SqT.of h) (Reps.dp r (by
    have d : PyData.depthAll (pds xs) + 1 ≤ 64 := d
    omega))
  | _, _, .scr h, _ => .lst h (dpInts _)
  | _, _, .exo a, d => by
    have d : (deepD 100).depth ≤ 64 := d
    rw [deepD_depth] at d
    omega
theorem Reps.dp {K : PySem.W.Frag} {H : Hp} : ∀ {v : List PV} {u : List V}, Reps K H v u → PyData.depthAll (pds v) ≤ 64 → DpAll K H u (pds v)
  | _, _, .nil, _ => .nil
  | _, _, .cons (v := v) (vs := vs) h r, d => by
    have d : max (pd v).depth (PyData.depthAll (pds vs)) ≤ 64 := d
    exact .cons (Rep.dp h (by omega)) (Reps.dp r (by omega))
end
def eqP (v w : PV) : Bool := PyData.eqv (pd v) (pd w)
def shP (v : PV) : Bool := SeqAt.shaped (pd v)
theorem shP_dep {v : PV} (h : shP v = true) : (pd v).depth ≤ 64 := by
  unfold shP SeqAt.shaped at h
  rw [Bool.and_eq_true] at h
  exact of_decide_eq_true h.2
theorem xeq (hu : X.A.units + 64 < cLine) (ha : PX X o ma a ga fa) (hb : PX X o mb b gb fb) : PX X o .S (.Compare a [.Eq] [b] pos) (fun ρ => ga ρ ∧ gb ρ ∧ shP (fa ρ) = true ∧ shP (fb ρ) = true) (fun ρ => .bl (eqP (fa ρ) (fb ρ))) :=
  pe_imp (pe_cmpR (op_eqD hu) ha hb (nomark _)) fun σ H Q ⟨G0, H0, ρ, G, r, ⟨h1, h2, h3, h4⟩, q⟩ => two r h1 h2 fun x y G' H' e r' rx ry =>
    ⟨_, _, (rx.all e.gh).dp (shP_dep h3), (ry.all e.gh).dp (shP_dep h4), h3, h4, q _ G' H' e (Rep.bl _)⟩
theorem xne (hu : X.A.units + 64 < cLine) (ha : PX X o ma a ga fa) (hb : PX X o mb b gb fb) : PX X o .S (.Compare a [.NotEq] [b] pos) (fun ρ => ga ρ ∧ gb ρ ∧ shP (fa ρ) = true ∧ shP (fb ρ) = true) (fun ρ => .bl (!eqP (fa ρ) (fb ρ))) :=
  pe_imp (pe_cmpR (op_neD hu) ha hb (nomark _)) fun σ H Q ⟨G0, H0, ρ, G, r, ⟨h1, h2, h3, h4⟩, q⟩ => two r h1 h2 fun x y G' H' e r' rx ry =>
    ⟨_, _, (rx.all e.gh).dp (shP_dep h3), (ry.all e.gh).dp (shP_dep h4), h3, h4, q _ G' H' e (Rep.bl _)⟩
theorem yeq (hu : X.A.units + 64 < cLine) (ha : PX X o ma a ga fa) (hb : PX X o mb b gb fb) : PXT X o (.Compare a [.Eq] [b] pos) (fun ρ => ga ρ ∧ gb ρ ∧ shP (fa ρ) = true ∧ shP (fb ρ) = true) (fun ρ => eqP (fa ρ) (fb ρ)) :=
  pt_imp (pt_cmpR (op_eqD hu) ha hb (nomark _)) fun σ H Q => rd_tst fun σ H Q ⟨G0, H0, ρ, G, r, ⟨h1, h2, h3, h4⟩, q⟩ => two r h1 h2 fun x y G' H' e r' rx ry =>
    ⟨_, _, (rx.all e.gh).dp (shP_dep h3), (ry.all e.gh).dp (shP_dep h4), h3, h4, q _ G' H' e (Rep.bl _)⟩
theorem yne (hu : X.A.units + 64 < cLine) (ha : PX X o ma a ga fa) (hb : PX X o mb b gb fb) : PXT X o (.Compare a [.NotEq] [b] pos) (fun ρ => ga ρ ∧ gb ρ ∧ shP (fa ρ) = true ∧ shP (fb ρ) = true) (fun ρ => !eqP (fa ρ) (fb ρ)) :=
  pt_imp (pt_cmpR (op_neD hu) ha hb (nomark _)) fun σ H Q => rd_tst fun σ H Q ⟨G0, H0, ρ, G, r, ⟨h1, h2, h3, h4⟩, q⟩ => two r h1 h2 fun x y G' H' e r' rx ry =>
    ⟨_, _, (rx.all e.gh).dp (shP_dep h3), (ry.all e.gh).dp (shP_dep h4), h3, h4, q _ G' H' e (Rep.bl _)⟩
/-- is None -/
def isN : PV → Bool
  | .non => true
  | _ => false
theorem isN_of {K : PySem.W.Frag} {G : Hp} {v : PV} {x : V} (h : Rep K G v x) : decide (x = .non) = isN v := by
  cases h with
  | non => rfl
  | _ => exact decide_eq_false (fun z => by cases z)
theorem yisN {k : Nat} {p2 : Pos} (ha : PX X o ma a ga fa) : PXT X o (.Compare a [.Is] [.Constant .none k p2] pos) ga (fun ρ => isN (fa ρ)) :=
  pt_imp (pt_cmp (pc_isN ha)) fun σ H Q ⟨G0, H0, ρ, G, r, h1, q⟩ => one r h1 fun x G1 H1 e1 r1 rx => ⟨_, rfl, by
    rw [isN_of (rx.all e1.gh)]
    exact q G1 H1 e1⟩
end
/-! equality of plain data -/
mutual
def plain : PV → Bool
  | .non => true
  | .int _ => true
  | .str x => PyData.strOk x
  | .list xs => plains xs
  | .tup xs => plains xs
  | _ => false
def plains : List PV → Bool
  | [] => true
  | x :: xs => plain x && plains xs
end
mutual
theorem eqP_iff : ∀ (v w : PV), plain v = true → plain w = true → (eqP v w = true ↔ v = w)
  | .non, w, _, h => by cases w <;> simp [eqP, pd, PyData.eqv, plain] at h ⊢
  | .int i, w, _, h => by cases w <;> simp [eqP, pd, PyData.eqv, plain] at h ⊢
  | .str x, w, _, h => by cases w <;> simp [eqP, pd, PyData.eqv, plain] at h ⊢
  | .list xs, w, h1, h2 => by
    cases w with
    | list ys =>
      have z := eqPs_iff xs ys (by simpa [plain] using h1) (by simpa [plain] using h2)
      simp only [eqP, pd, PyData.eqv, PV.list.injEq]
      exact z
    | _ => simp [eqP, pd, PyData.eqv, plain] at h2 ⊢
  | .tup xs, w, h1, h2 => by
    cases w with
    | tup ys =>
      have z := eqPs_iff xs ys (by simpa [plain] using h1) (by simpa [plain] using h2)
      simp only [eqP, pd, PyData.eqv, PV.tup.injEq]
      exact z
    | _ => simp [eqP, pd, PyData.eqv, plain] at h2 ⊢
  | .bl b, _, h, _ => by simp [plain] at h
  | .scr b, _, h, _ => by simp [plain] at h
  | .exc b, _, h, _ => by simp [plain] at h
  | .exo b, _, h, _ => by simp [plain] at h
theorem eqPs_iff : ∀ (v w : List PV), plains v = true → plains w = true → (PyData.eqvAll (pds v) (pds w) = true ↔ v = w)
  | [], [], _, _ => by simp [pds, PyData.eqvAll]
  | [], y :: ys, _, _ => by simp [pds, PyData.eqvAll]
  | x :: xs, [], _, _ => by simp [pds, PyData.eqvAll]
  | x :: xs, y :: ys, h1, h2 => by
    simp only [plains, Bool.and_eq_true] at h1 h2
    have a := eqP_iff x y h1.1 h2.1
    have b := eqPs_iff xs ys h1.2 h2.2
    simp only [eqP] at a
    simp only [pds, PyData.eqvAll, Bool.and_eq_true, List.cons.injEq, a, b]
end
theorem eqP_dec {v w : PV} (h1 : plain v = true) (h2 : plain w = true) [d : Decidable (v = w)] : eqP v w = decide (v = w) := by
  have z := eqP_iff v w h1 h2
  cases q : eqP v w with
  | true => exact (decide_eq_true (z.mp q)).symm
  | false => exact (decide_eq_false fun k => by rw [z.mpr k] at q; cases q).symm
theorem eqP_self {v : PV} (h1 : plain v = true) : eqP v v = true := (eqP_iff v v h1 h1).mpr rfl
theorem eqP_ne {v w : PV} (h1 : plain v = true) (h2 : plain w = true) (h : v ≠ w) : eqP v w = false := by
  cases q : eqP v w with
  | true => exact absurd ((eqP_iff v w h1 h2).mp q) h
  | false => rfl
theorem plains_int (ns : List Int) : plains (ns.map PV.int) = true := by
  induction ns with
  | nil => rfl
  | cons n ns ih => simpa [plains, plain] using ih
/-! how deep a value is -/
mutual
def dep : PV → Nat
  | .list xs => deps xs + 1
  | .tup xs => deps xs + 1
  | .scr _ => 1
  | _ => 0
def deps : List PV → Nat
  | [] => 0
  | x :: xs => max (dep x) (deps xs)
end
theorem deps_int (ns : List Int) : deps (ns.map PV.int) = 0 := by
  induction ns with
  | nil => rfl
  | cons n ns ih => simpa [deps, dep] using ih
mutual
theorem lay_of : ∀ (v : PV), plain v = true → (pd v).canLay0 = true ∧ (pd v).depth = dep v
  | .non, _ => ⟨rfl, rfl⟩
  | .int _, _ => ⟨rfl, rfl⟩
  | .str x, h => ⟨h, rfl⟩
  | .list xs, h => by
    have z := lays_of xs h
    exact ⟨z.1, by show PyData.depthAll (pds xs) + 1 = deps xs + 1; rw [z.2]⟩
  | .tup xs, h => by
    have z := lays_of xs h
    exact ⟨z.1, by show PyData.depthAll (pds xs) + 1 = deps xs + 1; rw [z.2]⟩
  | .bl _, h => by simp [plain] at h
  | .scr _, h => by simp [plain] at h
  | .exc _, h => by simp [plain] at h
  | .exo _, h => by simp [plain] at h
theorem lays_of : ∀ (v : List PV), plains v = true → PyData.canLayAll0 (pds v) = true ∧ PyData.depthAll (pds v) = deps v
  | [], _ => ⟨rfl, rfl⟩
  | x :: xs, h => by
    simp only [plains, Bool.and_eq_true] at h
    have a := lay_of x h.1
    have b := lays_of xs h.2
    refine ⟨?_, ?_⟩
    · show ((pd x).canLay0 && PyData.canLayAll0 (pds xs)) = true
      rw [a.1, b.1]
      rfl
    · show max (pd x).depth (PyData.depthAll (pds xs)) = max (dep x) (deps xs)
      rw [a.2, b.2]
end
theorem shP_of {v : PV} (h : plain v = true) (d : dep v ≤ 64) : shP v = true := by
  have z := lay_of v h
  unfold shP SeqAt.shaped
  rw [z.1, z.2, decide_eq_true d]
  rfl
theorem shP_bl (b : Bool) : shP (.bl b) = true := rfl
end PL

namespace PL
open PySem PySem.Spec PyProof.Rows L2

/-! what is walked -/
structure ItOk (K : PySem.W.Frag) (B G : Hp) (J : It) (its : List PV) : Prop where
  go : ∀ (i : Nat) (H : Hp), Same B H → i < its.length → J.go i H
  stop : ∀ (i : Nat) (H : Hp), Same B H → its.length ≤ i → J.stop i H
  yld : ∀ (i : Nat) (H : Hp) (x : V) (H' : Hp), Same B H → J.yld i H x H' → H' = H ∧ ∀ v, its[i]? = some v → Rep K G v x
theorem ItOk.base {K : PySem.W.Frag} {B B' G : Hp} {J : It} {its : List PV} (h : ItOk K B G J its) (s : Same B B') : ItOk K B' G J its :=
  ⟨fun i H q => h.go i H (s.trans q), fun i H q => h.stop i H (s.trans q), fun i H x H' q => h.yld i H x H' (s.trans q)⟩
def tI (K : PySem.W.Frag) (o : List Nat) (bb : Bool) (g : PEnv → Prop) (its : PEnv → List PV) : TI := fun σ H Rr => ∃ G0 H0 ρ G, R K o G0 H0 ρ σ G H ∧ g ρ ∧
  ∀ J G' H', Ext G H G' H' → ItOk K (if bb then H' else G') G' J (its ρ) → Rr J H'
abbrev PXI (X : Cx) (o : List Nat) (bb : Bool) (tg e : Expr) (g : PEnv → Prop) (its : PEnv → List PV) : Prop := PI X tg e (tI X.K o bb g its)
theorem pi_imp {X : Cx} {tg e : Expr} {t t' : TI} (h : PI X tg e t) (k : ∀ σ H Q, t' σ H Q → t σ H Q) : PI X tg e t' := ⟨fun pins s σ H Q I hw => h.run pins s σ H Q I (k σ H Q hw)⟩
theorem pi_or {X : Cx} {tg e : Expr} {t t' : TI} (h : PI X tg e t) (h' : PI X tg e t') : PI X tg e (fun σ H Q => t σ H Q ∨ t' σ H Q) :=
  ⟨fun pins s σ H Q I hw => hw.elim (fun q => h.run pins s σ H Q I q) fun q => h'.run pins s σ H Q I q⟩
section
variable {X : Cx} {o : List Nat} {m ma mb : Md} {tg e a b : Expr} {es : List Expr} {g ga gb gc ge : PEnv → Prop} {f fa fb fe : PEnv → PV} {fs its : PEnv → List PV} {pos : Pos}
theorem itl_ok {K : PySem.W.Frag} {B G : Hp} {a : Addr} {us : List V} {xs : List PV} (h : SqL K B a us) (r : Reps K G xs us) : ItOk K B G (Itl K a) xs where
  go := fun i H s hi => ⟨us, us[i]'(by rw [← r.length]; exact hi), s.seq h, List.getElem?_eq_getElem _⟩
  stop := fun i H s hi => ⟨us, s.seq h, by rw [← r.length]; exact hi⟩
  yld := fun i H x H' s y => ⟨y.1, fun v hv => by
    have e := y.2 us (s.seq h)
    obtain ⟨u, h1, h2⟩ := r.get hv
    rw [e] at h1
    cases h1
    exact h2⟩
theorem seqT {K : PySem.W.Frag} {H H' : Hp} {a : Addr} {us : List V} (s : Same H H') (h : SqT K H a us) : SqT K H' a us := by
  rcases h with (h | ⟨o, h⟩) | h
  · exact .inl (.inl (s _ _ h))
  · exact .inl (.inr ⟨o, s _ _ h⟩)
  · exact .inr h
theorem itt_ok {K : PySem.W.Frag} {B G : Hp} {a : Addr} {us : List V} {xs : List PV} (h : SqT K B a us) (r : Reps K G xs us) : ItOk K B G (Itt K a) xs where
  go := fun i H s hi => ⟨us, us[i]'(by rw [← r.length]; exact hi), seqT s h, List.getElem?_eq_getElem _⟩
  stop := fun i H s hi => ⟨us, seqT s h, by rw [← r.length]; exact hi⟩
  yld := fun i H x H' s y => ⟨y.1, fun v hv => by
    have e := y.2 us (seqT s h)
    obtain ⟨u, h1, h2⟩ := r.get hv
    rw [e] at h1
    cases h1
    exact h2⟩
/-- a list or a tuple that stands still -/
theorem xi (he : PX X o .S e ge fe) : PXI X o false tg e (fun ρ => ge ρ ∧ isSq (fe ρ) = true) (fun ρ => elems (fe ρ)) :=
  pi_imp (pi_or (pi_list he) (pi_tup he)) fun σ H Q ⟨G0, H0, ρ, G, r, ⟨h1, h2⟩, q⟩ => by
    by_cases ht : isT (fe ρ) = true
    · refine .inr (one r h1 fun x G1 H1 e1 r1 rx => ?_)
      have rx' : Res .S X.K G H G1 G1 (fe ρ) x := rx
      obtain ⟨p1, us, rfl, k1, k2⟩ := rx'.tup (Same.refl _) ht
      exact ⟨p1, rfl, ⟨us, seqT e1.gh k1⟩, q _ G1 H1 e1 (itt_ok k1 k2)⟩
    · have hl : isLS (fe ρ) = true := by
        cases q2 : fe ρ with
        | tup xs =>
          rw [q2] at ht
          exact absurd rfl ht
        | list xs => rfl
        | scr xs => rfl
        | _ =>
          rw [q2] at h2
          cases h2
      refine .inl (one r h1 fun x G1 H1 e1 r1 rx => ?_)
      have rx' : Res .S X.K G H G1 G1 (fe ρ) x := rx
      obtain ⟨p1, us, rfl, k1, k2⟩ := rx'.ls (Same.refl _) hl
      exact ⟨p1, rfl, ⟨us, e1.gh.seq k1⟩, q _ G1 H1 e1 (itl_ok k1 k2)⟩
/-- a list that is lent -/
theorem xiB (he : PX X o m e ge fe) : PXI X o true tg e (fun ρ => ge ρ ∧ isLS (fe ρ) = true) (fun ρ => elems (fe ρ)) :=
  pi_imp (pi_list he) fun σ H Q ⟨G0, H0, ρ, G, r, ⟨h1, h2⟩, q⟩ => one r h1 fun x G1 H1 e1 r1 rx => by
    obtain ⟨p1, us, rfl, k1, k2⟩ := rx.ls e1.gh h2
    exact ⟨p1, rfl, ⟨us, k1⟩, q _ G1 H1 e1 (itl_ok k1 k2)⟩
theorem xiW (h : PXI X o false tg e g its) : PXI X o true tg e g its :=
  pi_imp h fun σ H Q ⟨G0, H0, ρ, G, r, h1, q⟩ => ⟨_, _, _, _, r, h1, fun J G1 H1 e1 k => q J G1 H1 e1 (k.base e1.gh)⟩
/-! ranges -/
def rng (lo : Int) (n : Nat) : List PV := (List.range n).map fun (k : Nat) => PV.int (lo + (k : Int))
def rngD (hi : Int) (n : Nat) : List PV := (List.range n).map fun (k : Nat) => PV.int (hi - (k : Int))
theorem rng_len (lo : Int) (n : Nat) : (rng lo n).length = n := by simp [rng]
theorem rngD_len (lo : Int) (n : Nat) : (rngD lo n).length = n := by simp [rngD]
theorem rng_get {lo : Int} {n k : Nat} {v : PV} (h : (rng lo n)[k]? = some v) : k < n ∧ v = .int (lo + (k : Int)) := by
  unfold rng at h
  rw [List.getElem?_map] at h
  cases q : (List.range n)[k]? with
  | none =>
    rw [q] at h
    cases h
  | some j =>
    rw [q] at h
    obtain ⟨h1, h2⟩ := List.getElem?_eq_some_iff.mp q
    rw [List.getElem_range] at h2
    subst h2
    rw [List.length_range] at h1
    exact ⟨h1, (Option.some.inj h).symm⟩
theorem rngD_get {lo : Int} {n k : Nat} {v : PV} (h : (rngD lo n)[k]? = some v) : k < n ∧ v = .int (lo - (k : Int)) := by
  unfold rngD at h
  rw [List.getElem?_map] at h
  cases q : (List.range n)[k]? with
  | none =>
    rw [q] at h
    cases h
  | some j =>
    rw [q] at h
    obtain ⟨h1, h2⟩ := List.getElem?_eq_some_iff.mp q
    rw [List.getElem_range] at h2
    subst h2
    rw [List.length_range] at h1
    exact ⟨h1, (Option.some.inj h).symm⟩
theorem itr_ok {K : PySem.W.Frag} {B G : Hp} {lo : Int} {n : Nat} : ItOk K B G (Itr lo n) (rng lo n) where
  go := fun i H s hi => by rw [rng_len] at hi; exact hi
  stop := fun i H s hi => by rw [rng_len] at hi; exact hi
  yld := fun i H x H' s y => ⟨y.1, fun v hv => by
    obtain ⟨_, rfl⟩ := rng_get hv
    rw [y.2]
    exact .int _⟩
theorem itc_ok {K : PySem.W.Frag} {B G : Hp} {lo : Int} {n : Nat} : ItOk K B G (Itc lo (-1) n) (rngD lo n) where
  go := fun i H s hi => by rw [rngD_len] at hi; exact hi
  stop := fun i H s hi => by rw [rngD_len] at hi; exact hi
  yld := fun i H x H' s y => ⟨y.1, fun v hv => by
    obtain ⟨_, rfl⟩ := rngD_get hv
    rw [y.2]
    have e : lo + (i : Int) * -1 = lo - (i : Int) := by omega
    rw [e]
    exact .int _⟩
def inR (i : Int) : Prop := -(2 ^ 62) ≤ i ∧ i < 2 ^ 62
theorem inR_nat {n : Nat} (h : n < 2 ^ 62) : inR (n : Int) := ⟨by omega, by omega⟩
variable {p : Pos}
theorem xr1 (mg : X.mg "range" = none) (ha : PX X o ma a ga fa) (hg : Gl X "range" := by rfl) (hs : starEach [a] X.env = [(false, eval a X.env)] := by rfl) (hs1 : starEach [a] X.env = (false, eval a X.env) :: starEach [] X.env := by rfl) :
    PXI X o false tg (.Call (.Name "range" p) [a] [] pos) (fun ρ => ga ρ ∧ isI (fa ρ) = true ∧ inR (toI (fa ρ))) (fun ρ => rng 0 (toI (fa ρ)).toNat) :=
  pi_imp (pi_range1 hg mg (pa_cons ha pa_nil hs1) hs) fun σ H Q ⟨G0, H0, ρ, G, r, ⟨h1, h2, h3⟩, q⟩ => one r h1 fun x G1 H1 e1 r1 rx =>
    ⟨_, by rw [rx.eqI h2], h3.1, h3.2, q _ G1 H1 e1 itr_ok⟩
theorem xr2 (mg : X.mg "range" = none) (ha : PX X o ma a ga fa) (hb : PX X o mb b gb fb) (hg : Gl X "range" := by rfl) (hs : starEach [a, b] X.env = [(false, eval a X.env), (false, eval b X.env)] := by rfl) (hs2 : starEach [b] X.env = [(false, eval b X.env)] := by rfl)
    (hs3 : starEach [a, b] X.env = (false, eval a X.env) :: starEach [b] X.env := by rfl) (hs4 : starEach [b] X.env = (false, eval b X.env) :: starEach [] X.env := by rfl) :
    PXI X o false tg (.Call (.Name "range" p) [a, b] [] pos) (fun ρ => ga ρ ∧ gb ρ ∧ isI (fa ρ) = true ∧ isI (fb ρ) = true ∧ inR (toI (fa ρ)) ∧ inR (toI (fb ρ))) (fun ρ => rng (toI (fa ρ)) (toI (fb ρ) - toI (fa ρ)).toNat) :=
  pi_imp (pi_range2 hg mg (pa_cons ha (pa_cons hb pa_nil hs4) hs3) hs hs2) fun σ H Q ⟨G0, H0, ρ, G, r, ⟨h1, h2, h3, h4, h5, h6⟩, q⟩ => two r h1 h2 fun x y G1 H1 e1 r1 rx ry =>
    ⟨_, _, by rw [rx.eqI h3, ry.eqI h4], ⟨h5.1, h5.2, h6.1, h6.2⟩, q _ G1 H1 e1 itr_ok⟩
variable {c : Expr} {fc : PEnv → PV} {mc : Md}
/-- downwards by ones -/
theorem xr3 (mg : X.mg "range" = none) (ha : PX X o ma a ga fa) (hb : PX X o mb b gb fb) (hc : PX X o mc c gc fc) (hg : Gl X "range" := by rfl)
    (hs : starEach [a, b, c] X.env = (false, eval a X.env) :: starEach [b, c] X.env := by rfl) (hpl : (backTo pos (starEach [b, c] X.env)).any (·.1) = false := by rfl)
    (hs2 : starEach [b, c] X.env = (false, eval b X.env) :: starEach [c] X.env := by rfl) (hs3 : starEach [c] X.env = (false, eval c X.env) :: starEach [] X.env := by rfl) :
    PXI X o false tg (.Call (.Name "range" p) [a, b, c] [] pos) (fun ρ => ga ρ ∧ gb ρ ∧ gc ρ ∧ isI (fa ρ) = true ∧ isI (fb ρ) = true ∧ fc ρ = .int (-1) ∧ inR (toI (fa ρ)) ∧ inR (toI (fb ρ))) (fun ρ => rngD (toI (fa ρ)) (toI (fa ρ) - toI (fb ρ)).toNat) :=
  pi_imp (pi_range3 hg mg (pa_cons ha (pa_cons hb (pa_cons hc pa_nil hs3) hs2) hs) hs hpl) fun σ H Q ⟨G0, H0, ρ, G, r, ⟨h1, h2, h3, h4, h5, h6, h7, h8⟩, q⟩ => two r h1 h2 fun x y G1 H1 e1 r1 rx ry => one r1 h3 fun z G2 H2 e2 r2 rz =>
    ⟨toI (fa ρ), toI (fb ρ), -1, _, by
      rw [rx.eqI h4, ry.eqI h5]
      have z1 := rz.eqI (by rw [h6]; rfl)
      rw [h6] at z1
      rw [z1]
      rfl, RgC.neg h7.1 h7.2 h8.1 h8.2, q _ G2 H2 (e1.trans e2) itc_ok⟩

/-! comprehensions of one clause, the target a name -/
theorem R.setS {K : PySem.W.Frag} {G0 H0 G H : Hp} {ρ : PEnv} {σ : Sg} {i : Nat} {v : PV} {x : V} (r : R K o G0 H0 ρ σ G H) (h : Rep K G v x) : R K (o.filter fun j => decide (j ≠ i)) G0 H0 (ρ.set i (some v)) (σ.set i (some x)) G H where
  len := by rw [List.length_set, List.length_set, r.len]
  ext := r.ext
  sh := fun j w e hj => by
    by_cases hji : i = j
    · subst hji
      have hlt : i < ρ.length := by
        have := (List.getElem?_eq_some_iff.mp e).1
        rwa [List.length_set] at this
      rw [List.getElem?_set_self hlt] at e
      cases e
      exact ⟨x, List.getElem?_set_self (by rw [r.len]; exact hlt), h⟩
    · rw [List.getElem?_set_ne hji] at e
      rw [List.getElem?_set_ne hji]
      exact r.sh j w e fun z => hj (by simp [z, Ne.symm hji])
  ow := fun j w e hj => by
    have hj' : j ∈ o ∧ j ≠ i := by simpa using hj
    rw [List.getElem?_set_ne (Ne.symm hj'.2)] at e
    rw [List.getElem?_set_ne (Ne.symm hj'.2)]
    exact r.ow j w e hj'.1
  sep := fun j k w1 w2 q hj hk => by
    have hj' : j ∈ o ∧ j ≠ i := by simpa using hj
    have hk' : k ∈ o ∧ k ≠ i := by simpa using hk
    rw [List.getElem?_set_ne (Ne.symm hj'.2), List.getElem?_set_ne (Ne.symm hk'.2), List.getElem?_set_ne (Ne.symm hj'.2), List.getElem?_set_ne (Ne.symm hk'.2)]
    exact r.sep j k w1 w2 q hj'.1 hk'.1
theorem R.setS' {K : PySem.W.Frag} {G0 H0 G H : Hp} {ρ : PEnv} {σ : Sg} {i : Nat} {v : PV} {x : V} (ho : i ∉ o) (r : R K o G0 H0 ρ σ G H) (h : Rep K G v x) : R K o G0 H0 (ρ.set i (some v)) (σ.set i (some x)) G H :=
  (r.setS h).congr fun j => by
    rw [List.mem_filter]
    exact ⟨fun z => z.1, fun z => ⟨z, decide_eq_true fun e => ho (e ▸ z)⟩⟩
/-- the pure comprehension -/
def cmp (i : Nat) (c : PEnv → Bool) (f : PEnv → PV) (ρ : PEnv) : List PV → List PV
  | [] => []
  | v :: vs => if c (ρ.set i (some v)) then f (ρ.set i (some v)) :: cmp i c f ρ vs else cmp i c f ρ vs
theorem cmp_len (i : Nat) (c : PEnv → Bool) (f : PEnv → PV) (ρ : PEnv) : ∀ vs, (cmp i c f ρ vs).length ≤ vs.length
  | [] => Nat.le_refl _
  | v :: vs => by
    have ih := cmp_len i c f ρ vs
    unfold cmp
    split
    · simp only [List.length_cons]
      omega
    · simp only [List.length_cons]
      omega
theorem cmp_app (i : Nat) (c : PEnv → Bool) (f : PEnv → PV) (ρ : PEnv) (v : PV) : ∀ vs, cmp i c f ρ (vs ++ [v]) = cmp i c f ρ vs ++ (if c (ρ.set i (some v)) then [f (ρ.set i (some v))] else [])
  | [] => by
    show cmp i c f ρ [v] = _
    unfold cmp
    split <;> rfl
  | w :: vs => by
    show cmp i c f ρ (w :: (vs ++ [v])) = cmp i c f ρ (w :: vs) ++ _
    unfold cmp
    rw [cmp_app i c f ρ v vs]
    split <;> rfl
theorem cmp_all (i : Nat) (f : PEnv → PV) (ρ : PEnv) : ∀ vs, cmp i (fun _ => true) f ρ vs = vs.map fun v => f (ρ.set i (some v))
  | [] => rfl
  | v :: vs => by
    show f (ρ.set i (some v)) :: cmp i _ f ρ vs = _
    rw [cmp_all i f ρ vs]
    rfl
theorem take_one {xs : List PV} {k : Nat} {v : PV} (h : xs[k]? = some v) : xs.take (k + 1) = xs.take k ++ [v] := by
  rw [List.take_add_one, h]
  rfl
def tTs (K : PySem.W.Frag) (o : List Nat) (g : PEnv → Prop) (c : PEnv → Bool) : TT := tT K o g c
/-- the reading of a comprehension -/
theorem rd_lc {K : PySem.W.Frag} {i : Nat} {gi gt ge : PEnv → Prop} {its : PEnv → List PV} {c : PEnv → Bool} {f : PEnv → PV} {σ : Sg} {H : Hp} {Q : VK} (ho : i ∉ o)
    (q : tP K o .F (fun ρ => gi ρ ∧ (its ρ).length ≤ sizeLine ∧ ∀ v ∈ its ρ, gt (ρ.set i (some v)) ∧ (c (ρ.set i (some v)) = true → ge (ρ.set i (some v)))) (fun ρ => .list (cmp i c f ρ (its ρ))) σ H Q) :
    tLc (tI K o true gi its) (gName i) (tT K o gt c) (tP K o .S ge f) [i] σ H Q := by
  obtain ⟨G0, H0, ρ, G, r, ⟨h1, h2, h3⟩, q⟩ := q
  refine ⟨G0, H0, ρ, G, r, h1, fun J G1 H1 e1 ok D nD => ?_⟩
  have ok : ItOk K H1 G1 J (its ρ) := ok
  refine ⟨fun k m Hk => m = (its ρ).length - k ∧ k ≤ (its ρ).length ∧ ∃ Gk acc, Ext G1 H1 Gk Hk ∧ Gk D = none ∧ Hk D = some (.lst acc) ∧ Reps K Gk (cmp i c f ρ ((its ρ).take k)) acc,
    ⟨(its ρ).length, by omega, Nat.zero_le _, G1, [], Ext.new e1.gh nD, e1.gh.free nD, upd_same, .nil⟩, ?_⟩
  rintro k m Hk ⟨rfl, hk, Gk, acc, ek, nk, hD, ra⟩
  by_cases hlt : k < (its ρ).length
  · refine .inr ⟨ok.go k Hk ek.hh hlt, fun Hn => k + 1 ≤ (its ρ).length ∧ ∃ Gn acc, Ext G1 H1 Gn Hn ∧ Gn D = none ∧ Hn D = some (.lst acc) ∧ Reps K Gn (cmp i c f ρ ((its ρ).take (k + 1))) acc, fun Hn ⟨z1, z2⟩ => ⟨(its ρ).length - (k + 1), by omega, rfl, z1, z2⟩, fun x H' y => ?_⟩
    obtain ⟨rfl, y2⟩ := ok.yld k Hk x H' ek.hh y
    obtain ⟨v, hv⟩ : ∃ v, (its ρ)[k]? = some v := ⟨_, List.getElem?_eq_getElem hlt⟩
    have rv : Rep K Gk v x := (y2 v hv).mono ek.gg
    have rk : R K o G0 H0 ρ σ Gk H' := (r.on e1).on ek
    have rb : R K o G0 H0 (ρ.set i (some v)) ((wipe σ [i]).set i (some x)) Gk H' := by
      show R K o G0 H0 (ρ.set i (some v)) ((σ.set i none).set i (some x)) Gk H'
      rw [List.set_set]
      exact rk.setS' ho rv
    refine ⟨?_, ?_⟩
    · show (((σ.set i none).set i (some x)).set i none) = σ.set i none
      rw [List.set_set, List.set_set]
    · obtain ⟨g1, g2⟩ := h3 v (List.mem_of_getElem? hv)
      refine ⟨G0, H0, _, Gk, rb, g1, fun G3 H3 e3 => ?_⟩
      cases hc : c (ρ.set i (some v)) with
      | false =>
        rw [if_neg Bool.false_ne_true]
        refine ⟨hlt, G3, acc, ek.trans e3, e3.nw D _ hD nk, e3.hh _ _ hD, ?_⟩
        rw [take_one hv, cmp_app, hc, if_neg Bool.false_ne_true, List.append_nil]
        exact ra.mono e3.gg
      | true =>
        rw [if_pos rfl]
        refine ⟨G0, H0, _, G3, rb.on e3, g2 hc, fun u G4 H4 e4 hu => ?_⟩
        have e34 := e3.trans e4
        have hD4 := e34.hh _ _ hD
        have nD4 := e34.nw D _ hD nk
        have ra4 := ra.mono e34.gg
        refine ⟨acc, hD4, ?_, hlt, G4, acc ++ [u], ?_, nD4, upd_same, ?_⟩
        · rw [← ra.length]
          refine Nat.lt_of_le_of_lt (cmp_len _ _ _ _ _) ?_
          rw [List.length_take]
          omega
        · have e14 := ek.trans e34
          refine ⟨e14.gg, fun b z hb => ?_, fun b z hb => ?_, e14.nw⟩
          · rw [upd_ne (ne_of_none hb nD4)]
            exact e14.gh _ _ hb
          · rw [upd_ne (ne_of_none hb nD)]
            exact e14.hh _ _ hb
        · rw [take_one hv, cmp_app, hc, if_pos rfl]
          exact ra4.append (.cons hu .nil)
  · have ek' : k = (its ρ).length := by omega
    refine .inl ⟨ok.stop k Hk ek.hh (by omega), q _ Gk Hk (e1.trans ek) ⟨_, D, acc, rfl, rfl, e1.hh.free nD, nk, hD, ?_⟩⟩
    rw [ek', List.take_length] at ra
    exact ra
/-- no test -/
theorem tYes_of {K : PySem.W.Frag} {σ : Sg} {H : Hp} {Q : Bool → Hp → Prop} (q : tT K o (fun _ => True) (fun _ => true) σ H Q) : tYes σ H Q := by
  obtain ⟨G0, H0, ρ, G, r, _, q⟩ := q
  exact q G H (Ext.refl r.ext.gh)
theorem pts_imp {X : Cx} {ifs : List Expr} {t t' : TT} (h : PTs X ifs t) (k : ∀ σ H Q, t' σ H Q → t σ H Q) : PTs X ifs t' := ⟨fun pins s σ H Q I hw => h.run pins s σ H Q I (k σ H Q hw)⟩
abbrev PXTs (X : Cx) (o : List Nat) (ifs : List Expr) (g : PEnv → Prop) (c : PEnv → Bool) : Prop := PTs X ifs (tT X.K o g c)
theorem ts0 : PXTs X o [] (fun _ => True) (fun _ => true) := pts_imp pts_nil fun _ _ _ => tYes_of
theorem ts1 {c : PEnv → Bool} (h : PXT X o e g c) : PXTs X o [e] g c := pts_one h
section
variable {i : Nat} {x : Str} {px : Pos} {elt iter : Expr} {ifs : List Expr} {scope : Scope} {gi gt : PEnv → Prop} {cc : PEnv → Bool}
theorem xlc (i : Nat) (hc : X.calm = true) (hN : X.N.Nodup) (hi : PXI X o true (.Name x px) iter gi its) (ok : blkC X.N X.env.scope scope [(x, i)] = true)
    (hg : ∀ (s : Shared) (H : Hp) (C : Addr) (cl : List (Str × Addr)) (fp : List Addr), PG (X.blk s H scope (compEnvC scope cl C X.env) fp) (.Name x px) (gName i))
    (ht : ∀ (s : Shared) (H : Hp) (C : Addr) (cl : List (Str × Addr)) (fp : List Addr), PXTs (X.blk s H scope (compEnvC scope cl C X.env) fp) o ifs gt cc)
    (he : ∀ (s : Shared) (H : Hp) (C : Addr) (cl : List (Str × Addr)) (fp : List Addr), PX (X.blk s H scope (compEnvC scope cl C X.env) fp) o .S elt ge fe) (ho : i ∉ o := by decide) (hs : ∀ x, foldedSetIterable iter X.env x = pure x := by intro _; rfl) :
    PX X o .F (.ListComp elt [⟨.Name x px, iter, ifs, 0⟩] scope pos) (fun ρ => gi ρ ∧ (its ρ).length ≤ sizeLine ∧ ∀ v ∈ its ρ, gt (ρ.set i (some v)) ∧ (cc (ρ.set i (some v)) = true → ge (ρ.set i (some v)))) (fun ρ => .list (cmp i cc fe ρ (its ρ))) :=
  pe_imp (pe_lc hc hN hi (blkOk_by ok) hg ht he hs) fun _ _ _ => rd_lc ho
end
end

/-! calls of the text's own defs -/
def spF (K : PySem.W.Frag) (n : Nat) (rm : Md) (g : List PV → Prop) (f : List PV → PV) : Sp := fun vs H Q _ => ∃ G as, Same G H ∧ Reps K G as vs ∧ as.length = n ∧ g as ∧
  ∀ u G' H', Ext G H G' H' → Res rm K G H G' H' (f as) u → Q u H'
structure Cal (P : Program) (w : World) (K : PySem.W.Frag) (mg : Str → Option Value) (base : Heap) (x : Str) (k n : Nat) (rm : Md) (g : List PV → Prop) (f : List PV → PV) : Prop where
  ex : ∃ (fa : Addr) (fd : FuncData) (ps : List Str), FnOk P w K mg base CX0 k fa fd ps (spF K n rm g f) ∧ mg x = some (.ref fa) ∧ PySem.W.keepIn K (.ref fa) = true ∧ Binds K fd ps []
section
variable {X : Cx} {o : List Nat} {m rm : Md} {e : Expr} {es : List Expr} {g : List PV → Prop} {f : List PV → PV} {ga : PEnv → Prop} {fs : PEnv → List PV} {pos p : Pos} {k n : Nat} {x : Str}
theorem xcall (C : Cal X.prog X.w X.K X.mg X.base x k n rm g f) (hr : Room k X.A) (ha : PXA X o (e :: es) ga fs) (hg : Gl X x := by rfl) (hdb : (x == ("__debug__" : Str)) = false := by decide)
    (he : starEach (e :: es) X.env = (false, eval e X.env) :: starEach es X.env := by rfl) (hpl : (backTo pos (starEach es X.env)).any (·.1) = false := by rfl) :
    PX X o rm (.Call (.Name x p) (e :: es) [] pos) (fun ρ => ga ρ ∧ (fs ρ).length = n ∧ g (fs ρ)) (fun ρ => f (fs ρ)) := by
  obtain ⟨fa, fd, ps, F, hm, hk, hb⟩ := C.ex
  refine pe_imp (pe_call F hr hg hm hk hb .nil pass0 ha hdb he hpl) fun σ H Q ⟨G0, H0, ρ, G, r, ⟨h1, h2, h3⟩, q⟩ => ⟨_, _, _, _, r, h1, fun us G1 H1 e1 ru => ?_⟩
  show spF X.K n rm g f (us ++ []) H1 Q _
  rw [List.append_nil]
  exact ⟨G1, fs ρ, e1.gh, ru, h2, h3, fun u G2 H2 e2 hu => q u G2 H2 (e1.trans e2) (Res.from e1 hu)⟩
/-- lent arguments: what comes back holds no reference -/
theorem xcallB (C : Cal X.prog X.w X.K X.mg X.base x k n rm g f) (sc : ∀ as, isSc (f as) = true) (hr : Room k X.A) (ha : PXB X o (e :: es) ga fs) (hg : Gl X x := by rfl) (hdb : (x == ("__debug__" : Str)) = false := by decide)
    (he : starEach (e :: es) X.env = (false, eval e X.env) :: starEach es X.env := by rfl) (hpl : (backTo pos (starEach es X.env)).any (·.1) = false := by rfl) :
    PX X o .S (.Call (.Name x p) (e :: es) [] pos) (fun ρ => ga ρ ∧ (fs ρ).length = n ∧ g (fs ρ)) (fun ρ => f (fs ρ)) := by
  obtain ⟨fa, fd, ps, F, hm, hk, hb⟩ := C.ex
  refine pe_imp (pe_call F hr hg hm hk hb .nil pass0 ha hdb he hpl) fun σ H Q ⟨G0, H0, ρ, G, r, ⟨h1, h2, h3⟩, q⟩ => ⟨_, _, _, _, r, h1, fun us G1 H1 e1 ru => ?_⟩
  show spF X.K n rm g f (us ++ []) H1 Q _
  rw [List.append_nil]
  exact ⟨H1, fs ρ, Same.refl _, ru, h2, h3, fun u G2 H2 e2 hu => q u G1 H2 (e1.trans ⟨Same.refl _, e1.gh.trans e2.hh, e2.hh, fun _ _ _ h => h⟩) (hu.sc (sc _) G1)⟩
end
end PL

namespace PL
open PySem PySem.Spec PyProof.Rows L2

structure PEnds where
  nx : PEnv → Prop
  rt : PV → Prop
abbrev Phi := PEnds → PEnv → Prop
/-! pure programs, in short: what a part is worth (f, c, its) and what must hold for it (g) -/
structure PExp where
  g : PEnv → Prop
  f : PEnv → PV
structure PTst where
  g : PEnv → Prop
  c : PEnv → Bool
structure PArg where
  g : PEnv → Prop
  f : PEnv → List PV
structure POpt where
  g : PEnv → Prop
  f : PEnv → Option Int
structure PIt where
  g : PEnv → Prop
  its : PEnv → List PV
structure FS where
  g : List PV → Prop
  f : List PV → PV

abbrev eV (i : Nat) : PExp := ⟨fun ρ => gd ρ i = true, fun ρ => gv ρ i⟩
abbrev eI (n : Int) : PExp := ⟨fun _ => True, fun _ => .int n⟩
abbrev eB (b : Bool) : PExp := ⟨fun _ => True, fun _ => .bl b⟩
abbrev eN : PExp := ⟨fun _ => True, fun _ => .non⟩
abbrev eS (x : Str) : PExp := ⟨fun _ => True, fun _ => .str x⟩
abbrev eAdd (a b : PExp) : PExp := ⟨gI0 a.g b.g a.f b.f, fun ρ => .int (toI (a.f ρ) + toI (b.f ρ))⟩
abbrev eSub (a b : PExp) : PExp := ⟨gI0 a.g b.g a.f b.f, fun ρ => .int (toI (a.f ρ) - toI (b.f ρ))⟩
abbrev eMul (a b : PExp) : PExp := ⟨gI a.g b.g a.f b.f CMulW, fun ρ => .int (toI (a.f ρ) * toI (b.f ρ))⟩
abbrev eMulC (a b : PExp) : PExp := ⟨gI a.g b.g a.f b.f CMul, fun ρ => .int (toI (a.f ρ) * toI (b.f ρ))⟩
abbrev eMod (a b : PExp) : PExp := ⟨gI a.g b.g a.f b.f fun _ j => j ≠ 0, fun ρ => .int ((toI (a.f ρ)).fmod (toI (b.f ρ)))⟩
abbrev eDiv (a b : PExp) : PExp := ⟨gI a.g b.g a.f b.f CDivZ, fun ρ => .int ((toI (a.f ρ)).fdiv (toI (b.f ρ)))⟩
abbrev ePow (a b : PExp) : PExp := ⟨gI a.g b.g a.f b.f CPow, fun ρ => .int (toI (a.f ρ) ^ (toI (b.f ρ)).toNat)⟩
abbrev eNeg (a : PExp) : PExp := ⟨fun ρ => a.g ρ ∧ isI (a.f ρ) = true, fun ρ => .int (-(toI (a.f ρ)))⟩
abbrev eLt (a b : PExp) : PExp := ⟨gI0 a.g b.g a.f b.f, fun ρ => .bl (decide (toI (a.f ρ) < toI (b.f ρ)))⟩
abbrev eLe (a b : PExp) : PExp := ⟨gI0 a.g b.g a.f b.f, fun ρ => .bl (decide (toI (a.f ρ) ≤ toI (b.f ρ)))⟩
abbrev eGt (a b : PExp) : PExp := ⟨gI0 a.g b.g a.f b.f, fun ρ => .bl (decide (toI (b.f ρ) < toI (a.f ρ)))⟩
abbrev eGe (a b : PExp) : PExp := ⟨gI0 a.g b.g a.f b.f, fun ρ => .bl (decide (toI (b.f ρ) ≤ toI (a.f ρ)))⟩
abbrev eEqI (a b : PExp) : PExp := ⟨gI0 a.g b.g a.f b.f, fun ρ => .bl (decide (toI (a.f ρ) = toI (b.f ρ)))⟩
abbrev eNeI (a b : PExp) : PExp := ⟨gI0 a.g b.g a.f b.f, fun ρ => .bl (decide (toI (a.f ρ) ≠ toI (b.f ρ)))⟩
abbrev eEq (a b : PExp) : PExp := ⟨fun ρ => a.g ρ ∧ b.g ρ ∧ shP (a.f ρ) = true ∧ shP (b.f ρ) = true, fun ρ => .bl (eqP (a.f ρ) (b.f ρ))⟩
abbrev eNe (a b : PExp) : PExp := ⟨fun ρ => a.g ρ ∧ b.g ρ ∧ shP (a.f ρ) = true ∧ shP (b.f ρ) = true, fun ρ => .bl (!eqP (a.f ρ) (b.f ρ))⟩
abbrev cLt (a b : PExp) : PTst := ⟨gI0 a.g b.g a.f b.f, fun ρ => decide (toI (a.f ρ) < toI (b.f ρ))⟩
abbrev cLe (a b : PExp) : PTst := ⟨gI0 a.g b.g a.f b.f, fun ρ => decide (toI (a.f ρ) ≤ toI (b.f ρ))⟩
abbrev cGt (a b : PExp) : PTst := ⟨gI0 a.g b.g a.f b.f, fun ρ => decide (toI (b.f ρ) < toI (a.f ρ))⟩
abbrev cGe (a b : PExp) : PTst := ⟨gI0 a.g b.g a.f b.f, fun ρ => decide (toI (b.f ρ) ≤ toI (a.f ρ))⟩
abbrev cEqI (a b : PExp) : PTst := ⟨gI0 a.g b.g a.f b.f, fun ρ => decide (toI (a.f ρ) = toI (b.f ρ))⟩
abbrev cNeI (a b : PExp) : PTst := ⟨gI0 a.g b.g a.f b.f, fun ρ => decide (toI (a.f ρ) ≠ toI (b.f ρ))⟩
abbrev cEq (a b : PExp) : PTst := ⟨fun ρ => a.g ρ ∧ b.g ρ ∧ shP (a.f ρ) = true ∧ shP (b.f ρ) = true, fun ρ => eqP (a.f ρ) (b.f ρ)⟩
abbrev cNe (a b : PExp) : PTst := ⟨fun ρ => a.g ρ ∧ b.g ρ ∧ shP (a.f ρ) = true ∧ shP (b.f ρ) = true, fun ρ => !eqP (a.f ρ) (b.f ρ)⟩
abbrev cIsN (a : PExp) : PTst := ⟨a.g, fun ρ => isN (a.f ρ)⟩
abbrev cAnd (a b : PTst) : PTst := ⟨fun ρ => a.g ρ ∧ (a.c ρ = true → b.g ρ), fun ρ => a.c ρ && b.c ρ⟩
abbrev cOr (a b : PTst) : PTst := ⟨fun ρ => a.g ρ ∧ (a.c ρ = false → b.g ρ), fun ρ => a.c ρ || b.c ρ⟩
abbrev cNot (a : PTst) : PTst := ⟨a.g, fun ρ => !a.c ρ⟩
abbrev cVal (a : PExp) : PTst := ⟨fun ρ => a.g ρ ∧ isB (a.f ρ) = true, fun ρ => toB (a.f ρ)⟩
abbrev c0 : PTst := ⟨fun _ => True, fun _ => true⟩
abbrev eAnd (a b : PExp) : PExp := ⟨fun ρ => a.g ρ ∧ isB (a.f ρ) = true ∧ (toB (a.f ρ) = true → b.g ρ ∧ isB (b.f ρ) = true), fun ρ => .bl (toB (a.f ρ) && toB (b.f ρ))⟩
abbrev eOr (a b : PExp) : PExp := ⟨fun ρ => a.g ρ ∧ isB (a.f ρ) = true ∧ (toB (a.f ρ) = false → b.g ρ ∧ isB (b.f ρ) = true), fun ρ => .bl (toB (a.f ρ) || toB (b.f ρ))⟩
abbrev eNot (a : PExp) : PExp := ⟨fun ρ => a.g ρ ∧ isB (a.f ρ) = true, fun ρ => .bl (!toB (a.f ρ))⟩
abbrev a0 : PArg := ⟨fun _ => True, fun _ => []⟩
abbrev aC (e : PExp) (r : PArg) : PArg := ⟨fun ρ => e.g ρ ∧ r.g ρ, fun ρ => e.f ρ :: r.f ρ⟩
abbrev eTup (a : PArg) : PExp := ⟨fun ρ => a.g ρ ∧ (a.f ρ).length ≤ sizeLine, fun ρ => .tup (a.f ρ)⟩
abbrev eLst (a : PArg) : PExp := ⟨fun ρ => a.g ρ ∧ (a.f ρ).length ≤ sizeLine, fun ρ => .list (a.f ρ)⟩
abbrev eCat (a b : PExp) : PExp := ⟨fun ρ => a.g ρ ∧ b.g ρ ∧ isL (a.f ρ) = true ∧ isL (b.f ρ) = true ∧ (elems (a.f ρ)).length + (elems (b.f ρ)).length ≤ sizeLine, fun ρ => .list (elems (a.f ρ) ++ elems (b.f ρ))⟩
abbrev eIx (a b : PExp) : PExp := ⟨fun ρ => a.g ρ ∧ b.g ρ ∧ isSq (a.f ρ) = true ∧ isI (b.f ρ) = true ∧ (atI (elems (a.f ρ)) (toI (b.f ρ))).isSome = true, fun ρ => itAt (elems (a.f ρ)) (toI (b.f ρ))⟩
abbrev o0 : POpt := ⟨fun _ => True, fun _ => none⟩
abbrev oC (e : PExp) : POpt := ⟨fun ρ => e.g ρ ∧ isI (e.f ρ) = true, fun ρ => some (toI (e.f ρ))⟩
abbrev eCut (a : PExp) (l h : POpt) : PExp := ⟨fun ρ => a.g ρ ∧ l.g ρ ∧ h.g ρ ∧ isLS (a.f ρ) = true, fun ρ => .list (cutP (elems (a.f ρ)) (l.f ρ) (h.f ρ))⟩
abbrev eCutT (a : PExp) (l h : POpt) : PExp := ⟨fun ρ => a.g ρ ∧ l.g ρ ∧ h.g ρ ∧ isT (a.f ρ) = true ∧
  ¬ (HT.sIx (elems (a.f ρ)).length 0 (l.f ρ) = 0 ∧ HT.sIx (elems (a.f ρ)).length (elems (a.f ρ)).length (h.f ρ) = (elems (a.f ρ)).length), fun ρ => .tup (cutP (elems (a.f ρ)) (l.f ρ) (h.f ρ))⟩
abbrev eLen (a : PExp) : PExp := ⟨fun ρ => a.g ρ ∧ isSq (a.f ρ) = true, fun ρ => .int (elems (a.f ρ)).length⟩
abbrev eAbs (a : PExp) : PExp := ⟨fun ρ => a.g ρ ∧ isI (a.f ρ) = true, fun ρ => .int ((toI (a.f ρ)).natAbs : Int)⟩
abbrev eSum (a : PExp) : PExp := ⟨fun ρ => a.g ρ ∧ isLS (a.f ρ) = true ∧ allI (elems (a.f ρ)) = true, fun ρ => .int (toIs (elems (a.f ρ))).sum⟩
abbrev eMax (mx : List Int → Int) (a : PExp) : PExp := ⟨fun ρ => a.g ρ ∧ isLS (a.f ρ) = true ∧ allI (elems (a.f ρ)) = true ∧ 0 < (elems (a.f ρ)).length, fun ρ => .int (mx (toIs (elems (a.f ρ))))⟩
abbrev eMin (a b : PExp) : PExp := ⟨gI0 a.g b.g a.f b.f, fun ρ => .int (min (toI (a.f ρ)) (toI (b.f ρ)))⟩
abbrev eList (a : PExp) : PExp := ⟨fun ρ => a.g ρ ∧ isSq (a.f ρ) = true, fun ρ => .list (elems (a.f ρ))⟩
abbrev eTuple (a : PExp) : PExp := ⟨fun ρ => a.g ρ ∧ isSq (a.f ρ) = true, fun ρ => .tup (elems (a.f ρ))⟩
abbrev eToI (a : PExp) : PExp := ⟨fun ρ => a.g ρ ∧ isIB (a.f ρ) = true, fun ρ => .int (toInt (a.f ρ))⟩
abbrev eIsi (T : String) (a : PExp) : PExp := ⟨fun ρ => a.g ρ ∧ noE (a.f ρ), fun ρ => .bl (inTy T (a.f ρ))⟩
abbrev eCall (n : Nat) (F : FS) (a : PArg) : PExp := ⟨fun ρ => a.g ρ ∧ (a.f ρ).length = n ∧ F.g (a.f ρ), fun ρ => F.f (a.f ρ)⟩
abbrev iSq (e : PExp) : PIt := ⟨fun ρ => e.g ρ ∧ isSq (e.f ρ) = true, fun ρ => elems (e.f ρ)⟩
abbrev iLs (e : PExp) : PIt := ⟨fun ρ => e.g ρ ∧ isLS (e.f ρ) = true, fun ρ => elems (e.f ρ)⟩
abbrev iR1 (a : PExp) : PIt := ⟨fun ρ => a.g ρ ∧ isI (a.f ρ) = true ∧ inR (toI (a.f ρ)), fun ρ => rng 0 (toI (a.f ρ)).toNat⟩
abbrev iR2 (a b : PExp) : PIt := ⟨fun ρ => a.g ρ ∧ b.g ρ ∧ isI (a.f ρ) = true ∧ isI (b.f ρ) = true ∧ inR (toI (a.f ρ)) ∧ inR (toI (b.f ρ)), fun ρ => rng (toI (a.f ρ)) (toI (b.f ρ) - toI (a.f ρ)).toNat⟩
abbrev iR3 (a b c : PExp) : PIt := ⟨fun ρ => a.g ρ ∧ b.g ρ ∧ c.g ρ ∧ isI (a.f ρ) = true ∧ isI (b.f ρ) = true ∧ c.f ρ = .int (-1) ∧ inR (toI (a.f ρ)) ∧ inR (toI (b.f ρ)), fun ρ => rngD (toI (a.f ρ)) (toI (a.f ρ) - toI (b.f ρ)).toNat⟩
abbrev eLc (i : Nat) (it : PIt) (t : PTst) (e : PExp) : PExp := ⟨fun ρ => it.g ρ ∧ (it.its ρ).length ≤ sizeLine ∧ ∀ v ∈ it.its ρ, t.g (ρ.set i (some v)) ∧ (t.c (ρ.set i (some v)) = true → e.g (ρ.set i (some v))), fun ρ => .list (cmp i t.c e.f ρ (it.its ρ))⟩

abbrev pNil : Phi := fun E ρ => E.nx ρ
abbrev pSeq (a b : Phi) : Phi := fun E ρ => a ⟨b E, E.rt⟩ ρ
abbrev pNever : Phi := fun _ _ => False
abbrev pSet (i : Nat) (e : PExp) : Phi := fun E ρ => e.g ρ ∧ E.nx (ρ.set i (some (e.f ρ)))
abbrev pRet (e : PExp) : Phi := fun E ρ => e.g ρ ∧ E.rt (e.f ρ)
abbrev pRetO (i : Nat) : Phi := fun E ρ => gd ρ i = true ∧ E.rt (gv ρ i)
abbrev pIf (t : PTst) (a b : Phi) : Phi := fun E ρ => t.g ρ ∧ (t.c ρ = true → a E ρ) ∧ (t.c ρ = false → b E ρ)
abbrev pWhile (t : PTst) (a : Phi) : Phi := fun E ρ => ∃ W : Nat → PEnv → Prop, (∃ m, W m ρ) ∧ ∀ m ρ, W m ρ → t.g ρ ∧ (t.c ρ = true → a ⟨fun ρ' => ∃ m', m' < m ∧ W m' ρ', E.rt⟩ ρ) ∧ (t.c ρ = false → E.nx ρ)
abbrev pFor (i : Nat) (it : PIt) (a : Phi) : Phi := fun E ρ => it.g ρ ∧ ∃ W : Nat → PEnv → Prop, W 0 ρ ∧ (∀ k v ρ', (it.its ρ)[k]? = some v → W k ρ' → a ⟨W (k + 1), E.rt⟩ (ρ'.set i (some v))) ∧ (∀ ρ', W (it.its ρ).length ρ' → E.nx ρ')
abbrev pApp (i : Nat) (e : PExp) : Phi := fun E ρ => gd ρ i = true ∧ e.g ρ ∧ (elems (gv ρ i)).length < sizeLine ∧ E.nx (ρ.set i (some (.list (elems (gv ρ i) ++ [e.f ρ]))))
abbrev pPop (i : Nat) : Phi := fun E ρ => gd ρ i = true ∧ elems (gv ρ i) ≠ [] ∧ E.nx (ρ.set i (some (.list (elems (gv ρ i)).dropLast)))
abbrev pPut (i : Nat) (e j : PExp) : Phi := fun E ρ => e.g ρ ∧ gd ρ i = true ∧ j.g ρ ∧ isI (j.f ρ) = true ∧ (ixN (elems (gv ρ i)).length (toI (j.f ρ))).isSome = true ∧
  E.nx (ρ.set i (some (.list ((elems (gv ρ i)).set ((ixN (elems (gv ρ i)).length (toI (j.f ρ))).getD 0) (e.f ρ)))))
abbrev pPar (i j : Nat) (a b : PExp) : Phi := fun E ρ => a.g ρ ∧ b.g ρ ∧ E.nx ((ρ.set i (some (a.f ρ))).set j (some (b.f ρ)))
abbrev pUn3 (i j n : Nat) (e : PExp) : Phi := fun E ρ => e.g ρ ∧ isT (e.f ρ) = true ∧ ∃ v1 v2 v3, elems (e.f ρ) = [v1, v2, v3] ∧ E.nx (((ρ.set i (some v1)).set j (some v2)).set n (some v3))

def tS (K : PySem.W.Frag) (W : Str → Hp → Prop) (o o' : List Nat) (rm : Md) (φ : Phi) : TS := fun D σ H => ∃ G0 H0 ρ G E, R K o G0 H0 ρ σ G H ∧ φ E ρ ∧
  (∀ ρ' σ' G' H', Same G G' → R K o' G0 H0 ρ' σ' G' H' → E.nx ρ' → D.nx σ' H') ∧ ((∀ v u G' H', Ext G0 H0 G' H' → Res rm K G0 H0 G' H' v u → E.rt v → D.rt u H') ∧ ∀ c G' H', Ext G0 H0 G' H' → E.rt (.exc c) → W c H')
abbrev PSX (X : Cx) (W : Str → Hp → Prop) (o o' : List Nat) (rm : Md) (st : Stmt) (φ : Phi) : Prop := PS X st (tS X.K W o o' rm φ)
abbrev PSXs (X : Cx) (W : Str → Hp → Prop) (o o' : List Nat) (rm : Md) (st : List Stmt) (φ : Phi) : Prop := PSs X st (tS X.K W o o' rm φ)
theorem ps_imp {X : Cx} {st : Stmt} {t t' : TS} (h : PS X st t) (k : ∀ D σ H, t' D σ H → t D σ H) : PS X st t' := ⟨fun pins s σ H D I hw => h.run pins s σ H D I (k D σ H hw)⟩
theorem pss_imp {X : Cx} {st : List Stmt} {t t' : TS} (h : PSs X st t) (k : ∀ D σ H, t' D σ H → t D σ H) : PSs X st t' := ⟨fun pins s σ H D I hw => h.run pins s σ H D I (k D σ H hw)⟩
def del (i : Nat) (o : List Nat) : List Nat := o.filter fun j => decide (j ≠ i)
theorem mem_del {i j : Nat} {o : List Nat} : j ∈ del i o ↔ j ∈ o ∧ j ≠ i := by simp [del]

section
variable {K : PySem.W.Frag} {o o' : List Nat} {G0 H0 G H : Hp} {ρ : PEnv} {σ : Sg}
theorem R.freeze (r : R K o G0 H0 ρ σ G H) : ∀ l : List Nat, ∃ G', Same G G' ∧ R K (o.filter fun j => decide (j ∉ l)) G0 H0 ρ σ G' H
  | [] => ⟨G, Same.refl _, r.congr fun i => by simp⟩
  | i :: l => by
    obtain ⟨G1, s1, r1⟩ := r.freeze l
    obtain ⟨G2, s2, r2⟩ := r1.freeze1 i
    refine ⟨G2, s1.trans s2, r2.congr fun j => ?_⟩
    simp only [List.mem_filter, decide_eq_true_eq, List.mem_cons, not_or]
    exact ⟨fun z => ⟨z.1.1, z.2, z.1.2⟩, fun z => ⟨⟨z.1, z.2.2⟩, z.2.1⟩⟩
theorem R.weak (r : R K o G0 H0 ρ σ G H) (h : ∀ i ∈ o', i ∈ o) : ∃ G', Same G G' ∧ R K o' G0 H0 ρ σ G' H := by
  obtain ⟨G1, s1, r1⟩ := r.freeze (o.filter fun j => decide (j ∉ o'))
  refine ⟨G1, s1, r1.congr fun j => ?_⟩
  simp only [List.mem_filter, decide_eq_true_eq, not_and, Classical.not_not]
  exact ⟨fun z => z.2 z.1, fun z => ⟨h j z, fun _ => z⟩⟩
/-- a slot takes a fresh list -/
theorem R.setF {i : Nat} {v : PV} {x : V} {G1 H1 : Hp} (r : R K o G0 H0 ρ σ G H) (e : Ext G H G1 H1) (h : Res .F K G H G1 H1 v x) : R K (i :: del i o) G0 H0 (ρ.set i (some v)) (σ.set i (some x)) G1 H1 := by
  obtain ⟨xs, p, us, rfl, rfl, h3, h4, h5, h6⟩ := h
  have r1 := r.on e
  have np : ∀ (j : Nat) (w : PV), ρ[j]? = some (some w) → j ∈ o → σ[j]? ≠ some (some (.ref p)) := fun j w q hj z => by
    obtain ⟨ys, a, zs, k1, k2, k3, k4, k5, k6⟩ := r.ow j w q hj
    rw [k2] at z
    cases z
    rw [h3] at k5
    cases k5
  refine ⟨by rw [List.length_set, List.length_set, r.len], r1.ext, fun j w q hj => ?_, fun j w q hj => ?_, fun j k w1 w2 a hj hk hjk q1 q2 z1 z2 => ?_⟩
  · have hj' : j ≠ i ∧ j ∉ o := by
      simp only [List.mem_cons, mem_del, not_or, not_and] at hj
      exact ⟨hj.1, fun z => hj.2 z hj.1⟩
    rw [List.getElem?_set_ne (Ne.symm hj'.1)] at q
    rw [List.getElem?_set_ne (Ne.symm hj'.1)]
    exact r1.sh j w q hj'.2
  · by_cases hji : i = j
    · subst hji
      have hlt : i < ρ.length := by
        have := (List.getElem?_eq_some_iff.mp q).1
        rwa [List.length_set] at this
      rw [List.getElem?_set_self hlt] at q
      cases q
      exact ⟨xs, p, us, rfl, List.getElem?_set_self (by rw [r.len]; exact hlt), r.ext.hh.free h3, h4, h5, h6⟩
    · rw [List.getElem?_set_ne hji] at q
      rw [List.getElem?_set_ne hji]
      have hj2 : j ∈ o := by
        rcases List.mem_cons.mp hj with z | z
        · exact absurd z.symm hji
        · exact (mem_del.mp z).1
      exact r1.ow j w q hj2
  · by_cases hji : i = j
    · subst hji
      have hki : k ≠ i := fun z => hjk z.symm
      have hk2 : k ∈ o := by
        rcases List.mem_cons.mp hk with z | z
        · exact absurd z hki
        · exact (mem_del.mp z).1
      have hlt : i < ρ.length := by
        have := (List.getElem?_eq_some_iff.mp q1).1
        rwa [List.length_set] at this
      rw [List.getElem?_set_self (by rw [r.len]; exact hlt)] at z1
      cases z1
      rw [List.getElem?_set_ne (Ne.symm hki)] at q2 z2
      exact np k w2 q2 hk2 z2
    · have hj2 : j ∈ o := by
        rcases List.mem_cons.mp hj with z | z
        · exact absurd z.symm hji
        · exact (mem_del.mp z).1
      rw [List.getElem?_set_ne hji] at q1 z1
      by_cases hki : i = k
      · subst hki
        have hlt : i < ρ.length := by
          have := (List.getElem?_eq_some_iff.mp q2).1
          rwa [List.length_set] at this
        rw [List.getElem?_set_self (by rw [r.len]; exact hlt)] at z2
        cases z2
        exact np j w1 q1 hj2 z1
      · have hk2 : k ∈ o := by
          rcases List.mem_cons.mp hk with z | z
          · exact absurd z.symm hki
          · exact (mem_del.mp z).1
        rw [List.getElem?_set_ne hki] at q2 z2
        exact r.sep j k w1 w2 a hj2 hk2 hjk q1 q2 z1 z2
/-- an owned list is changed -/
theorem R.mut {i : Nat} {v : PV} {p : Addr} {xs : List PV} {us : List V} (r : R K o G0 H0 ρ σ G H) (hv : ρ[i]? = some (some v)) (hi : i ∈ o) (hp : σ[i]? = some (some (.ref p))) (hu : Reps K G xs us) :
    R K o G0 H0 (ρ.set i (some (.list xs))) σ G (upd H p (.lst us)) := by
  obtain ⟨ys, a, zs, k1, k2, k3, k4, k5, k6⟩ := r.ow i v hv hi
  rw [hp] at k2
  cases k2
  have hlt : i < ρ.length := (List.getElem?_eq_some_iff.mp hv).1
  refine ⟨by rw [List.length_set, r.len], ⟨r.ext.gg, fun b z e => ?_, fun b z e => ?_, r.ext.nw⟩, fun j w q hj => ?_, fun j w q hj => ?_, fun j k w1 w2 b hj hk hjk q1 q2 z1 z2 => ?_⟩
  · rw [upd_ne (ne_of_none e k4)]
    exact r.ext.gh _ _ e
  · rw [upd_ne (ne_of_none e k3)]
    exact r.ext.hh _ _ e
  · have hji : i ≠ j := fun z => hj (z ▸ hi)
    rw [List.getElem?_set_ne hji] at q
    exact r.sh j w q hj
  · by_cases hji : i = j
    · subst hji
      rw [List.getElem?_set_self hlt] at q
      cases q
      exact ⟨xs, p, us, rfl, hp, k3, k4, upd_same, hu⟩
    · rw [List.getElem?_set_ne hji] at q
      obtain ⟨ys', a', zs', j1, j2, j3, j4, j5, j6⟩ := r.ow j w q hj
      have ne : a' ≠ p := fun z => by
        subst z
        exact r.sep i j v w a' hi hj hji hv q hp j2
      exact ⟨ys', a', zs', j1, j2, j3, j4, by rw [upd_ne ne]; exact j5, j6⟩
  · have g1 : ∃ w, ρ[j]? = some (some w) := by
      by_cases hji : i = j
      · subst hji
        exact ⟨_, hv⟩
      · rw [List.getElem?_set_ne hji] at q1
        exact ⟨_, q1⟩
    have g2 : ∃ w, ρ[k]? = some (some w) := by
      by_cases hji : i = k
      · subst hji
        exact ⟨_, hv⟩
      · rw [List.getElem?_set_ne hji] at q2
        exact ⟨_, q2⟩
    obtain ⟨w3, g1⟩ := g1
    obtain ⟨w4, g2⟩ := g2
    exact r.sep j k w3 w4 b hj hk hjk g1 g2 z1 z2
end

section
variable {X : Cx} {W : Str → Hp → Prop} {o o1 o2 o' : List Nat} {m rm : Md} {st : Stmt} {sts : List Stmt} {φ φ1 φ2 : Phi} {e a b c : Expr} {g ga gb ge : PEnv → Prop} {f fa fb fe : PEnv → PV} {cc : PEnv → Bool} {pos p' : Pos}
/-! blocks -/
theorem z0 : PSXs X W o o rm [] pNil := pss_imp pss_nil fun D σ H ⟨G0, H0, ρ, G, E, r, h, k, _⟩ => k ρ σ G H (Same.refl _) r h
theorem zc (h1 : PSX X W o o1 rm st φ1) (h2 : PSXs X W o1 o2 rm sts φ2) : PSXs X W o o2 rm (st :: sts) (pSeq φ1 φ2) :=
  pss_imp (pss_cons h1 h2) fun D σ H ⟨G0, H0, ρ, G, E, r, h, k, l⟩ => ⟨G0, H0, ρ, G, ⟨φ2 E, E.rt⟩, r, h, fun ρ' σ' G' H' s' r' q => ⟨G0, H0, ρ', G', E, r', q, fun ρ2 σ2 G2 H2 s2 r2 q2 => k ρ2 σ2 G2 H2 (s'.trans s2) r2 q2, l⟩, l⟩
theorem z1 (h1 : PSX X W o o1 rm st φ1) : PSXs X W o o1 rm [st] φ1 := pss_imp (pss_one h1) fun _ _ _ h => h
/-- lists given out of hand ahead of a block, behind it -/
theorem zf (o1 : List Nat) (h : PSXs X W o1 o2 rm sts φ) (s : ∀ i ∈ o1, i ∈ o := by decide) : PSXs X W o o2 rm sts φ := pss_imp h fun D σ H ⟨G0, H0, ρ, G, E, r, h, k, l⟩ =>
  let ⟨G', sG, r'⟩ := r.weak s; ⟨G0, H0, ρ, G', E, r', h, fun ρ2 σ2 G2 H2 s2 r2 q2 => k ρ2 σ2 G2 H2 (sG.trans s2) r2 q2, l⟩
theorem zw (h : PSXs X W o o1 rm sts φ) (s : ∀ i ∈ o2, i ∈ o1 := by decide) : PSXs X W o o2 rm sts φ := pss_imp h fun D σ H ⟨G0, H0, ρ, G, E, r, h, k, l⟩ =>
  ⟨G0, H0, ρ, G, E, r, h, fun ρ2 σ2 G2 H2 s2 r2 q2 => let ⟨G3, s3, r3⟩ := r2.weak s; k ρ2 σ2 G3 H2 (s2.trans s3) r3 q2, l⟩
theorem znever : PSXs X W o o' rm sts pNever := pss_imp pss_never fun D σ H ⟨G0, H0, ρ, G, E, r, h, _⟩ => h
theorem snever : PSX X W o o' rm st pNever := ps_imp ps_never fun D σ H ⟨G0, H0, ρ, G, E, r, h, _⟩ => h
/-! statements -/
theorem spass : PSX X W o o rm (.Pass pos) pNil := ps_imp ps_pass fun D σ H ⟨G0, H0, ρ, G, E, r, h, k, _⟩ => k ρ σ G H (Same.refl _) r h
section
variable {i : Nat} {x : Str}
theorem sset (i : Nat) (he : PX X o .S e g f) (hN : X.N.Nodup) (hi : X.N[i]? = some x := by rfl) (hx : Loc X.env.scope x := by first | exact Or.inl rfl | exact Or.inr rfl) (hs : swapsWith e (some (.Name x p')) pos.line X.env = pure false := by rfl)
    (hf : X.fn x = true ∨ X.env.scope.names.lookup x = some .local := by first | exact .inl rfl | exact .inr rfl) : PSX X W o (del i o) rm (.Assign [.Name x p'] e pos) (pSet i ⟨g, f⟩) :=
  ps_imp (ps_set hN hi hx he hs hf) fun D σ H ⟨G0, H0, ρ, G, E, r, ⟨h1, h2⟩, k, l⟩ => one r h1 fun u G1 H1 e1 r1 ru => k _ _ G1 H1 e1.gg (r1.setS ru) h2
theorem ssetF (i : Nat) (he : PX X o .F e g f) (hN : X.N.Nodup) (hi : X.N[i]? = some x := by rfl) (hx : Loc X.env.scope x := by first | exact Or.inl rfl | exact Or.inr rfl) (hs : swapsWith e (some (.Name x p')) pos.line X.env = pure false := by rfl)
    (hf : X.fn x = true ∨ X.env.scope.names.lookup x = some .local := by first | exact .inl rfl | exact .inr rfl) : PSX X W o (i :: del i o) rm (.Assign [.Name x p'] e pos) (pSet i ⟨g, f⟩) :=
  ps_imp (ps_set hN hi hx he hs hf) fun D σ H ⟨G0, H0, ρ, G, E, r, ⟨h1, h2⟩, k, l⟩ => ⟨_, _, _, _, r, h1, fun u G1 H1 e1 ru => k _ _ G1 H1 e1.gg (r.setF e1 ru) h2⟩
theorem sret (he : PX X o .S e g f) : PSX X W o o' .S (.Return (some e) pos) (pRet ⟨g, f⟩) :=
  ps_imp (ps_ret he) fun D σ H ⟨G0, H0, ρ, G, E, r, ⟨h1, h2⟩, k, l⟩ => one r h1 fun u G1 H1 e1 r1 ru => l.1 _ u G1 H1 (r.ext.trans e1) ru h2
theorem sretF (he : PX X o .F e g f) : PSX X W o o' .F (.Return (some e) pos) (pRet ⟨g, f⟩) :=
  ps_imp (ps_ret he) fun D σ H ⟨G0, H0, ρ, G, E, r, ⟨h1, h2⟩, k, l⟩ => one r h1 fun u G1 H1 e1 r1 ru => l.1 _ u G1 H1 (r.ext.trans e1) (Res.from r.ext ru) h2
theorem sretO (i : Nat) {pn : Pos} (ho : i ∈ o := by decide) (hN : X.N[i]? = some x := by rfl) (hv : Vis X.env.scope x := by first | exact Or.inl rfl | exact Or.inr (Or.inl rfl) | exact Or.inr (Or.inr rfl))
    (hd : (x == ("__debug__" : Str)) = false := by decide) (hcd : (x == ("__classdict__" : Str)) = false := by decide) : PSX X W o o' .F (.Return (some (.Name x pn)) pos) (pRetO i) :=
  ps_imp (ps_ret (pe_var hN hv hd hcd)) fun D σ H ⟨G0, H0, ρ, G, E, r, ⟨h1, h2⟩, k, l⟩ => by
    obtain ⟨xs, a, us, k1, k2, k3, k4, k5, k6⟩ := r.ow i _ (gd_some h1) ho
    exact ⟨.ref a, k2, l.1 _ _ G H r.ext ⟨xs, a, us, k1, rfl, k3, k4, k5, k6⟩ h2⟩
theorem sif {sa sb : List Stmt} (hc : PXT X o c g cc) (ha : PSXs X W o o' rm sa φ1) (hb : PSXs X W o o' rm sb φ2) : PSX X W o o' rm (.If c sa sb pos) (pIf ⟨g, cc⟩ φ1 φ2) :=
  ps_imp (ps_if hc ha hb) fun D σ H ⟨G0, H0, ρ, G, E, r, ⟨h1, h2, h3⟩, k, l⟩ => ⟨G0, H0, ρ, G, r, h1, fun G1 H1 e1 => by
    cases hcc : cc ρ with
    | true =>
      rw [if_pos rfl]
      exact ⟨G0, H0, ρ, G1, E, r.on e1, h2 hcc, fun ρ2 σ2 G2 H2 s2 r2 q2 => k ρ2 σ2 G2 H2 (e1.gg.trans s2) r2 q2, l⟩
    | false =>
      rw [if_neg Bool.false_ne_true]
      exact ⟨G0, H0, ρ, G1, E, r.on e1, h3 hcc, fun ρ2 σ2 G2 H2 s2 r2 q2 => k ρ2 σ2 G2 H2 (e1.gg.trans s2) r2 q2, l⟩⟩
theorem swhile (hp : PassesOwn (model X.prog X.w) X.A X.env X.xe) (hc : PXT X o c g cc) (hb : PSXs X W o o rm sts φ) : PSX X W o o rm (.While c sts [] pos)
    (pWhile ⟨g, cc⟩ φ) :=
  ps_imp (ps_while hp hc hb) fun D σ H ⟨G0, H0, ρ, G, E, r, ⟨W, ⟨m0, w0⟩, turn⟩, k, l⟩ => by
    refine ⟨fun m σ H => ∃ ρ G1, Same G G1 ∧ R X.K o G0 H0 ρ σ G1 H ∧ W m ρ, ⟨m0, ρ, G, Same.refl _, r, w0⟩, ?_⟩
    rintro m σ1 H1 ⟨ρ1, G1, s1, r1, w1⟩
    obtain ⟨h1, h2, h3⟩ := turn m ρ1 w1
    refine ⟨G0, H0, ρ1, G1, r1, h1, fun G2 H2 e2 => ?_⟩
    cases hcc : cc ρ1 with
    | true =>
      rw [if_pos rfl]
      exact ⟨fun σ' H' => ∃ m', m' < m ∧ ∃ ρ G1, Same G G1 ∧ R X.K o G0 H0 ρ σ' G1 H' ∧ W m' ρ, fun σ' H' z => z, G0, H0, ρ1, G2, _, r1.on e2, h2 hcc, fun ρ3 σ3 G3 H3 s3 r3 ⟨m', q1, q2⟩ => ⟨m', q1, ρ3, G3, s1.trans (e2.gg.trans s3), r3, q2⟩, l⟩
    | false =>
      rw [if_neg Bool.false_ne_true]
      exact k ρ1 σ1 G2 H2 (s1.trans e2.gg) (r1.on e2) (h3 hcc)
variable {its : PEnv → List PV} {iter : Expr} {px : Pos}
theorem sfor (i : Nat) (hp : PassesOwn (model X.prog X.w) X.A X.env X.xe) (hc : X.calm = true) (hN : X.N.Nodup) (hi : PXI X o false (.Name x px) iter g its) (hb : PSXs X W o o rm sts φ) (ho : i ∉ o := by decide) (hix : X.N[i]? = some x := by rfl)
    (hx : Loc X.env.scope x := by first | exact Or.inl rfl | exact Or.inr rfl) (hf : X.fn x = true ∨ X.env.scope.names.lookup x = some .local := by first | exact .inl rfl | exact .inr rfl) (hs : ∀ x, foldedSetIterable iter X.env x = pure x := by intro _; rfl) :
    PSX X W o o rm (.For (.Name x px) iter sts [] pos) (pFor i ⟨g, its⟩ φ) :=
  ps_imp (ps_for hp hc hi (pg_name hN hix hx hf) hb hs) fun D σ H ⟨G0, H0, ρ, G, E, r, ⟨h1, W, w0, turn, done⟩, k, l⟩ => by
    refine ⟨G0, H0, ρ, G, r, h1, fun J G1 H1 e1 ok => ?_⟩
    have ok : ItOk X.K G1 G1 J (its ρ) := ok
    refine ⟨fun j m σ' H' => m = (its ρ).length - j ∧ j ≤ (its ρ).length ∧ ∃ ρ' G', Same G1 G' ∧ R X.K o G0 H0 ρ' σ' G' H' ∧ W j ρ', ⟨_, rfl, Nat.zero_le _, ρ, G1, Same.refl _, r.on e1, w0⟩, ?_⟩
    rintro j m σ2 H2 ⟨rfl, hj, ρ2, G2, s2, r2, w2⟩
    have sB : Same G1 H2 := s2.trans r2.ext.gh
    by_cases hlt : j < (its ρ).length
    · refine .inr ⟨ok.go j H2 sB hlt, fun σ' H' => j + 1 ≤ (its ρ).length ∧ ∃ ρ' G', Same G1 G' ∧ R X.K o G0 H0 ρ' σ' G' H' ∧ W (j + 1) ρ', fun σ' H' ⟨z1, z2⟩ => ⟨(its ρ).length - (j + 1), by omega, rfl, z1, z2⟩, fun u H' y => ?_⟩
      obtain ⟨rfl, y2⟩ := ok.yld j H2 u H' sB y
      obtain ⟨v, hv⟩ : ∃ v, (its ρ)[j]? = some v := ⟨_, List.getElem?_eq_getElem hlt⟩
      have ru : Rep X.K G2 v u := (y2 v hv).mono s2
      exact ⟨G0, H0, _, G2, _, r2.setS' ho ru, turn j v ρ2 hv w2, fun ρ3 σ3 G3 H3 s3 r3 q3 => ⟨hlt, ρ3, G3, s2.trans s3, r3, q3⟩, l⟩
    · have ej : j = (its ρ).length := by omega
      subst ej
      exact .inl ⟨ok.stop _ H2 sB (Nat.le_refl _), k ρ2 σ2 G2 H2 (e1.gg.trans s2) r2 (done ρ2 w2)⟩
/-- x.append(e) of a list in hand -/
theorem sapp (i : Nat) {pn ap cp : Pos} (he : PX X o .S e g f) (ho : i ∈ o := by decide) (hN : X.N[i]? = some x := by rfl) (hv : Vis X.env.scope x := by first | exact Or.inl rfl | exact Or.inr (Or.inl rfl) | exact Or.inr (Or.inr rfl))
    (hd : (x == ("__debug__" : Str)) = false := by decide) (hcd : (x == ("__classdict__" : Str)) = false := by decide)
    (hbase : attributeBase (.Name x pn) "append" X.env (eval (.Name x pn) X.env) = eval (.Name x pn) X.env := by rfl)
    (hfew : ((backTo cp (starEach [e] X.env)).all (fun x => !x.1) && (backToKw cp (keywordEach [] X.env)).all (fun x => x.1.isSome)
      && decide ([e].length + ([] : List Keyword).length + (if ([] : List Keyword).isEmpty then 0 else 1) < 30)) = true := by rfl)
    (hline : (ap.endLine == cp.line) = true := by rfl) (hs : starEach [e] X.env = (false, eval e X.env) :: starEach [] X.env := by rfl) :
    PSX X W o o rm (.Expr (.Call (.Attribute (.Name x pn) "append" ap) [e] [] cp) pos) (pApp i ⟨g, f⟩) :=
  ps_imp (ps_expr (pe_bm PySem.F.plainAttrs_list PySem.F.slot_list_append PySem.F.type_list_append mt_append (pe_var hN hv hd hcd) (pa_cons he pa_nil hs) hbase hfew hline hs)) fun D σ H ⟨G0, H0, ρ, G, E, r, ⟨h1, h2, h3, h4⟩, k, l⟩ => by
    obtain ⟨xs, a, us, k1, k2, k3, k4, k5, k6⟩ := r.ow i _ (gd_some h1) ho
    refine ⟨.ref a, k2, .inl ⟨rfl, us, SqL.of k5⟩, G0, H0, ρ, G, r, h2, fun u G1 H1 e1 ru => ?_⟩
    have hH1 := e1.hh _ _ k5
    rw [k1] at h3 h4
    refine ⟨a, us, u, rfl, rfl, hH1, by rw [← k6.length]; exact h3, ?_⟩
    exact k _ _ G1 _ e1.gg ((r.on e1).mut (gd_some h1) ho k2 ((k6.mono e1.gg).append (.cons ru .nil))) h4
/-- x.pop() of a list in hand, its value dropped -/
theorem spop (i : Nat) {pn ap cp : Pos} (ho : i ∈ o := by decide) (hN : X.N[i]? = some x := by rfl) (hv : Vis X.env.scope x := by first | exact Or.inl rfl | exact Or.inr (Or.inl rfl) | exact Or.inr (Or.inr rfl))
    (hd : (x == ("__debug__" : Str)) = false := by decide) (hcd : (x == ("__classdict__" : Str)) = false := by decide)
    (hbase : attributeBase (.Name x pn) "pop" X.env (eval (.Name x pn) X.env) = eval (.Name x pn) X.env := by rfl) (hline : (ap.endLine == cp.line) = true := by rfl) :
    PSX X W o o rm (.Expr (.Call (.Attribute (.Name x pn) "pop" ap) [] [] cp) pos) (pPop i) :=
  ps_imp (ps_expr (pe_bm0 PySem.F.plainAttrs_list PySem.F.slot_list_pop PySem.F.type_list_pop mt_pop (pe_var hN hv hd hcd) hbase hline)) fun D σ H ⟨G0, H0, ρ, G, E, r, ⟨h1, h3, h4⟩, k, l⟩ => by
    obtain ⟨xs, a, us, k1, k2, k3, k4, k5, k6⟩ := r.ow i _ (gd_some h1) ho
    rw [k1] at h3 h4
    have hne : us ≠ [] := fun z => by
      rw [z] at k6
      cases k6
      exact h3 rfl
    have hl : us.length - 1 < us.length := by
      cases us with
      | nil => exact absurd rfl hne
      | cons _ _ => simp
    exact ⟨.ref a, k2, .inl ⟨rfl, us, SqL.of k5⟩, a, us, _, rfl, rfl, k5, List.getElem?_eq_getElem hl, k _ _ G _ (Same.refl _) (r.mut (gd_some h1) ho k2 k6.dropLast) h4⟩
/-- x[j] = e of a list in hand -/
theorem sput (i : Nat) {idx : Expr} {gi : PEnv → Prop} {fi : PEnv → PV} {mi : Md} {pn ps' : Pos} (he : PX X o .S e g f) (hj : PX X o mi idx gi fi) (ho : i ∈ o := by decide) (hN : X.N[i]? = some x := by rfl) (hv : Vis X.env.scope x := by first | exact Or.inl rfl | exact Or.inr (Or.inl rfl) | exact Or.inr (Or.inr rfl))
    (hd : (x == ("__debug__" : Str)) = false := by decide) (hcd : (x == ("__classdict__" : Str)) = false := by decide)
    (ha : ∀ v, assign (.Subscript (.Name x pn) idx ps') X.env v = (do
      let ov ← holding [v] (eval (.Name x pn) X.env)
      let iv ← holding [v, ov] (eval idx X.env)
      standAt ps'
      holding [v, ov, iv] (setItem ov iv v)
      release [v, ov, iv] []) := by intro _; rfl)
    (hs : swapsWithSole [.Subscript (.Name x pn) idx ps'] e pos.line X.env = pure false := by rfl) (hw : swappedStores [.Subscript (.Name x pn) idx ps'] e X.env = pure none := by rfl)
    (h1 : (assignEach [.Subscript (.Name x pn) idx ps'] X.env).map (·.2) = [assign (.Subscript (.Name x pn) idx ps') X.env] := by rfl) :
    PSX X W o o rm (.Assign [.Subscript (.Name x pn) idx ps'] e pos) (pPut i ⟨g, f⟩ ⟨gi, fi⟩) :=
  ps_imp (ps_asg he (pg_sub (pe_var hN hv hd hcd) hj set_list ha) hs hw h1) fun D σ H ⟨G0, H0, ρ, G, E, r, ⟨h1, h2, h3, h4, h5, h6⟩, k, l⟩ => one r h1 fun u G1 H1 e1 r1 ru => by
    obtain ⟨xs, a, us, k1, k2, k3, k4, k5, k6⟩ := r1.ow i _ (gd_some h2) ho
    refine ⟨.ref a, k2, G0, H0, ρ, G1, r1, h3, fun w G2 H2 e2 rw' => ?_⟩
    rw [k1] at h5 h6
    cases q : ixN (elems (.list xs)).length (toI (fi ρ)) with
    | none =>
      rw [q] at h5
      cases h5
    | some j =>
      rw [q] at h6
      refine ⟨a, us, _, j, rfl, rw'.eqI h4, e2.hh _ _ k5, by rw [← k6.length]; exact q, ?_⟩
      exact k _ _ G2 _ (e1.gg.trans e2.gg) ((r1.on e2).mut (gd_some h2) ho k2 (Reps.set (Rep.mono e2.gg ru) j (k6.mono e2.gg))) h6
/-- a, b = e1, e2 -/
theorem spar (i j : Nat) {x y : Str} {ea eb : Expr} {px py pt : Pos} {kt k2 : Nat} {pt2 : Pos} (hc : X.calm = true) (hN : X.N.Nodup) (ha : PX X o .S ea ga fa) (hb : PX X o .S eb gb fb) (hi : X.N[i]? = some x := by rfl) (hj : X.N[j]? = some y := by rfl) (hij : i ≠ j := by decide)
    (hx : X.env.scope.names.lookup x = some .local := by rfl) (hy : X.env.scope.names.lookup y = some .local := by rfl)
    (hw : swappedStores [.Tuple [.Name x px, .Name y py] kt pt] (.Tuple [ea, eb] k2 pt2) X.env = pure (some [x, y]) := by rfl)
    (hs : swapsWithSole [.Tuple [.Name x px, .Name y py] kt pt] (.Tuple [ea, eb] k2 pt2) pos.line X.env = pure false := by rfl)
    (h1 : starEach [ea, eb] X.env = (false, eval ea X.env) :: starEach [eb] X.env := by rfl) (h2 : starEach [eb] X.env = (false, eval eb X.env) :: starEach [] X.env := by rfl) :
    PSX X W o (del j (del i o)) rm (.Assign [.Tuple [.Name x px, .Name y py] kt pt] (.Tuple [ea, eb] k2 pt2) pos) (pPar i j ⟨ga, fa⟩ ⟨gb, fb⟩) :=
  ps_imp (ps_par hc hN hi hj hij hx hy (pa_cons ha (pa_cons hb pa_nil h2) h1) hw hs) fun D σ H ⟨G0, H0, ρ, G, E, r, ⟨k1, k2, k3⟩, k, l⟩ => two r k1 k2 fun u w G1 H1 e1 r1 ru rw' =>
    ⟨u, w, rfl, k _ _ G1 H1 e1.gg ((r1.setS ru).setS rw') k3⟩
/-- a, b, c = a triple -/
theorem sun3 (i j n : Nat) {x y z : Str} {px py pz pt : Pos} {kt : Nat} (hc : X.calm = true) (hN : X.N.Nodup) (he : PX X o .S e g f) (hi : X.N[i]? = some x := by rfl) (hj : X.N[j]? = some y := by rfl) (hn : X.N[n]? = some z := by rfl)
    (hx : Loc X.env.scope x := by first | exact Or.inl rfl | exact Or.inr rfl) (hy : Loc X.env.scope y := by first | exact Or.inl rfl | exact Or.inr rfl) (hz : Loc X.env.scope z := by first | exact Or.inl rfl | exact Or.inr rfl)
    (hfx : X.fn x = true ∨ X.env.scope.names.lookup x = some .local := by first | exact .inl rfl | exact .inr rfl) (hfy : X.fn y = true ∨ X.env.scope.names.lookup y = some .local := by first | exact .inl rfl | exact .inr rfl) (hfz : X.fn z = true ∨ X.env.scope.names.lookup z = some .local := by first | exact .inl rfl | exact .inr rfl)
    (hs : swapsWithSole [.Tuple [.Name x px, .Name y py, .Name z pz] kt pt] e pos.line X.env = pure false := by rfl) (hw : swappedStores [.Tuple [.Name x px, .Name y py, .Name z pz] kt pt] e X.env = pure none := by rfl) :
    PSX X W o (del n (del j (del i o))) rm (.Assign [.Tuple [.Name x px, .Name y py, .Name z pz] kt pt] e pos) (pUn3 i j n ⟨g, f⟩) :=
  ps_imp (ps_asg he (pg_tup hc (pgs_cons (pg_name hN hi hx hfx) (pgs_cons (pg_name hN hj hy hfy) (pgs_cons (pg_name hN hn hz hfz) pgs_nil)))) hs hw) fun D σ H ⟨G0, H0, ρ, G, E, r, ⟨k1, k2, v1, v2, v3, k3, k4⟩, k, l⟩ => one r k1 fun u G1 H1 e1 r1 ru => by
    obtain ⟨a, us, rfl, q1, q2⟩ := ru.tup e1.gh k2
    rw [k3] at q2
    cases q2 with
    | cons a1 t1 =>
      cases t1 with
      | cons a2 t2 =>
        cases t2 with
        | cons a3 t3 =>
          cases t3
          exact ⟨a, _, rfl, q1, rfl, _, _, rfl, _, _, rfl, _, _, rfl, rfl, k _ _ G1 H1 e1.gg (((r1.setS a1).setS a2).setS a3) k4⟩
end
/-! y = [..] on one line -/
section
variable {i : Nat} {x y : Str} {px py : Pos} {elt iter : Expr} {ifs : List Expr} {scope : Scope} {gi gt : PEnv → Prop} {its : PEnv → List PV} {p2 : Pos}
theorem slc (i j : Nat) (hc : X.calm = true) (hN : X.N.Nodup) (hi : PXI X o true (.Name x px) iter gi its) (ok : blkC X.N X.env.scope scope [(x, i)] = true)
    (hg : ∀ (s : Shared) (H : Hp) (C : Addr) (cl : List (Str × Addr)) (fp : List Addr), PG (X.blk s H scope (compEnvC scope cl C X.env) fp) (.Name x px) (gName i))
    (ht : ∀ (s : Shared) (H : Hp) (C : Addr) (cl : List (Str × Addr)) (fp : List Addr), PXTs (X.blk s H scope (compEnvC scope cl C X.env) fp) o ifs gt cc)
    (he : ∀ (s : Shared) (H : Hp) (C : Addr) (cl : List (Str × Addr)) (fp : List Addr), PX (X.blk s H scope (compEnvC scope cl C X.env) fp) o .S elt ge fe) (ho : i ∉ o := by decide) (hy : X.N[j]? = some y := by rfl) (hyl : X.env.scope.names.lookup y = some .local := by rfl)
    (hsw : swapsWith (.ListComp elt [⟨.Name x px, iter, ifs, 0⟩] scope pos) (some (.Name y py)) p2.line X.env = pure true := by exact sw_true rfl rfl rfl (by decide +kernel)) (hs : ∀ x, foldedSetIterable iter X.env x = pure x := by intro _; rfl) :
    PSX X W o (j :: del j o) rm (.Assign [.Name y py] (.ListComp elt [⟨.Name x px, iter, ifs, 0⟩] scope pos) p2) (pSet j (eLc i ⟨gi, its⟩ ⟨gt, cc⟩ ⟨ge, fe⟩)) :=
  ps_imp (ps_setLc hc hN hy hyl hsw hi (blkOk_by ok) hg ht he hs) fun D σ H ⟨G0, H0, ρ, G, E, r, ⟨h1, h2⟩, k, l⟩ =>
    rd_lc ho ⟨_, _, _, _, r, h1, fun u G1 H1 e1 ru => k _ _ G1 H1 e1.gg (r.setF e1 ru) h2⟩
end
end

/-! a def of the text -/
structure Top (K : PySem.W.Frag) (mg : Str → Option Value) (x : Str) (st : Stmt) (ps : List Str) : Prop where
  ex : ∃ (f : Addr) (fd : FuncData), Fun K x x st f fd ∧ mg x = some (.ref f) ∧ Binds K fd ps []
def st0 (N : List Str) (as : List PV) : PEnv := as.map some ++ List.replicate (N.length - as.length) none
theorem start_R {K : PySem.W.Frag} {G H : Hp} {as : List PV} {vs : List V} {N : List Str} (s : Same G H) (r : Reps K G as vs) : R K [] G H (st0 N as) (L2.start N vs) G H where
  len := by simp [st0, L2.start, r.length]
  ext := Ext.refl s
  sh := fun i v e _ => by
    unfold st0 at e
    unfold L2.start
    by_cases hi : i < as.length
    · rw [List.getElem?_append_left (by simpa using hi), List.getElem?_map, List.getElem?_eq_getElem hi] at e
      obtain ⟨u, h1, h2⟩ := r.get (List.getElem?_eq_getElem hi)
      have e' : as[i] = v := by simpa using e
      rw [e'] at h2
      refine ⟨u, ?_, h2⟩
      rw [List.getElem?_append_left (by rw [List.length_map, ← r.length]; exact hi), List.getElem?_map, h1]
      rfl
    · rw [List.getElem?_append_right (by simpa using Nat.le_of_not_lt hi)] at e
      have := List.mem_of_getElem? e
      simp at this
  ow := fun i v e hi => absurd hi (by simp)
  sep := fun i j v w p hi => absurd hi (by simp)
section
variable {P : Program} {w : World} {K : PySem.W.Frag} {mg : Str → Option Value} {base : Heap} {x : Str} {st : Stmt} {N ps : List Str} {k n : Nat} {rm : Md} {g : List PV → Prop} {f : List PV → PV}
theorem mkFn {fa : Addr} {fd : FuncData} (F : Fun K x x st fa fd) (phi : Phi) (pure : ∀ as, as.length = n → g as → phi ⟨fun _ => False, fun v => v = f as⟩ (st0 N as)) (S : FnScope N ps (defScope st)) (hn : ps.length = n)
    (body : ∀ (fa : Addr) (cdv : Value) (A : Around) (outer : List Env) (s : Shared) (H : Hp) (E : XK), Room k (A.deeper (envOfC x (defScope st) s.heap.objs.size fa cdv)) →
      ∃ φ o', PSXs (cxOf CX0 P w K mg base N x (defScope st) fa cdv A outer s H E).nox (fun _ _ => True) [] o' rm (defBody st) φ ∧ φ = phi) :
    FnOk P w K mg base CX0 (k + 1) fa fd ps (spF K n rm g f) := by
  refine F.ok S (fun vs H Q E h => ?_) (fun cdv A outer s H vs Q E hr h => ?_)
  · obtain ⟨G, as, _, r, l, _⟩ := h
    rw [← r.length, l, hn]
  · obtain ⟨φ, o', hp, rfl⟩ := body fa cdv A outer s H E hr
    obtain ⟨G, as, sG, r, l, hg, q⟩ := h
    exact ⟨_, hp, G, H, st0 N as, G, _, start_R sG r, pure as l hg, fun _ _ _ _ _ _ z => z.elim, ⟨fun v u G' H' e' ru ev => q u G' H' e' (by rw [← ev]; exact ru), fun _ _ _ _ _ => trivial⟩⟩
theorem mkCal (phi : Phi) (pure : ∀ as, as.length = n → g as → phi ⟨fun _ => False, fun v => v = f as⟩ (st0 N as)) (T : Top K mg x st ps) (S : FnScope N ps (defScope st)) (hn : ps.length = n)
    (body : ∀ (fa : Addr) (cdv : Value) (A : Around) (outer : List Env) (s : Shared) (H : Hp) (E : XK), Room k (A.deeper (envOfC x (defScope st) s.heap.objs.size fa cdv)) →
      ∃ φ o', PSXs (cxOf CX0 P w K mg base N x (defScope st) fa cdv A outer s H E).nox (fun _ _ => True) [] o' rm (defBody st) φ ∧ φ = phi) :
    Cal P w K mg base x (k + 1) n rm g f := by
  obtain ⟨fa, fd, F, hm, hb⟩ := T.ex
  exact ⟨fa, fd, ps, mkFn F phi pure S hn body, hm, F.kp, hb⟩
theorem Cal.mono {j : Nat} (C : Cal P w K mg base x j n rm g f) (h : j ≤ k) : Cal P w K mg base x k n rm g f := by
  obtain ⟨fa, fd, ps, F, a, b, c⟩ := C.ex
  exact ⟨fa, fd, ps, F.mono h, a, b, c⟩
/-- another pure function, where the first agrees with it -/
theorem Cal.imp {g' : List PV → Prop} {f' : List PV → PV} (C : Cal P w K mg base x k n rm g f) (h : ∀ as, as.length = n → g' as → g as ∧ f as = f' as) : Cal P w K mg base x k n rm g' f' := by
  obtain ⟨fa, fd, ps, F, a, b, c⟩ := C.ex
  refine ⟨fa, fd, ps, F.imp fun vs H Q E z => ?_, a, b, c⟩
  obtain ⟨G, as, sG, r, l, hg, q⟩ := z
  obtain ⟨h1, h2⟩ := h as l hg
  exact ⟨G, as, sG, r, l, h1, fun u G' H' e hu => q u G' H' e (by rw [← h2]; exact hu)⟩
end

/-! what the top leaves of a def -/
theorem top_of {K : PySem.W.Frag} {h : Heap} {mg : Str → Option Value} (X : K.In h) (G : h.Ns mainGlobals mg) {x : Str} {st : Stmt} {ps : List Str} {f : Addr} {od an : Option Addr} {sl : Array (Option Value)} {oc kV dc pm cd ct : Value}
    (a : PySem.W.nsIn K mainGlobals x = some (some (.ref f))) (l : K.lookup f = some ⟨oc, od, .func (PySem.W.fnOf x x (defArgs st) (defBody st) (defScope st) .none kV dc pm an cd ct), sl⟩) (c : PySem.W.codeIn K cd x = true) (k : PySem.W.keepIn K (.ref f) = true)
    (b : ∀ (kV doc pm : Value) (an : Option Addr) (cdv ct : Value) (us : List Value), us.length = ps.length → bindArgs (PySem.W.fnOf x x (defArgs st) (defBody st) (defScope st) .none kV doc pm an cdv ct) ⟨us, []⟩ = pure (ps.zip us)) : Top K mg x st ps :=
  let F := fun_mk (st := st) l c k
  ⟨f, _, F, PySem.W.mg_of X G a, F.binds b⟩
/-- the law's own promise -/
def spLaw (g : List PV → Prop) (f : List PV → PV) (K : PySem.W.Frag) : Sp := spF K 1 .S g f
theorem spLaw_ok {g : List PV → Prop} {f : List PV → PV} {K : PySem.W.Frag} {H : Hp} {a : Addr} {ns : List Int} (hS : SqL K H a (ns.map V.int)) (hg : g [.scr ns]) (hf : f [.scr ns] = .bl true) : spLaw g f K [.ref a] H (fun v _ => v = .bl true) fun _ _ _ => False :=
  ⟨H, [.scr ns], Same.refl _, .cons (.scr hS) .nil, rfl, hg, fun u G' H' e hu => by rw [hf] at hu; exact Rep.bl_eq hu⟩
theorem law_of {K : PySem.W.Frag} {h : Heap} {mg : Str → Option Value} (X : K.In h) (G : h.Ns mainGlobals mg) {x : Str} {st : Stmt} {p : Str} {fa f : Addr} (hmg : mg x = some (.ref fa)) {od an : Option Addr} {sl : Array (Option Value)} {oc kV dc pm cd ct : Value}
    (a : PySem.W.nsIn K mainGlobals x = some (some (.ref f))) (l : K.lookup f = some ⟨oc, od, .func (PySem.W.fnOf x x (defArgs st) (defBody st) (defScope st) .none kV dc pm an cd ct), sl⟩) (c : PySem.W.codeIn K cd x = true) (k : PySem.W.keepIn K (.ref f) = true)
    (b : ∀ (kV doc pm : Value) (an : Option Addr) (cdv ct : Value) (s : Shared) (v : Value), BindsTo s (PySem.W.fnOf x x (defArgs st) (defBody st) (defScope st) .none kV doc pm an cdv ct) ⟨[v], []⟩ [(p, v)]) :
    ∃ fdl : FuncData, Fun K x x st fa fdl ∧ ∀ (s : Shared) (v : Value), BindsTo s fdl ⟨[v], []⟩ [(p, v)] := by
  have e := hmg.symm.trans (PySem.W.mg_of X G a)
  cases e
  exact ⟨_, fun_mk (st := st) l c k, b _ _ _ _ _ _⟩
end PL

namespace PL
open PySem PySem.Spec PyProof.Rows L2

/-! the greatest of a list; a list times a number -/
def mxL : List Int → Int
  | [] => 0
  | [x] => x
  | x :: y :: r => max x (mxL (y :: r))
theorem mxL_mem : ∀ {ns : List Int}, ns ≠ [] → mxL ns ∈ ns
  | [], h => absurd rfl h
  | [x], _ => by simp [mxL]
  | x :: y :: r, _ => by
    have ih := mxL_mem (ns := y :: r) (by simp)
    unfold mxL
    rcases Int.le_total x (mxL (y :: r)) with h | h
    · rw [Int.max_eq_right h]
      exact List.mem_cons_of_mem _ ih
    · rw [Int.max_eq_left h]
      exact List.mem_cons_self
theorem mxL_le : ∀ {ns : List Int} {y : Int}, y ∈ ns → y ≤ mxL ns
  | [x], y, h => by
    have e : y = x := by simpa using h
    subst e
    exact Int.le_refl _
  | x :: z :: r, y, h => by
    unfold mxL
    rcases List.mem_cons.mp h with e | e
    · subst e
      exact Int.le_max_left _ _
    · exact Int.le_trans (mxL_le e) (Int.le_max_right _ _)
theorem mxL_of (ns : List Int) (m : Int) (h : m ∈ ns) (hm : ∀ y, y ∈ ns → y ≤ m) : m = mxL ns :=
  Int.le_antisymm (mxL_le h) (hm _ (mxL_mem (fun z => by rw [z] at h; cases h)))
abbrev eRep (a b : PExp) : PExp := ⟨fun ρ => a.g ρ ∧ b.g ρ ∧ isL (a.f ρ) = true ∧ isI (b.f ρ) = true ∧ -(2 ^ 63) ≤ toI (b.f ρ) ∧ toI (b.f ρ) < 2 ^ 63 ∧ (elems (a.f ρ)).length * (toI (b.f ρ)).toNat ≤ sizeLine, fun ρ => .list (List.replicate (toI (b.f ρ)).toNat (elems (a.f ρ))).flatten⟩
theorem xrep {X : Cx} {o : List Nat} {ma mb : Md} {a b : Expr} {ga gb : PEnv → Prop} {fa fb : PEnv → PV} {pos : Pos} (ha : PX X o ma a ga fa) (hb : PX X o mb b gb fb) :
    PX X o .F (.BinOp a .Mult b pos) (eRep ⟨ga, fa⟩ ⟨gb, fb⟩).g (eRep ⟨ga, fa⟩ ⟨gb, fb⟩).f :=
  pe_imp (pe_op op_rep ha hb) fun σ H Q ⟨G0, H0, ρ, G, r, ⟨h1, h2, h3, h4, h5, h6, h7⟩, q⟩ => two r h1 h2 fun x y G1 H1 e1 r1 rx ry => by
    obtain ⟨p1, us, rfl, k1, k2⟩ := rx.lst e1.gh h3
    exact ⟨p1, _, us, rfl, ry.eqI h4, k1, h5, h6, by rw [← k2.length]; exact h7, fun p np => q _ _ _ (e1.trans (Ext.new e1.gh np)) (e1.fresh np (reps_rep k2 _))⟩

/-- the names of built-ins that the text leaves alone -/
structure Blt (mg : Str → Option Value) : Prop where
  len : mg "len" = none
  abs : mg "abs" = none
  min : mg "min" = none
  max : mg "max" = none
  sum : mg "sum" = none
  range : mg "range" = none
  list : mg "list" = none
  tuple : mg "tuple" = none
  int : mg "int" = none
  bool : mg "bool" = none
  isi : mg "isinstance" = none
  verr : mg "ValueError" = none
end PL

namespace PL
open PySem PySem.Spec PyProof.Rows L2

theorem impB {a b : Bool} {P : Prop} (h : a = b → P) : a = b → P := h
/-! defs that may raise an error class of the text -/
abbrev pRaise (c : Str) : Phi := fun E _ => E.rt (.exc c)
/-- what the written part says of an own error class over ValueError, at C -/
structure ErrC (K : PySem.W.Frag) (mg : Str → Option Value) (c : Str) (C : Addr) : Prop where
  g : mg c = some (.ref C)
  x : PySem.W.excIn K C [.type "ValueError", .type "Exception", .type "BaseException", .type "object"] "ValueError.__new__" = true
  k : PySem.W.keepIn K (.ref C) = true
  b : PySem.W.subIn K (.ref C) (.type "BaseException") = some true
  t : PySem.W.typeIn K (.ref C) = some (.type "type")
  e : ExcC K C
  v : PySem.W.kitOne K (.ref C) (.type "ValueError") = some true
/-- how one error class lies to another -/
structure ErrR (K : PySem.W.Frag) (mg : Str → Option Value) (C : Addr) (d : Str) (D : Addr) (r : Bool) : Prop where
  g : mg d = some (.ref D)
  s : PySem.W.subIn K (.ref C) (.ref D) = some r
  b : PySem.W.subIn K (.ref D) (.type "BaseException") = some true
  h : PySem.W.hasDictIn K D = true
  t : PySem.W.typeIn K (.ref D) = some (.type "type")
theorem ErrR.kit {K : PySem.W.Frag} {mg : Str → Option Value} {C D : Addr} {d : Str} {r : Bool} (E : ErrR K mg C d D r) (hr : C = D → r = true) : PySem.W.kitOne K (.ref C) (.ref D) = some r := by
  unfold PySem.W.kitOne
  by_cases e : C = D
  · rw [if_pos (by rw [e]; exact beq_self_eq_true _), hr e]
  · rw [if_neg (fun z => e (Value.ref.inj (beq_iff_eq.mp z)))]
    unfold PySem.W.kitCls
    obtain ⟨cd, hc, _⟩ := PySem.W.any_some E.h
    show (if ((PySem.W.clsIn K D).isSome && PySem.W.typeIn K (.ref D) == some (.type "type")) = true then PySem.W.subIn K (.ref C) (.ref D) else none) = some r
    rw [if_pos (by rw [hc, E.t]; rfl)]
    exact E.s
theorem ErrR.exm {K : PySem.W.Frag} {mg : Str → Option Value} {C D : Addr} {d : Str} {r : Bool} (E : ErrR K mg C d D r) : PySem.W.exmOne K (.ref C) (.ref D) = some r := PySem.W.exm_ref E.b E.h E.t E.s

section
variable {X : Cx} {W : Str → Hp → Prop} {o o' : List Nat} {rm : Md}
/-- raise C("..") -/
theorem sraise {Wk : WX} {c m : Str} {C : Addr} {j : Nat} {p p2 pos pos' : Pos} (hc : X.calm = true) (tk : Takes X Wk) (F : ErrC X.K X.mg c C) (hW : ∀ σ H, W c H → Wk (.ref C) none σ H) (hg : Gl X c := by rfl) (hdb : (c == ("__debug__" : Str)) = false := by decide) :
    PSX X W o o' rm (.Raise (some (.Call (.Name c p) [.Constant (.str m) j p2] [] pos')) none pos) (pRaise c) :=
  ps_imp (ps_raise hc tk (pmk_own PySem.F.excBase_ValueError F.x F.g F.k (raises_own F.b F.t) hg hdb)) fun D σ H ⟨G0, H0, ρ, G, E, r, h, k, l⟩ => hW σ H (l.2 c G H r.ext h)
end
/-- the promise of a def that may raise -/
def spX (K : PySem.W.Frag) (mg : Str → Option Value) (n : Nat) (rm : Md) (g : List PV → Prop) (f : List PV → PV) : Sp := fun vs H Q E => ∃ G as, Same G H ∧ Reps K G as vs ∧ as.length = n ∧ g as ∧
  (∀ u G' H', Ext G H G' H' → Res rm K G H G' H' (f as) u → Q u H') ∧ ∀ c C H', f as = .exc c → mg c = some (.ref C) → Same H H' → E (.ref C) none H'
structure CalX (P : Program) (w : World) (K : PySem.W.Frag) (mg : Str → Option Value) (base : Heap) (x : Str) (k n : Nat) (rm : Md) (g : List PV → Prop) (f : List PV → PV) : Prop where
  ex : ∃ (fa : Addr) (fd : FuncData) (ps : List Str), FnOk P w K mg base (L2.CX P w) k fa fd ps (spX K mg n rm g f) ∧ mg x = some (.ref fa) ∧ PySem.W.keepIn K (.ref fa) = true ∧ Binds K fd ps []
section
variable {P : Program} {w : World} {K : PySem.W.Frag} {mg : Str → Option Value} {base : Heap} {x : Str} {st : Stmt} {N ps : List Str} {k n : Nat} {rm : Md} {g : List PV → Prop} {f : List PV → PV}
/-- what a raising def's body wishes of an error -/
def wX (mg : Str → Option Value) (E : XK) : Str → Hp → Prop := fun c H' => ∀ C, mg c = some (.ref C) → E (.ref C) none H'
theorem mkCalX (phi : Phi) (pure : ∀ as, as.length = n → g as → phi ⟨fun _ => False, fun v => v = f as⟩ (st0 N as)) (T : Top K mg x st ps) (S : FnScope N ps (defScope st)) (hn : ps.length = n)
    (body : ∀ (fa : Addr) (cdv : Value) (A : Around) (outer : List Env) (s : Shared) (H : Hp) (E : XK), Room k (A.deeper (envOfC x (defScope st) s.heap.objs.size fa cdv)) →
      ∃ φ o', PSXs (cxOf (L2.CX P w) P w K mg base N x (defScope st) fa cdv A outer s H E) (wX mg E) [] o' rm (defBody st) φ ∧ φ = phi) :
    CalX P w K mg base x (k + 1) n rm g f := by
  obtain ⟨fa, fd, F, hm, hb⟩ := T.ex
  refine ⟨fa, fd, ps, F.okX S (fun vs H Q E h => ?_) (fun cdv A outer s H vs Q E hr h => ?_), hm, F.kp, hb⟩
  · obtain ⟨G, as, _, r, l, _⟩ := h
    rw [← r.length, l, hn]
  · obtain ⟨φ, o', hp, rfl⟩ := body fa cdv A outer s H E hr
    obtain ⟨G, as, sG, r, l, hg, q, qx⟩ := h
    exact ⟨_, hp, G, H, st0 N as, G, _, start_R sG r, pure as l hg, fun _ _ _ _ _ _ z => z.elim, ⟨fun v u G' H' e' ru ev => q u G' H' e' (by rw [← ev]; exact ru), fun c G' H' e' ev C hC => qx c C H' ev.symm hC e'.hh⟩⟩
end
section
variable {X : Cx} {W : Str → Hp → Prop} {o : List Nat} {rm rm' : Md} {e : Expr} {es : List Expr} {g : List PV → Prop} {f : List PV → PV} {ga : PEnv → Prop} {fs : PEnv → List PV} {pos p : Pos} {k n : Nat} {x : Str}
/-- an argument list of a call that may raise, as the reading wants it -/
theorem rd_callX {E : XK} {σ : Sg} {H : Hp} {Q : VK} {G0 H0 G : Hp} {ρ : PEnv} (r : R X.K o G0 H0 ρ σ G H) (h1 : ga ρ) (h2 : (fs ρ).length = n) (h3 : g (fs ρ)) (q : ∀ u G' H', Ext G H G' H' → Res rm' X.K G H G' H' (f (fs ρ)) u → Q u H')
    (qx : ∀ c C H', f (fs ρ) = .exc c → X.mg c = some (.ref C) → Same H H' → E (.ref C) none H') : tA X.K o ga fs σ H fun vs H1 => spX X.K X.mg n rm' g f (vs ++ []) H1 Q E := by
  refine ⟨_, _, _, _, r, h1, fun us G1 H1 e1 ru => ?_⟩
  show spX X.K X.mg n rm' g f (us ++ []) H1 Q E
  rw [List.append_nil]
  exact ⟨G1, fs ρ, e1.gh, ru, h2, h3, fun u G2 H2 e2 hu => q u G2 H2 (e1.trans e2) (Res.from e1 hu), fun c C H' a b s => qx c C H' a b (e1.hh.trans s)⟩
/-- y = f(..), f may raise; so may this def -/
abbrev pSetX (i n : Nat) (F : FS) (a : PArg) : Phi := fun E ρ => a.g ρ ∧ (a.f ρ).length = n ∧ F.g (a.f ρ) ∧ (∀ c, F.f (a.f ρ) = .exc c → E.rt (.exc c)) ∧ E.nx (ρ.set i (some (F.f (a.f ρ))))
end

/-! try: f(..) except B as e: .., where f raises -/
/-- isinstance(e, (c1, c2, ..)), e the error that the suite holds -/
theorem call_isET {X : Cx} {a D : Addr} {oe : Obj} {pn : List (Addr × Obj)} (C : ExcC X.K D) (hz : Zc (.ref D) none oe) (hf : ∃ vs, oe.data = .fields vs) : CallR (X.suite a ((a, oe) :: pn)) (.builtin "isinstance")
    (fun xs H Q => ∃ (tp : Addr) (cs : List V) (us : List Value) (b : Bool), xs = [.ref a, .ref tp] ∧ H tp = some (.tup cs) ∧ Paired ClsV cs us ∧ PySem.W.kitAny X.K (.ref D) us = some b ∧ Q (.bl b) H) := by
  intro pins s σ H xs us Q I r h
  obtain ⟨tp, cs, ws, b, rfl, hT, k, e, q⟩ := h
  obtain ⟨u1, u2, rfl, r1, r2⟩ := vals2 r
  cases (show u1 = Value.ref a from r1)
  cases (show u2 = Value.ref tp from r2)
  obtain ⟨hget, _⟩ := I.pin (a, oe) (List.mem_append.mpr (.inl List.mem_cons_self))
  obtain ⟨vs, hv⟩ := hf
  have J : PySem.W.InstAt s.heap a oe D none := by
    obtain ⟨oc, od, oda, osl⟩ := oe
    obtain ⟨h1, h2⟩ := hz
    dsimp only at h1 h2 hv
    subst h1 h2 hv
    exact ⟨hget, rfl, rfl, trivial⟩
  obtain ⟨_, its, rv, o, h1, h2, n, h3⟩ := (show ObjOk X.prog X.w H s.heap tp (.tup cs) from I.hok tp _ hT)
  have e3 := ClsV.all k rv
  subst e3
  obtain ⟨oc, od, dt, sl⟩ := o
  simp only at h2 h3
  subst h2 h3
  exact PySem.W.kia_tup (PySem.W.handS_kitx_exc C.hg C.hk C.hs C.hd C.ha C.hn C.ht C.hm) I.kIn J h1 e (fun z => nomatch z) fun tk => ⟨.bl b, H, I.kept (t' := tk) fun _ _ z => z, rfl, q⟩
section
variable {X : Cx} {i : Nat} {n : Str} {c d1 d2 d3 d4 b : Str} {C D1 D2 D3 D4 : Addr} {p1 p2 p3 p4 p5 p6 p7 p8 p9 q1 q2 q3 q4 q5 q6 q7 q8 q9 q10 q11 q12 : Pos} {j k1 k2 : Nat}
/-- the suite: if isinstance(e, (D1, D2, D3, D4)): return False; return isinstance(e, C) and isinstance(e, ValueError) -/
def tSuite (i : Nat) (C : Addr) (a : Addr) (cls : Value) (d : Option Addr) : TS := fun D σ H => cls = .ref C ∧ d = none ∧ σ[i]? = some (some (.ref a)) ∧ ∀ H', Same H H' → D.rt (.bl true) H'
theorem suite_ok {a : Addr} {oe : Obj} {cls : Value} {d : Option Addr} {pn : List (Addr × Obj)} (hi : X.N[i]? = some n) (hv : Vis X.env.scope n) (hnd : (n == ("__debug__" : Str)) = false) (hnc : (n == ("__classdict__" : Str)) = false)
    (EC : ErrC X.K X.mg c C) (R1 : ErrR X.K X.mg C d1 D1 false) (R2 : ErrR X.K X.mg C d2 D2 false) (R3 : ErrR X.K X.mg C d3 D3 false) (R4 : ErrR X.K X.mg C d4 D4 false) (n1 : C ≠ D1) (n2 : C ≠ D2) (n3 : C ≠ D3) (n4 : C ≠ D4)
    (mI : X.mg "isinstance" = none) (mV : X.mg "ValueError" = none) (gI : Gl X "isinstance") (gV : Gl X "ValueError") (gC : Gl X c) (g1 : Gl X d1) (g2 : Gl X d2) (g3 : Gl X d3) (g4 : Gl X d4)
    (e1 : (d1 == ("__debug__" : Str)) = false) (e2 : (d2 == ("__debug__" : Str)) = false) (e3 : (d3 == ("__debug__" : Str)) = false) (e4 : (d4 == ("__debug__" : Str)) = false) (eC : (c == ("__debug__" : Str)) = false)
    (hz : Zc cls d oe) (hf : ∃ vs, oe.data = .fields vs) :
    PSs (X.suite a ((a, oe) :: pn)) [.If (.Call (.Name "isinstance" p1) [.Name n p2, .Tuple [.Name d1 p3, .Name d2 p4, .Name d3 p5, .Name d4 p6] k1 p7] [] p8) [.Return (some (.Constant (.bool false) k2 p9)) q1] [] q2,
      .Return (some (.BoolOp .And [.Call (.Name "isinstance" q3) [.Name n q4, .Name c q5] [] q6, .Call (.Name "isinstance" q7) [.Name n q8, .Name "ValueError" q9] [] q10] q11)) q12] (tSuite i C a cls d) := by
  refine ⟨fun pins s σ H D I h => ?_⟩
  obtain ⟨rfl, rfl, hs, q⟩ := h
  have pn' : PE (X.suite a ((a, oe) :: pn)) (.Name n p2) (tVar i) := pe_var hi hv hnd hnc
  have pn2 : PE (X.suite a ((a, oe) :: pn)) (.Name n q4) (tVar i) := pe_var hi hv hnd hnc
  have pn3 : PE (X.suite a ((a, oe) :: pn)) (.Name n q8) (tVar i) := pe_var hi hv hnd hnc
  suffices k : ∃ t, PSs (X.suite a ((a, oe) :: pn)) [.If (.Call (.Name "isinstance" p1) [.Name n p2, .Tuple [.Name d1 p3, .Name d2 p4, .Name d3 p5, .Name d4 p6] k1 p7] [] p8) [.Return (some (.Constant (.bool false) k2 p9)) q1] [] q2,
      .Return (some (.BoolOp .And [.Call (.Name "isinstance" q3) [.Name n q4, .Name c q5] [] q6, .Call (.Name "isinstance" q7) [.Name n q8, .Name "ValueError" q9] [] q10] q11)) q12] t ∧ t D σ H by
    obtain ⟨t, k1, k2⟩ := k
    exact k1.run pins s σ H D I k2
  refine ⟨_, pss_cons (ps_if (pt_val (pe_callB (call_isET EC.e hz hf) gI mI boot_isinstance (pa_cons pn' (pa_cons (pe_tup (pa_cons (pe_glob (v := .ref D1) g1 R1.g rfl e1) (pa_cons (pe_glob (v := .ref D2) g2 R2.g rfl e2) (pa_cons (pe_glob (v := .ref D3) g3 R3.g rfl e3) (pa_cons (pe_glob (v := .ref D4) g4 R4.g rfl e4) pa_nil))))) pa_nil))))
      (pss_one (ps_ret pe_bl)) pss_nil)
    (pss_one (ps_ret (pe_and (pe_callB (call_isE EC.e hz hf) gI mI boot_isinstance (pa_cons pn2 (pa_cons (pe_glob (v := .ref C) gC EC.g rfl eC) pa_nil))) (pe_one (pe_callB (call_isE EC.e hz hf) gI mI boot_isinstance (pa_cons pn3 (pa_cons (pe_bltn (v := .ty "ValueError") gV mV PyProof.Rows.Boot.«ValueError» rfl) pa_nil))))))), ?_⟩
  refine ⟨.ref a, hs, ⟨by show 4 ≤ sizeLine; decide, fun tp ntp => ⟨tp, _, [.ref D1, .ref D2, .ref D3, .ref D4], false, rfl, upd_same, .cons (.own D1) (.cons (.own D2) (.cons (.own D3) (.cons (.own D4) .nil))), ?_, false, rfl, ?_⟩⟩⟩
  · exact kitAny_cons (R1.kit fun z => absurd z n1) (fun _ => kitAny_cons (R2.kit fun z => absurd z n2) (fun _ => kitAny_cons (R3.kit fun z => absurd z n3) (fun _ => kitAny_cons (R4.kit fun z => absurd z n4) (fun _ => rfl) (fun z => by cases z)) (fun z => by cases z)) (fun z => by cases z)) (fun z => by cases z)
  · refine iteF ?_
    refine ⟨.ref a, hs, .ref C, .ref C, true, rfl, fun u h => h, ?_, true, rfl, ?_⟩
    · unfold PySem.W.kitOne
      rw [if_pos (beq_self_eq_true _)]
    · refine iteT ?_
      refine ⟨.ref a, hs, .ty "ValueError", .type "ValueError", true, rfl, fun u h => h, EC.v, q _ fun b o h => ?_⟩
      rw [upd_ne (ne_of_none h ntp)]
      exact h
end
section
variable {X : Cx} {W : Str → Hp → Prop} {o : List Nat} {g : List PV → Prop} {f : List PV → PV} {ga : PEnv → Prop} {fs : PEnv → List PV} {k m i : Nat} {x n c b : Str} {C B : Addr} {e : Expr} {es : List Expr} {b₀ : Stmt} {suite : List Stmt} {p pos pe np pos' pos'' : Pos} {rm' : Md}
/-- try: f(..) except B as e: suite, where f raises c -/
abbrev pTryR (i n : Nat) (F : FS) (a : PArg) (c : Str) : Phi := fun E ρ => i < ρ.length ∧ a.g ρ ∧ (a.f ρ).length = n ∧ F.g (a.f ρ) ∧ F.f (a.f ρ) = .exc c ∧ E.rt (.bl true)
theorem stryr (F : CalX X.prog X.w X.K X.mg X.base x k m rm' g f) (hr : Room k X.A) (ha : ∀ (pn : List (Addr × Obj)) (xe : Value → Shared → Prop), PA (X.tr pn xe) (e :: es) (tA X.K o ga fs)) (EC : ErrC X.K X.mg c C) (RB : ErrR X.K X.mg C b B true)
    (hs : X.stack = X.env :: X.outer) (hf : X.env.frame = some X.env.locals) (hN : X.N.Nodup) (hi : X.N[i]? = some n) (hln : X.env.kindOf n = some .local) (hc : Names X b (.ref B)) (tk : Takes X (fun _ _ _ _ => False))
    (hsu : ∀ (a : Addr) (oe : Obj) (cls : Value) (d : Option Addr) (pn : List (Addr × Obj)), Zc cls d oe → (∃ vs, oe.data = .fields vs) → PSs (X.suite a ((a, oe) :: pn)) (b₀ :: suite) (tSuite i C a cls d))
    (hgx : Gl X x := by rfl) (hdb : (x == ("__debug__" : Str)) = false := by decide) (he : starEach (e :: es) X.env = (false, eval e X.env) :: starEach es X.env := by rfl) (hpl : (backTo pos (starEach es X.env)).any (·.1) = false := by rfl)
    (hsw : swapsWith (.Call (.Name x p) (e :: es) [] pos) none pe.line X.env = pure false := by rfl) :
    PSX X W o o .S (.Try [.Expr (.Call (.Name x p) (e :: es) [] pos) pe] [.ExceptHandler (some (.Name b np)) (some n) (b₀ :: suite) pos'] [] [] pos'') (pTryR i m ⟨g, f⟩ ⟨ga, fs⟩ c) := by
  obtain ⟨fa, fd, ps, FF, hm, hk, hb⟩ := F.ex
  refine ps_imp (ps_try_as (i := i) hs hf hN hi hln hc tk (fun Wt pn xe tk' _ => pss_one (ps_expr (pe_callS FF hr hgx hm hk hb (fun σ => passAt tk' σ) (ha pn xe) hdb he hpl) hsw)) hsu) fun D σ H ⟨G0, H0, ρ, G, E, r, ⟨h0, h1, h2, h3, h4, h5⟩, k, l⟩ => ?_
  have il : i < σ.length := by
    rw [r.len]
    exact h0
  show tCallS _ _ _ σ H _
  refine ⟨_, _, _, _, r, h1, fun us G1 H1 e1 ru => ?_⟩
  refine ⟨G1, fs ρ, e1.gh, ru, h2, h3, fun u G2 H2 e2 hu => ?_, fun c' C' H' a1 b1 s1 => ?_⟩
  · exfalso
    have hu : Res rm' X.K G1 H1 G2 H2 (f (fs ρ)) u := hu
    rw [show f (fs ρ) = .exc c from h4] at hu
    rcases hu.B with z | ⟨xs, a, us, z, _⟩
    · cases z
    · cases z
  · have ec : PV.exc c' = .exc c := a1.symm.trans h4
    cases ec
    have eC : C' = C := by
      have := b1.symm.trans EC.g
      injection this with z
      injection z
    subst eC
    refine ⟨true, RB.exm, fun _ a na => ⟨rfl, rfl, List.getElem?_set_self il, fun H2 s2 => ?_⟩, fun z => by cases z⟩
    exact l.1 (.bl true) (.bl true) G H2 (r.ext.trans ⟨Same.refl _, r.ext.gh.trans (e1.hh.trans (s1.trans s2)), e1.hh.trans (s1.trans s2), fun _ _ _ z => z⟩) (Rep.bl true) h5
end

/-! what the row's top leaves of the error classes -/
structure Errs (K : PySem.W.Frag) (mg : Str → Option Value) (c b d1 d2 d3 d4 : Str) : Prop where
  ex : ∃ C B D1 D2 D3 D4, ErrC K mg c C ∧ ErrR K mg C b B true ∧ (ErrR K mg C d1 D1 false ∧ C ≠ D1) ∧ (ErrR K mg C d2 D2 false ∧ C ≠ D2) ∧ (ErrR K mg C d3 D3 false ∧ C ≠ D3) ∧ (ErrR K mg C d4 D4 false ∧ C ≠ D4)
structure Err1 (K : PySem.W.Frag) (mg : Str → Option Value) (c : Str) : Prop where
  ex : ∃ C, ErrC K mg c C
section
variable {K : PySem.W.Frag} {h : Heap} {mg : Str → Option Value} (X : K.In h) (G : h.Ns mainGlobals mg)
include X G
theorem errC_of {c : Str} {C : Addr} (a : PySem.W.nsIn K mainGlobals c = some (some (.ref C))) (x : PySem.W.excIn K C [.type "ValueError", .type "Exception", .type "BaseException", .type "object"] "ValueError.__new__" = true)
    (k : PySem.W.keepIn K (.ref C) = true) (b : PySem.W.subIn K (.ref C) (.type "BaseException") = some true) (t : PySem.W.typeIn K (.ref C) = some (.type "type")) (v : PySem.W.kitOne K (.ref C) (.type "ValueError") = some true)
    (hg : PySem.W.findIn K (.ref C) "__getattribute__" = some (some (.builtin "BaseException.__getattribute__"))) (hk : PySem.W.findIn K (.ref C) "__getattr__" = some none) (hd : PySem.W.hasDictIn K C = true)
    (ha : PySem.W.findIn K (.ref C) "__class__" = some (some (.builtin "object.__class__"))) (hn : PySem.W.specialIn K (.builtin "object.__class__") "__get__" = some (some (.builtin "getset_descriptor.__get__")))
    (ht : PySem.W.takesIn K (.builtin "object.__class__") = some true) (hm : PySem.W.mroIn K C (.type "object") = some true) : ErrC K mg c C :=
  ⟨PySem.W.mg_of X G a, x, k, b, t, ⟨hg, hk, b, hd, ha, hn, ht, hm⟩, v⟩
theorem errR_of {C : Addr} {d : Str} {D : Addr} {r : Bool} (a : PySem.W.nsIn K mainGlobals d = some (some (.ref D))) (s : PySem.W.subIn K (.ref C) (.ref D) = some r) (b : PySem.W.subIn K (.ref D) (.type "BaseException") = some true)
    (h : PySem.W.hasDictIn K D = true) (t : PySem.W.typeIn K (.ref D) = some (.type "type")) : ErrR K mg C d D r := ⟨PySem.W.mg_of X G a, s, b, h, t⟩
end
theorem Errs.one {K : PySem.W.Frag} {mg : Str → Option Value} {c b d1 d2 d3 d4 : Str} (E : Errs K mg c b d1 d2 d3 d4) : Err1 K mg c := by
  obtain ⟨C, B, D1, D2, D3, D4, h, _⟩ := E.ex
  exact ⟨C, h⟩
end PL

namespace PL
open PySem PySem.Spec PyProof.Rows L2
open L2H (RoomH Hot1 PinOk cxH)

/-! a def that is handed the caught error: p is the error's pin -/
structure FnP (P : Program) (w : World) (K : PySem.W.Frag) (mg : Str → Option Value) (base : Heap) (k : Nat) (f : Addr) (fd : FuncData) (ps : List Str) (sp : Addr × Obj → List V → Hp → VK → Prop) : Prop where
  run : ∀ (A : Around) (outer : List Env) (s : Shared) (H : Hp) (args : Args) (us : List Value) (vs : List V) (Q : VK) (E : XK) (p : Addr × Obj), RoomH k A → Hot1 A p → PinOk outer H s p → Env0 P w K mg base A outer s H → BindsTo s fd args (ps.zip us) → Vals vs us → vs.length = ps.length → sp p vs H Q →
    codeAny (model P w) A (.call (.ref f) args) (CR CX0 outer P w H s Q E) s
theorem fnP_of {P : Program} {w : World} {K : PySem.W.Frag} {mg : Str → Option Value} {base : Heap} {x qual : Str} {st : Stmt} {f : Addr} {fd : FuncData} {N ps : List Str} {k : Nat} {sp : Addr × Obj → List V → Hp → VK → Prop} (F : Fun K x qual st f fd) (S : FnScope N ps (defScope st))
    (hbody : ∀ (cdv : Value) (A : Around) (outer : List Env) (s : Shared) (H : Hp) (vs : List V) (Q : VK) (E : XK) (p : Addr × Obj), RoomH k (A.deeper (envOfC qual (defScope st) s.heap.objs.size f cdv)) → sp p vs H Q →
      ∃ t, PSs (cxH CX0 P w K mg base N qual (defScope st) f cdv A outer s H E p).nox (defBody st) t ∧ t { nx := fun _ H' => Q .non H', rt := Q } (L2.start N vs) H) : FnP P w K mg base (k + 1) f fd ps sp := by
  obtain ⟨oc, od, kV, doc, pm, an, cdv, ct, osl, rfl, lk, hcd⟩ := F.ex
  refine ⟨fun A outer s H args us vs Q E p room hot pin e0 bd vals len hsp => ?_⟩
  have old := fun b o (e : base.get? b = some o) => (e0.bs b o e).1
  have kin := e0.mod.kin.keeps old
  have names : ∀ y ∈ ps.zip us, (defScope st).names.lookup y.1 = some .local ∨ ((defScope st).names.lookup y.1 = some .cell ∧ ((cellsFrom (s.heap.objs.size + 1) (defScope st).names []).lookup y.1).isSome = true) :=
    fun y hy => (S.par y.1 (List.of_mem_zip hy).1).imp id fun q => And.intro q (PySem.W.cellsFrom_some _ _ _ (.inl q))
  refine codeAny_call_function room.depth (kin _ _ lk) rfl S.co S.gen rfl (PySem.W.codeRec_of kin hcd) (bd _ _ _ _ (wpAny_newFunctionEnv_cells S.kind names fun env he s1 made => ?_))
  subst he
  obtain ⟨t, walk, reading⟩ := hbody cdv A outer s H vs Q E p (room.deeper _) hsp
  refine ⟨(e0.mod.nolimit.keeps old).keeps made.toInCall.keep, codeAny_func (wpAny_mono (walk.nox.run [] s1 (L2.start N vs) H _ (L2H.inv_startH S pin e0 len vals made) reading) (fun fl s' z => ?_) fun _ _ z => z)⟩
  match fl, z with
  | .ret u, ⟨v, _, H', J, rv, q⟩ => exact ⟨v, H', J.os, J.bare, J.base, J.hok, rv, q⟩
  | .next, ⟨_, H', J, q⟩ => exact ⟨V.non, H', J.os, J.bare, J.base, J.hok, rfl, q⟩
  | .brk, ⟨_, _, _, q⟩ => exact q.elim
  | .cont, ⟨_, _, _, q⟩ => exact q.elim

/-! isinstance of the caught error, by its pin -/
section
variable {Y : Cx} {a D : Addr} {oe : Obj}
theorem inst_of {pins : List (Addr × Obj)} {σ : L2.St} {H : Hp} {s : Shared} (hp : (a, oe) ∈ Y.pn) (hz : Zc (.ref D) none oe) (hf : ∃ vs, oe.data = .fields vs) (I : Inv Y pins σ H s) : PySem.W.InstAt s.heap a oe D none := by
  have hget := (I.pin (a, oe) (List.mem_append_left _ hp)).1
  obtain ⟨vs, hv⟩ := hf
  obtain ⟨oc, od, oda, osl⟩ := oe
  cases hz.1
  cases hz.2
  cases hv
  exact ⟨hget, rfl, rfl, trivial⟩
theorem call_isP (hp : (a, oe) ∈ Y.pn) (C : ExcC Y.K D) (hz : Zc (.ref D) none oe) (hf : ∃ vs, oe.data = .fields vs) : CallR Y (.builtin "isinstance") (rIsE Y.K D a) := by
  intro pins s σ H xs us Q I r h
  obtain ⟨c, cv, b, rfl, hcv, e, q⟩ := h
  obtain ⟨u1, u2, rfl, r1, r2⟩ := vals2 r
  cases (show u1 = Value.ref a from r1)
  cases hcv _ r2
  exact PySem.W.kia_one (PySem.W.handS_kitx_exc C.hg C.hk C.hs C.hd C.ha C.hn C.ht C.hm) I.kIn (inst_of hp hz hf I) e (fun z => nomatch z) fun tk => ⟨.bl b, H, I.kept (t' := tk) fun _ _ z => z, rfl, q⟩
theorem call_isPT (hp : (a, oe) ∈ Y.pn) (C : ExcC Y.K D) (hz : Zc (.ref D) none oe) (hf : ∃ vs, oe.data = .fields vs) : CallR Y (.builtin "isinstance")
    (fun xs H Q => ∃ (tp : Addr) (cs : List V) (us : List Value) (b : Bool), xs = [.ref a, .ref tp] ∧ H tp = some (.tup cs) ∧ Paired ClsV cs us ∧ PySem.W.kitAny Y.K (.ref D) us = some b ∧ Q (.bl b) H) := by
  intro pins s σ H xs us Q I r h
  obtain ⟨tp, cs, ws, b, rfl, hT, k, e, q⟩ := h
  obtain ⟨u1, u2, rfl, r1, r2⟩ := vals2 r
  cases (show u1 = Value.ref a from r1)
  cases (show u2 = Value.ref tp from r2)
  obtain ⟨_, its, rv, o, h1, h2, n, h3⟩ := (show ObjOk Y.prog Y.w H s.heap tp (.tup cs) from I.hok tp _ hT)
  have e3 := ClsV.all k rv
  subst e3
  obtain ⟨oc, od, dt, sl⟩ := o
  simp only at h2 h3
  subst h2 h3
  exact PySem.W.kia_tup (PySem.W.handS_kitx_exc C.hg C.hk C.hs C.hd C.ha C.hn C.ht C.hm) I.kIn (inst_of hp hz hf I) h1 e (fun z => nomatch z) fun tk => ⟨.bl b, H, I.kept (t' := tk) fun _ _ z => z, rfl, q⟩
end
/-- an error class and what isinstance tells of its errors, by the classes' names -/
structure EWd (K : PySem.W.Frag) (mg : Str → Option Value) (ds : List Str) (C : Addr) (c : Str) : Prop where
  e : ErrC K mg c C
  r : ∀ d ∈ ds, ∃ D, mg d = some (.ref D) ∧ PySem.W.kitOne K (.ref C) (.ref D) = some (decide (c = d))
abbrev eIsE (a : Addr) (b : Bool) (x : PExp) : PExp := ⟨fun ρ => x.g ρ ∧ x.f ρ = .exo a, fun _ => .bl b⟩
section
variable {Y : Cx} {a C : Addr} {oe : Obj} {o : List Nat} {m : Md} {x : Expr} {g : PEnv → Prop} {f : PEnv → PV} {p pT pos p2 : Pos} {c d d2 : Str} {ds : List Str} {k : Nat}
theorem Res.exo {K : PySem.W.Frag} {G H G1 H1 : Hp} {u : V} (h : Res m K G H G1 H1 (.exo a) u) : u = .ref a := by
  cases h.B with
  | inl z => cases z; rfl
  | inr z => obtain ⟨xs, _, _, e, _⟩ := z; cases e
theorem xisE (hp : (a, oe) ∈ Y.pn) (E : EWd Y.K Y.mg ds C c) (hz : Zc (.ref C) none oe) (hf : ∃ vs, oe.data = .fields vs) (hd : d ∈ ds) (mI : Y.mg "isinstance" = none) (hx : PX Y o m x g f) (hgI : Gl Y "isinstance" := by rfl) (hg : Gl Y d := by rfl) (hdb : (d == ("__debug__" : Str)) = false := by decide)
    (hs : starEach [x, .Name d pT] Y.env = (false, eval x Y.env) :: starEach [.Name d pT] Y.env := by rfl) (hs2 : starEach [.Name d pT] Y.env = (false, eval (.Name d pT) Y.env) :: starEach [] Y.env := by rfl) (hpl : (backTo pos (starEach [.Name d pT] Y.env)).any (·.1) = false := by rfl) :
    PX Y o .S (.Call (.Name "isinstance" p) [x, .Name d pT] [] pos) (fun ρ => g ρ ∧ f ρ = .exo a) (fun _ => .bl (decide (c = d))) := by
  obtain ⟨D, hm, hk⟩ := E.r d hd
  refine pe_imp (pe_callB (call_isP hp E.e.e hz hf) hgI mI boot_isinstance (pa_cons hx (pa_cons (pe_glob (v := .ref D) hg hm rfl hdb) pa_nil hs2) hs) (he := hs) (hpl := hpl)) fun σ H Q ⟨G0, H0, ρ, G, r, ⟨h1, h2⟩, q⟩ => one r h1 fun u G1 H1 e1 r1 ru => ?_
  rw [h2] at ru
  cases ru.exo
  exact ⟨.ref D, .ref D, _, rfl, fun u h => h, hk, q _ _ _ e1 (Rep.bl _)⟩
theorem xisEV (hp : (a, oe) ∈ Y.pn) (E : EWd Y.K Y.mg ds C c) (hz : Zc (.ref C) none oe) (hf : ∃ vs, oe.data = .fields vs) (mI : Y.mg "isinstance" = none) (mV : Y.mg "ValueError" = none) (hx : PX Y o m x g f) (hgI : Gl Y "isinstance" := by rfl) (hg : Gl Y "ValueError" := by rfl)
    (hs : starEach [x, .Name "ValueError" pT] Y.env = (false, eval x Y.env) :: starEach [.Name "ValueError" pT] Y.env := by rfl) (hs2 : starEach [.Name "ValueError" pT] Y.env = (false, eval (.Name "ValueError" pT) Y.env) :: starEach [] Y.env := by rfl) (hpl : (backTo pos (starEach [.Name "ValueError" pT] Y.env)).any (·.1) = false := by rfl) :
    PX Y o .S (.Call (.Name "isinstance" p) [x, .Name "ValueError" pT] [] pos) (fun ρ => g ρ ∧ f ρ = .exo a) (fun _ => .bl true) := by
  refine pe_imp (pe_callB (call_isP hp E.e.e hz hf) hgI mI boot_isinstance (pa_cons hx (pa_cons (pe_bltn (v := .ty "ValueError") hg mV PyProof.Rows.Boot.«ValueError» rfl) pa_nil hs2) hs) (he := hs) (hpl := hpl)) fun σ H Q ⟨G0, H0, ρ, G, r, ⟨h1, h2⟩, q⟩ => one r h1 fun u G1 H1 e1 r1 ru => ?_
  rw [h2] at ru
  cases ru.exo
  exact ⟨.ty "ValueError", .type "ValueError", _, rfl, fun u h => h, E.e.v, q _ _ _ e1 (Rep.bl _)⟩
theorem xisE2 (hp : (a, oe) ∈ Y.pn) (E : EWd Y.K Y.mg ds C c) (hz : Zc (.ref C) none oe) (hf : ∃ vs, oe.data = .fields vs) (hd : d ∈ ds) (hd2 : d2 ∈ ds) (mI : Y.mg "isinstance" = none) (hx : PX Y o m x g f) (hgI : Gl Y "isinstance" := by rfl) (hg : Gl Y d := by rfl) (hdb : (d == ("__debug__" : Str)) = false := by decide)
    (hg2 : Gl Y d2 := by rfl) (hdb2 : (d2 == ("__debug__" : Str)) = false := by decide) {pT2 pT3 : Pos}
    (hs : starEach [x, .Tuple [.Name d pT, .Name d2 pT2] k pT3] Y.env = (false, eval x Y.env) :: starEach [.Tuple [.Name d pT, .Name d2 pT2] k pT3] Y.env := by rfl)
    (hpl : (backTo pos (starEach [.Tuple [.Name d pT, .Name d2 pT2] k pT3] Y.env)).any (·.1) = false := by rfl) :
    PX Y o .S (.Call (.Name "isinstance" p) [x, .Tuple [.Name d pT, .Name d2 pT2] k pT3] [] pos) (fun ρ => g ρ ∧ f ρ = .exo a) (fun _ => .bl (decide (c = d) || decide (c = d2))) := by
  obtain ⟨D, hm, hk⟩ := E.r d hd
  obtain ⟨D2, hm2, hk2⟩ := E.r d2 hd2
  refine pe_imp (pe_callB (call_isPT hp E.e.e hz hf) hgI mI boot_isinstance (pa_cons hx (pa_cons (pe_tup (pa_cons (pe_glob (v := .ref D) hg hm rfl hdb) (pa_cons (pe_glob (v := .ref D2) hg2 hm2 rfl hdb2) pa_nil))) pa_nil) hs) (he := hs) (hpl := hpl)) fun σ H Q ⟨G0, H0, ρ, G, r, ⟨h1, h2⟩, q⟩ => one r h1 fun u G1 H1 e1 r1 ru => ?_
  rw [h2] at ru
  cases ru.exo
  refine ⟨by show 2 ≤ sizeLine; decide, fun tp ntp => ⟨tp, _, [.ref D, .ref D2], decide (c = d) || decide (c = d2), rfl, upd_same, .cons (.own D) (.cons (.own D2) .nil), ?_, ?_⟩⟩
  · refine kitAny_cons hk (fun hb => kitAny_cons hk2 (fun hb2 => ?_) (fun hb2 => ?_)) (fun hb => ?_)
    · rw [hb, hb2]; rfl
    · rw [hb2, Bool.or_true]
    · rw [hb]; rfl
  · exact q _ _ _ (e1.trans (Ext.new e1.gh ntp)) (Rep.bl _)
end

/-! the def's promise: the error's word -/
def spW (K : PySem.W.Frag) (mg : Str → Option Value) (ds cs : List Str) (wd : Str → Str) : Addr × Obj → List V → Hp → VK → Prop := fun p vs H Q =>
  ∃ C c, vs = [.ref p.1] ∧ c ∈ cs ∧ EWd K mg ds C c ∧ Zc (.ref C) none p.2 ∧ (∃ vs, p.2.data = .fields vs) ∧ ∀ H', Same H H' → Q (.str (wd c)) H'
structure CalP (P : Program) (w : World) (K : PySem.W.Frag) (mg : Str → Option Value) (base : Heap) (x : Str) (k : Nat) (ds cs : List Str) (wd : Str → Str) : Prop where
  ex : ∃ (fa : Addr) (fd : FuncData) (ps : List Str), FnP P w K mg base k fa fd ps (spW K mg ds cs wd) ∧ mg x = some (.ref fa) ∧ PySem.W.keepIn K (.ref fa) = true ∧ Binds K fd ps [] ∧ ps.length = 1
section
variable {P : Program} {w : World} {K : PySem.W.Frag} {mg : Str → Option Value} {base : Heap} {x : Str} {st : Stmt} {N ps : List Str} {k : Nat} {ds cs : List Str} {wd : Str → Str}
theorem mkCalP (phi : Addr → Str → Phi) (pure : ∀ a c, c ∈ cs → phi a c ⟨fun _ => False, fun v => v = .str (wd c)⟩ (st0 N [.exo a])) (T : Top K mg x st ps) (S : FnScope N ps (defScope st)) (hn : ps.length = 1)
    (body : ∀ (fa : Addr) (cdv : Value) (A : Around) (outer : List Env) (s : Shared) (H : Hp) (E : XK) (a : Addr) (oe : Obj) (C : Addr) (c : Str), RoomH k (A.deeper (envOfC x (defScope st) s.heap.objs.size fa cdv)) → EWd K mg ds C c → Zc (.ref C) none oe → (∃ vs, oe.data = .fields vs) →
      ∃ φ o', PSXs (cxH CX0 P w K mg base N x (defScope st) fa cdv A outer s H E (a, oe)).nox (fun _ _ => True) [] o' .S (defBody st) φ ∧ φ = phi a c) : CalP P w K mg base x (k + 1) ds cs wd := by
  obtain ⟨fa, fd, F, hm, hb⟩ := T.ex
  refine ⟨fa, fd, ps, fnP_of F S fun cdv A outer s H vs Q E p hr h => ?_, hm, F.kp, hb, hn⟩
  obtain ⟨a, oe⟩ := p
  obtain ⟨C, c, rfl, hc, ew, hz, hf, q⟩ := h
  obtain ⟨φ, o', hp, rfl⟩ := body fa cdv A outer s H E a oe C c hr ew hz hf
  refine ⟨_, hp, H, H, st0 N [.exo a], H, _, start_R (Same.refl H) (.cons (.exo a) .nil), pure a c hc, fun _ _ _ _ _ _ z => z.elim, ⟨fun v u G' H' e' ru ev => ?_, fun _ _ _ _ _ => trivial⟩⟩
  rw [ev] at ru
  rw [Rep.str_eq ru]
  exact q H' e'.hh
end
section
variable {X : Cx} {a C : Addr} {oe : Obj} {pn : List (Addr × Obj)} {x n c : Str} {p p2 p3 p4 p5 pos : Pos} {j k k2 i : Nat} {ds cs : List Str} {wd : Str → Str}
/-- word(e) in the suite that holds e -/
theorem pe_word (F : CalP X.prog X.w X.K X.mg X.base x k ds cs wd) (hr : RoomH k X.A) (hot : ∃ vs : Array Value, oe.data = .fields vs ∧ vs[2]? = some .none) (E : EWd X.K X.mg ds C c) (hc : c ∈ cs) (hz : Zc (.ref C) none oe) (hN : X.N[i]? = some n) (hv : Vis X.env.scope n) (hd : (n == ("__debug__" : Str)) = false) (hcd : (n == ("__classdict__" : Str)) = false)
    (hg : Gl X x) (hdb : (x == ("__debug__" : Str)) = false) (he : starEach [.Name n p2] X.env = (false, eval (.Name n p2) X.env) :: starEach [] X.env := by rfl) (hpl : (backTo pos (starEach [] X.env)).any (·.1) = false := by rfl) :
    PE (X.suite a ((a, oe) :: pn)) (.Call (.Name x p) [.Name n p2] [] pos) (fun σ H Q => σ[i]? = some (some (.ref a)) ∧ ∀ H', Same H H' → Q (.str (wd c)) H') := by
  obtain ⟨fa, fd, ps, FF, hm, hk, hb, hl⟩ := F.ex
  refine ⟨fun pins s σ H Q I ⟨h1, h2⟩ => wpAny_Call_Name_kw (ld_glob I hg hm ?_ hdb)⟩
  have av : PE (X.suite a ((a, oe) :: pn)) (.Name n p2) (tVar i) := pe_var hN hv hd hcd
  refine PySem.W.callWith_K (h₀ := X.base) I.ok.mod.kin hk (thn ((pa_cons av pa_nil he).run pos pins s σ H (fun vs H1 => vs = [.ref a] ∧ H = H1) I ⟨.ref a, h1, rfl, rfl⟩) fun us s1 ⟨vs, H1, I1, r, ev, eH⟩ => ⟨I1.kIn, ?_⟩) he hpl
  subst ev eH
  have one : us.length = ps.length := by rw [← r.length, hl]; rfl
  have bd := hb s1 us I1.kIn (by rw [List.append_nil]; exact one)
  rw [List.append_nil] at bd
  have pin := I1.pin (a, oe) (List.mem_append_left _ List.mem_cons_self)
  have pk : PinOk X.stack H s1 (a, oe) := ⟨pin.1, pin.2.1, fun hm => (List.mem_cons.mp (I1.stkSub a hm)).elim pin.2.2.1 pin.2.2.2.1, pin.2.2.2.2⟩
  have hx : Hot1 (X.suite a ((a, oe) :: pn)).A (a, oe) := ⟨rfl, hot⟩
  refine wpAny_call (codeAny_mono (FF.run _ X.stack s1 H ⟨us, []⟩ us [.ref a] Q (fun _ _ _ => False) (a, oe) ⟨hr.dp, hr.un⟩ hx pk I1.env0 bd r (by rw [hl]; rfl) ⟨C, c, rfl, hc, E, hz, hot.imp fun _ z => z.1, h2⟩) fun r s' hq => ?_)
  match r, hq with
  | .ok (.ret u), hq => exact I1.after hq
  | .ok .next, hq => exact hq.elim
  | .ok .brk, hq => exact hq.elim
  | .ok .cont, hq => exact hq.elim
  | .error e, hq => exact hq.elim
/-- return (word(e), None) -/
theorem ps_word (F : CalP X.prog X.w X.K X.mg X.base x k ds cs wd) (hr : RoomH k X.A) (hot : ∃ vs : Array Value, oe.data = .fields vs ∧ vs[2]? = some .none) (E : EWd X.K X.mg ds C c) (hc : c ∈ cs) (hz : Zc (.ref C) none oe) (hN : X.N[i]? = some n) (hv : Vis X.env.scope n) (hd : (n == ("__debug__" : Str)) = false) (hcd : (n == ("__classdict__" : Str)) = false)
    (hg : Gl X x) (hdb : (x == ("__debug__" : Str)) = false) (he : starEach [.Name n p2] X.env = (false, eval (.Name n p2) X.env) :: starEach [] X.env) (hpl : (backTo pos (starEach [] X.env)).any (·.1) = false) :
    PSs (X.suite a ((a, oe) :: pn)) [.Return (some (.Tuple [.Call (.Name x p) [.Name n p2] [] pos, .Constant .none j p3] k2 p4)) p5]
      (fun D σ H => σ[i]? = some (some (.ref a)) ∧ ∀ H' tp, Same H H' → H' tp = none → D.rt (.ref tp) (upd H' tp (.tup [.str (wd c), .non]))) := by
  refine pss_imp (pss_one (ps_ret (pe_tup (pa_cons (pe_word F hr hot E hc hz hN hv hd hcd hg hdb he hpl) (pa_cons pe_non pa_nil))))) fun D σ H ⟨h1, h2⟩ => ?_
  exact ⟨h1, fun H' s => ⟨by show 2 ≤ sizeLine; decide, fun tp np => h2 H' tp s np⟩⟩
end

/-! defs that raise, the error's context told too -/
theorem takes0N {X : Cx} : L2N.Takes X (fun _ _ _ _ => False) := fun _ _ ⟨_, _, _, _, _, _, _, _, _, _, _, _, _, _, _, _, w⟩ => w.elim
section
variable {X : Cx} {W : Str → Hp → Prop} {o o' : List Nat} {rm : Md}
theorem sraiseN {Wk : WX} {c m : Str} {C : Addr} {j : Nat} {p p2 pos pos' : Pos} (hc : X.calm = true) (tk : L2N.Takes X Wk) (F : ErrC X.K X.mg c C) (hW : ∀ σ H, W c H → Wk (.ref C) none σ H) (hg : Gl X c := by rfl) (hdb : (c == ("__debug__" : Str)) = false := by decide) :
    PSX X W o o' rm (.Raise (some (.Call (.Name c p) [.Constant (.str m) j p2] [] pos')) none pos) (pRaise c) :=
  ps_imp (L2N.ps_raise hc tk (L2N.pmk_own PySem.F.excBase_ValueError F.x F.g F.k (raises_own F.b F.t) hg hdb)) fun D σ H ⟨G0, H0, ρ, G, E, r, h, k, l⟩ => hW σ H (l.2 c G H r.ext h)
end
structure CalXN (P : Program) (w : World) (K : PySem.W.Frag) (mg : Str → Option Value) (base : Heap) (x : Str) (k n : Nat) (rm : Md) (g : List PV → Prop) (f : List PV → PV) : Prop where
  ex : ∃ (fa : Addr) (fd : FuncData) (ps : List Str), FnOk P w K mg base (L2N.CX P w) k fa fd ps (spX K mg n rm g f) ∧ mg x = some (.ref fa) ∧ PySem.W.keepIn K (.ref fa) = true ∧ Binds K fd ps []
theorem mkCalXN {P : Program} {w : World} {K : PySem.W.Frag} {mg : Str → Option Value} {base : Heap} {x : Str} {st : Stmt} {N ps : List Str} {k n : Nat} {rm : Md} {g : List PV → Prop} {f : List PV → PV}
    (phi : Phi) (pure : ∀ as, as.length = n → g as → phi ⟨fun _ => False, fun v => v = f as⟩ (st0 N as)) (T : Top K mg x st ps) (S : FnScope N ps (defScope st)) (hn : ps.length = n)
    (body : ∀ (fa : Addr) (cdv : Value) (A : Around) (outer : List Env) (s : Shared) (H : Hp) (E : XK), Room k (A.deeper (envOfC x (defScope st) s.heap.objs.size fa cdv)) →
      ∃ φ o', PSXs (cxOf (L2N.CX P w) P w K mg base N x (defScope st) fa cdv A outer s H E) (wX mg E) [] o' rm (defBody st) φ ∧ φ = phi) :
    CalXN P w K mg base x (k + 1) n rm g f := by
  obtain ⟨fa, fd, F, hm, hb⟩ := T.ex
  have kp := F.kp
  obtain ⟨oc, od, kV, doc, pm, an, cdv, ct, osl, rfl, lk, hcd⟩ := F.ex
  refine ⟨fa, _, ps, fn_of lk hcd S (fun vs H Q E h => ?_) (fun A outer s H vs Q E hr h => ?_), hm, kp, hb⟩
  · obtain ⟨G, as, _, r, l, _⟩ := h
    rw [← r.length, l, hn]
  · obtain ⟨φ, o', hp, rfl⟩ := body fa cdv A outer s H E hr
    obtain ⟨G, as, sG, r, l, hg, q, qx⟩ := h
    exact ⟨_, hp, G, H, st0 N as, G, _, start_R sG r, pure as l hg, fun _ _ _ _ _ _ z => z.elim, ⟨fun v u G' H' e' ru ev => q u G' H' e' (by rw [← ev]; exact ru), fun c G' H' e' ev C hC => qx c C H' ev.symm hC e'.hh⟩⟩
/-- the classes that a text tells apart -/
structure WErrs (K : PySem.W.Frag) (mg : Str → Option Value) (ds cs : List Str) (b : Str) : Prop where
  ex : ∃ B, mg b = some (.ref B) ∧ ∀ c ∈ cs, ∃ C, EWd K mg ds C c ∧ ErrR K mg C b B true
section
variable {X : Cx} {W : Str → Hp → Prop} {g : List PV → Prop} {f : List PV → PV} {ga : PEnv → Prop} {fs : PEnv → List PV} {k k' m i iy : Nat} {x y n b wn : Str} {e : Expr} {es : List Expr} {p p1 p2 p3 p4 p5 py pa np pos pos' pos'' pw : Pos} {j k2 : Nat} {ds cs : List Str} {wd : Str → Str}
/-- try: y = f(..) except B as e: return (word(e), None) -/
abbrev pTryW (j i n : Nat) (F : FS) (a : PArg) (cs : List Str) (wd : Str → Str) : Phi := fun E ρ => j < ρ.length ∧ a.g ρ ∧ (a.f ρ).length = n ∧ F.g (a.f ρ) ∧ (∀ c, F.f (a.f ρ) = .exc c → c ∈ cs ∧ E.rt (.tup [.str (wd c), .non])) ∧ ((∀ c, F.f (a.f ρ) ≠ .exc c) → E.nx (ρ.set i (some (F.f (a.f ρ)))))
def tsW (K : PySem.W.Frag) (mg : Str → Option Value) (ds cs : List Str) (wd : Str → Str) (i : Nat) (a : Addr) (cls : Value) (d : Option Addr) : TS := fun D σ H =>
  ∃ C c, cls = .ref C ∧ d = none ∧ c ∈ cs ∧ EWd K mg ds C c ∧ σ[i]? = some (some (.ref a)) ∧ ∀ H' tp, Same H H' → H' tp = none → D.rt (.ref tp) (upd H' tp (.tup [.str (wd c), .non]))
theorem stryw (F : CalXN X.prog X.w X.K X.mg X.base x k m .S g f) (FW : CalP X.prog X.w X.K X.mg X.base wn k' ds cs wd) (WE' : WErrs X.K X.mg ds cs b) (hr : Room k X.A) (hr' : RoomH k' X.A) (ha : ∀ (pn : List (Addr × Obj)) (xe : Value → Shared → Prop), PA (X.tr pn xe) (e :: es) (tA X.K [] ga fs))
    (hs : X.stack = X.env :: X.outer) (hf : X.env.frame = some X.env.locals) (hN : X.N.Nodup) (hi : X.N[i]? = some n) (hiy : X.N[iy]? = some y) (hly : Loc X.env.scope y) (hfy : X.fn y = true ∨ X.env.scope.names.lookup y = some .local) (hln : X.env.kindOf n = some .local) (hgb : Gl X b) (hbd : (b == ("__debug__" : Str)) = false)
    (hv : Vis X.env.scope n) (hd : (n == ("__debug__" : Str)) = false) (hcd : (n == ("__classdict__" : Str)) = false) (hgw : Gl X wn) (hwd : (wn == ("__debug__" : Str)) = false)
    (hew : starEach [.Name n p2] X.env = (false, eval (.Name n p2) X.env) :: starEach [] X.env := by rfl) (hpw : (backTo pw (starEach [] X.env)).any (·.1) = false := by rfl)
    (hgx : Gl X x := by rfl) (hdb : (x == ("__debug__" : Str)) = false := by decide) (he : starEach (e :: es) X.env = (false, eval e X.env) :: starEach es X.env := by rfl) (hpl : (backTo pos (starEach es X.env)).any (·.1) = false := by rfl)
    (hsw : swapsWith (.Call (.Name x p) (e :: es) [] pos) (some (.Name y py)) pa.line X.env = pure false := by rfl) :
    PSX X W [] [] .S (.Try [.Assign [.Name y py] (.Call (.Name x p) (e :: es) [] pos) pa] [.ExceptHandler (some (.Name b np)) (some n) [.Return (some (.Tuple [.Call (.Name wn p1) [.Name n p2] [] pw, .Constant .none j p3] k2 p4)) p5] pos'] [] [] pos'') (pTryW i iy m ⟨g, f⟩ ⟨ga, fs⟩ cs wd) := by
  obtain ⟨fa, fd, ps, FF, hm, hk, hb⟩ := F.ex
  obtain ⟨B, hB, hC⟩ := WE'.ex
  have suite : ∀ (a : Addr) (oe : Obj) (cls : Value) (d : Option Addr) (pn : List (Addr × Obj)), L2N.Zn cls d oe → (∃ vs, oe.data = .fields vs) → PSs (X.suite a ((a, oe) :: pn)) [.Return (some (.Tuple [.Call (.Name wn p1) [.Name n p2] [] pw, .Constant .none j p3] k2 p4)) p5] (tsW X.K X.mg ds cs wd i a cls d) := fun a oe cls d pn hz hf => by
    refine ⟨fun pins s σ H D I h => ?_⟩
    obtain ⟨C, c, rfl, rfl, hc, ew, h1, h2⟩ := h
    exact (ps_word FW hr' (hf.imp fun vs z => ⟨z, hz.2.2 vs z⟩) ew hc hz.zc hi hv hd hcd hgw hwd hew hpw).run pins s σ H D I ⟨h1, h2⟩
  refine ps_imp (L2N.ps_try_as (i := i) hs hf hN hi hln ⟨hgb, hbd, .inl hB⟩ takes0N (fun Wt pn xe tk' _ => pss_one (ps_set (i := iy) hN hiy hly (pe_callS FF hr hgx hm hk hb (fun σ => L2N.passAt tk' σ) (ha pn xe) hdb he hpl) hsw hfy)) suite) fun D σ H ⟨G0, H0, ρ, G, E, r, ⟨h0, h1, h2, h3, h4, h5⟩, kk, l⟩ => ?_
  show tCallS _ _ _ σ H _
  refine ⟨_, _, _, _, r, h1, fun us G1 H1 e1 ru => ?_⟩
  refine ⟨G1, fs ρ, e1.gh, ru, h2, h3, fun u G2 H2 e2 hu => ?_, fun c' C' H' a1 b1 s1 => ?_⟩
  · have e12 := e1.trans e2
    by_cases hc : ∃ c, f (fs ρ) = .exc c
    · obtain ⟨c, hc⟩ := hc
      exfalso
      have hu : Res .S X.K G1 H1 G2 H2 (f (fs ρ)) u := hu
      rw [hc] at hu
      cases (show Rep X.K G2 (.exc c) u from hu)
    · refine kk _ _ G2 H2 e12.gg ?_ (h5 fun c z => hc ⟨c, z⟩)
      exact (r.on e12).setS (o := []) hu
  · obtain ⟨hc, hE⟩ := h4 c' a1
    obtain ⟨C, ew, er⟩ := hC c' hc
    have eC : C' = C := by
      have := b1.symm.trans ew.e.g
      injection this with z
      injection z
    subst eC
    refine ⟨true, er.exm, fun _ a na => ⟨C', c', rfl, rfl, hc, ew, List.getElem?_set_self (by rw [r.len]; exact h0), fun H2 tp s2 np => ?_⟩, fun z => by cases z⟩
    have eh : Ext G H G H2 := ⟨Same.refl _, r.ext.gh.trans (e1.hh.trans (s1.trans s2)), e1.hh.trans (s1.trans s2), fun _ _ _ z => z⟩
    exact l.1 _ _ _ _ (r.ext.trans (eh.trans (Ext.lay (u := .tup [.str (wd c'), .non]) eh.gh np))) (Rep.tup upd_same (.cons (.str _) (.cons .non .nil))) hE
end

theorem WErrs.err {K : PySem.W.Frag} {mg : Str → Option Value} {ds cs : List Str} {b : Str} (E : WErrs K mg ds cs b) (c : Str) (h : c ∈ cs) : ∃ C, ErrC K mg c C := by
  obtain ⟨B, _, k⟩ := E.ex
  obtain ⟨C, e, _⟩ := k c h
  exact ⟨C, e.e⟩
theorem kit_self (K : PySem.W.Frag) (C : Addr) : PySem.W.kitOne K (.ref C) (.ref C) = some true := by
  unfold PySem.W.kitOne
  rw [if_pos (beq_self_eq_true _)]
theorem werrs3_of {K : PySem.W.Frag} {h : Heap} {mg : Str → Option Value} (X : K.In h) (G : h.Ns mainGlobals mg) {c1 c2 c3 d4 d5 b : Str} {C1 C2 C3 D4 D5 B : Addr} (e1 : ErrC K mg c1 C1) (e2 : ErrC K mg c2 C2) (e3 : ErrC K mg c3 C3)
    (a4 : PySem.W.nsIn K mainGlobals d4 = some (some (.ref D4))) (a5 : PySem.W.nsIn K mainGlobals d5 = some (some (.ref D5))) (aB : PySem.W.nsIn K mainGlobals b = some (some (.ref B)))
    (k12 : PySem.W.kitOne K (.ref C1) (.ref C2) = some false) (k13 : PySem.W.kitOne K (.ref C1) (.ref C3) = some false) (k14 : PySem.W.kitOne K (.ref C1) (.ref D4) = some false) (k15 : PySem.W.kitOne K (.ref C1) (.ref D5) = some false)
    (k21 : PySem.W.kitOne K (.ref C2) (.ref C1) = some false) (k23 : PySem.W.kitOne K (.ref C2) (.ref C3) = some false) (k24 : PySem.W.kitOne K (.ref C2) (.ref D4) = some false) (k25 : PySem.W.kitOne K (.ref C2) (.ref D5) = some false)
    (k31 : PySem.W.kitOne K (.ref C3) (.ref C1) = some false) (k32 : PySem.W.kitOne K (.ref C3) (.ref C2) = some false) (k34 : PySem.W.kitOne K (.ref C3) (.ref D4) = some false) (k35 : PySem.W.kitOne K (.ref C3) (.ref D5) = some false)
    (s1 : PySem.W.subIn K (.ref C1) (.ref B) = some true) (s2 : PySem.W.subIn K (.ref C2) (.ref B) = some true) (s3 : PySem.W.subIn K (.ref C3) (.ref B) = some true) (bB : PySem.W.subIn K (.ref B) (.type "BaseException") = some true)
    (hB : PySem.W.hasDictIn K B = true) (tB : PySem.W.typeIn K (.ref B) = some (.type "type"))
    (n : (c1 ≠ c2 ∧ c1 ≠ c3 ∧ c1 ≠ d4 ∧ c1 ≠ d5) ∧ (c2 ≠ c1 ∧ c2 ≠ c3 ∧ c2 ≠ d4 ∧ c2 ≠ d5) ∧ (c3 ≠ c1 ∧ c3 ≠ c2 ∧ c3 ≠ d4 ∧ c3 ≠ d5)) : WErrs K mg [c1, c2, c3, d4, d5] [c1, c2, c3] b := by
  obtain ⟨⟨m1, m2, m3, m4⟩, ⟨m5, m6, m7, m8⟩, m9, m10, m11, m12⟩ := n
  have g4 := PySem.W.mg_of X G a4
  have g5 := PySem.W.mg_of X G a5
  have gB := PySem.W.mg_of X G aB
  have no : ∀ {c d : Str} {C D : Addr}, PySem.W.kitOne K (.ref C) (.ref D) = some false → c ≠ d → PySem.W.kitOne K (.ref C) (.ref D) = some (decide (c = d)) := fun k m => by rw [k, decide_eq_false m]
  have yes : ∀ (c : Str) (C : Addr), PySem.W.kitOne K (.ref C) (.ref C) = some (decide (c = c)) := fun c C => by rw [kit_self, decide_eq_true rfl]
  refine ⟨B, gB, fun c hc => ?_⟩
  simp only [List.mem_cons, List.not_mem_nil, or_false] at hc
  rcases hc with rfl | rfl | rfl
  · refine ⟨C1, ⟨e1, fun d hd => ?_⟩, ⟨gB, s1, bB, hB, tB⟩⟩
    simp only [List.mem_cons, List.not_mem_nil, or_false] at hd
    rcases hd with rfl | rfl | rfl | rfl | rfl
    · exact ⟨C1, e1.g, yes _ _⟩
    · exact ⟨C2, e2.g, no k12 m1⟩
    · exact ⟨C3, e3.g, no k13 m2⟩
    · exact ⟨D4, g4, no k14 m3⟩
    · exact ⟨D5, g5, no k15 m4⟩
  · refine ⟨C2, ⟨e2, fun d hd => ?_⟩, ⟨gB, s2, bB, hB, tB⟩⟩
    simp only [List.mem_cons, List.not_mem_nil, or_false] at hd
    rcases hd with rfl | rfl | rfl | rfl | rfl
    · exact ⟨C1, e1.g, no k21 m5⟩
    · exact ⟨C2, e2.g, yes _ _⟩
    · exact ⟨C3, e3.g, no k23 m6⟩
    · exact ⟨D4, g4, no k24 m7⟩
    · exact ⟨D5, g5, no k25 m8⟩
  · refine ⟨C3, ⟨e3, fun d hd => ?_⟩, ⟨gB, s3, bB, hB, tB⟩⟩
    simp only [List.mem_cons, List.not_mem_nil, or_false] at hd
    rcases hd with rfl | rfl | rfl | rfl | rfl
    · exact ⟨C1, e1.g, no k31 m9⟩
    · exact ⟨C2, e2.g, no k32 m10⟩
    · exact ⟨C3, e3.g, yes _ _⟩
    · exact ⟨D4, g4, no k34 m11⟩
    · exact ⟨D5, g5, no k35 m12⟩
end PL

namespace PL
open PySem PySem.Spec PyProof.Rows L2

/-! sizes, by powers of two -/
def Sz (n : Nat) (x : Int) : Prop := x.natAbs < 2 ^ n
theorem Sz.mono {m n : Nat} {x : Int} (h : Sz m x) (k : m ≤ n) : Sz n x := Nat.lt_of_lt_of_le h (Nat.pow_le_pow_right (by decide) k)
theorem Sz.mul {m n : Nat} {x y : Int} (a : Sz m x) (b : Sz n y) : Sz (m + n) (x * y) := wide_lt a b
theorem Sz.add {n : Nat} {x y : Int} (a : Sz n x) (b : Sz n y) : Sz (n + 1) (x + y) := by
  have h := Int.natAbs_add_le x y
  unfold Sz at *
  rw [Nat.pow_succ]
  omega
theorem Sz.neg {n : Nat} {x : Int} (a : Sz n x) : Sz n (-x) := by
  unfold Sz
  rw [Int.natAbs_neg]
  exact a
theorem Sz.sub {n : Nat} {x y : Int} (a : Sz n x) (b : Sz n y) : Sz (n + 1) (x - y) := by
  rw [Int.sub_eq_add_neg]
  exact a.add b.neg
theorem Sz.zero (n : Nat) : Sz n 0 := by
  unfold Sz
  exact Nat.two_pow_pos n
theorem Sz.one : Sz 1 1 := by
  unfold Sz
  decide
theorem Sz.pow {n : Nat} {x : Int} (a : Sz n x) : ∀ k : Nat, Sz (n * k + 1) (x ^ k)
  | 0 => by
    rw [Int.pow_zero]
    exact Sz.one.mono (by omega)
  | k + 1 => by
    rw [Int.pow_succ]
    exact ((Sz.pow a k).mul a).mono (by rw [Nat.mul_succ]; omega)
theorem Sz.W {m n : Nat} {x y : Int} (a : Sz m x) (b : Sz n y) (h : m + n ≤ 999000) : CMulW x y :=
  wide_mul (a.mono (Nat.le_succ m)) (b.mono (Nat.le_succ n)) (Nat.succ_pos _) (Nat.succ_pos _) (by omega)
theorem Sz.D {n : Nat} {x y : Int} (a : Sz n x) (h0 : x ≠ 0) (h : n ≤ 8990) : CDivZ y x :=
  ⟨h0, Nat.lt_of_lt_of_le (PySem.Flt.log2_lt_of (Nat.succ_pos n) (a.mono (Nat.le_succ n))) (by omega)⟩
theorem Sz.le {n : Nat} {x y : Int} (a : Sz n y) (h : x.natAbs ≤ y.natAbs) : Sz n x := Nat.lt_of_le_of_lt h a
theorem Sz.of {n : Nat} {x : Int} (h : -(2 ^ n) < x) (h2 : x < 2 ^ n) : Sz n x := by
  have e : ((2 ^ n : Nat) : Int) = 2 ^ n := by simp
  unfold Sz
  rw [← e] at h h2
  omega

/-! floor division and its rest -/
theorem fmod_pos {a b : Int} (h : 0 < b) : a.fmod b = a % b := Int.fmod_eq_emod_of_nonneg a (by omega)
theorem fdiv_pos {a b : Int} (h : 0 < b) : a.fdiv b = a / b := Int.fdiv_eq_ediv_of_nonneg a (by omega)
theorem fmod_bd {a b : Int} (h : 0 < b) : 0 ≤ a.fmod b ∧ a.fmod b < b := by
  rw [fmod_pos h]
  exact ⟨Int.emod_nonneg a (by omega), Int.emod_lt_of_pos a h⟩
theorem fmod_neg_bd {a b : Int} (h : b < 0) : b < a.fmod b ∧ a.fmod b ≤ 0 := by
  rw [Int.fmod_eq_emod]
  have h1 := Int.emod_nonneg a (show b ≠ 0 by omega)
  have h2 := Int.emod_lt_of_neg a h
  by_cases hd : 0 ≤ b ∨ b ∣ a
  · rw [if_pos hd]
    have hz : a % b = 0 := by
      rcases hd with z | z
      · omega
      · exact Int.emod_eq_zero_of_dvd z
    omega
  · rw [if_neg hd]
    have hz : a % b ≠ 0 := fun z => hd (.inr (Int.dvd_of_emod_eq_zero z))
    omega
theorem fmod_lt {a b : Int} (h : b ≠ 0) : (a.fmod b).natAbs < b.natAbs := by
  rcases Int.lt_or_gt_of_ne h with z | z
  · have := fmod_neg_bd (a := a) z
    omega
  · have := fmod_bd (a := a) z
    omega
theorem gcd_fmod (a b : Int) : Int.gcd b (a.fmod b) = Int.gcd a b := by
  rw [Int.fmod_def, Int.gcd_sub_mul_left_right, Int.gcd_comm]
theorem gcd_sz {n : Nat} {a b : Int} (h : b ≠ 0) (s : Sz n b) : Sz n (Int.gcd a b : Int) :=
  s.le (by rw [Int.natAbs_natCast]; exact Int.gcd_le_natAbs_right a h)
theorem fdiv_dvd {a b : Int} (h : b ∣ a) : a.fdiv b = a / b := Int.fdiv_eq_ediv_of_dvd h

/-! parts -/
def prt (a b : Int) : Int × Int := if b < 0 then (-(a / (Int.gcd a b : Int)), -(b / (Int.gcd a b : Int))) else (a / (Int.gcd a b : Int), b / (Int.gcd a b : Int))
def sgn1 (b : Int) : Int := if b < 0 then -1 else 1
theorem prt_eq (a b : Int) : prt a b = (a.fdiv (if b < 0 then 0 - (Int.gcd a b : Int) else (Int.gcd a b : Int)), b.fdiv (if b < 0 then 0 - (Int.gcd a b : Int) else (Int.gcd a b : Int))) := by
  have h1 := Int.gcd_dvd_left a b
  have h2 := Int.gcd_dvd_right a b
  unfold prt
  split
  · rw [Int.zero_sub, fdiv_dvd (Int.neg_dvd.mpr h1), fdiv_dvd (Int.neg_dvd.mpr h2), Int.ediv_neg, Int.ediv_neg]
  · rw [fdiv_dvd h1, fdiv_dvd h2]
theorem gcd_pos {a b : Int} (h : b ≠ 0) : (0 : Int) < (Int.gcd a b : Int) := by
  have := Int.gcd_pos_of_ne_zero_right a h
  omega
/-- a part: what it is -/
structure IsPart (p q : Int) : Prop where
  pos : 0 < q
  low : Int.gcd p q = 1
theorem prt_part {a b : Int} (h : b ≠ 0) : IsPart (prt a b).1 (prt a b).2 := by
  have hg := gcd_pos (a := a) h
  have h2 := Int.gcd_dvd_right a b
  have hc : Int.gcd (a / (Int.gcd a b : Int)) (b / (Int.gcd a b : Int)) = 1 := Int.gcd_ediv_gcd_ediv_gcd (by omega)
  obtain ⟨k, hk⟩ := h2
  have hd : b / (Int.gcd a b : Int) = k := by
    have e : b / (Int.gcd a b : Int) = ((Int.gcd a b : Int) * k) / (Int.gcd a b : Int) := by rw [← hk]
    rw [e, Int.mul_ediv_cancel_left k (by omega)]
  unfold prt
  split
  · rename_i hb
    refine ⟨?_, by rw [Int.neg_gcd, Int.gcd_neg]; exact hc⟩
    show 0 < -(b / (Int.gcd a b : Int))
    rw [hd]
    have : ¬ 0 ≤ k := fun z => by
      have := Int.mul_nonneg (Int.le_of_lt hg) z
      omega
    omega
  · rename_i hb
    refine ⟨?_, hc⟩
    show 0 < b / (Int.gcd a b : Int)
    rw [hd]
    have : ¬ k ≤ 0 := fun z => by
      have := Int.mul_nonneg (Int.le_of_lt hg) (show 0 ≤ -k by omega)
      rw [Int.mul_neg, ← hk] at this
      omega
    omega
theorem ediv_mul_swap {a b g : Int} (ha : g ∣ a) (hb : g ∣ b) : a / g * b = a * (b / g) := by
  by_cases hg : g = 0
  · subst hg
    rw [Int.ediv_zero, Int.ediv_zero, Int.zero_mul, Int.mul_zero]
  · obtain ⟨x, rfl⟩ := ha
    obtain ⟨y, rfl⟩ := hb
    rw [Int.mul_ediv_cancel_left x hg, Int.mul_ediv_cancel_left y hg, Int.mul_left_comm, Int.mul_assoc]
theorem prt_cross (a b : Int) : (prt a b).1 * b = a * (prt a b).2 := by
  have h1 := Int.gcd_dvd_left a b
  have h2 := Int.gcd_dvd_right a b
  have e := ediv_mul_swap h1 h2
  unfold prt
  split
  · show -(a / (Int.gcd a b : Int)) * b = a * -(b / (Int.gcd a b : Int))
    rw [Int.neg_mul, Int.mul_neg, e]
  · exact e
theorem ediv_natAbs_le (a : Int) (n : Nat) : (a / (n : Int)).natAbs ≤ a.natAbs + 0 ∨ n = 0 := by
  by_cases hn : n = 0
  · exact .inr hn
  · left
    exact Int.natAbs_ediv_le_natAbs a n
theorem prt_sz1 {n : Nat} {a : Int} (b : Int) (s : Sz n a) : Sz n (prt a b).1 := by
  have h := Int.natAbs_ediv_le_natAbs a (Int.gcd a b : Int)
  unfold prt
  split
  · exact (s.le h).neg
  · exact s.le h
theorem prt_sz2 {n : Nat} (a : Int) {b : Int} (s : Sz n b) : Sz n (prt a b).2 := by
  have h := Int.natAbs_ediv_le_natAbs b (Int.gcd a b : Int)
  unfold prt
  split
  · exact (s.le h).neg
  · exact s.le h
theorem cop_dvd {k a b : Int} (h : k ∣ a * b) (c : Int.gcd k a = 1) : k ∣ b := by
  have h' : k.natAbs ∣ a.natAbs * b.natAbs := by
    rw [← Int.natAbs_mul]
    exact Int.natAbs_dvd_natAbs.mpr h
  exact Int.natAbs_dvd_natAbs.mp (Nat.Coprime.dvd_of_dvd_mul_left (show Nat.gcd k.natAbs a.natAbs = 1 from c) h')
/-- two parts that tell one number are one -/
theorem part_eq {p q r s : Int} (h1 : IsPart p q) (h2 : IsPart r s) (h : p * s = r * q) : p = r ∧ q = s := by
  have a1 : q ∣ s := by
    have : q ∣ p * s := ⟨r, by rw [h, Int.mul_comm]⟩
    exact cop_dvd this (by rw [Int.gcd_comm]; exact h1.low)
  have a2 : s ∣ q := by
    have : s ∣ r * q := ⟨p, by rw [← h, Int.mul_comm]⟩
    exact cop_dvd this (by rw [Int.gcd_comm]; exact h2.low)
  have e : q = s := Int.dvd_antisymm (Int.le_of_lt h1.pos) (Int.le_of_lt h2.pos) a1 a2
  subst e
  exact ⟨Int.eq_of_mul_eq_mul_right (Int.ne_of_gt h1.pos) h, rfl⟩
theorem prt_self {p q : Int} (h : IsPart p q) : prt p q = (p, q) := by
  have hq := h.pos
  unfold prt
  rw [if_neg (by omega), h.low]
  simp
end PL
namespace PL
/-! the value of a row at p by q, all brought to one bottom -/
def hv : List Int → Int → Int → Int
  | [], _, _ => 0
  | c :: cs, p, q => c * q ^ cs.length + p * hv cs p q
theorem hv_sz {A B : Nat} {p q : Int} : ∀ (ns : List Int), (∀ c ∈ ns, Sz A c) → Sz B p → Sz B q → Sz (A + (B + 1) * ns.length) (hv ns p q)
  | [], _, _, _ => Sz.zero _
  | c :: cs, h, hp, hq => by
    have ih := hv_sz cs (fun x hx => h x (List.mem_cons_of_mem _ hx)) hp hq
    have h1 := (h c List.mem_cons_self).mul (hq.pow cs.length)
    have h2 := hp.mul ih
    have e : (B + 1) * (cs.length + 1) = (B + 1) * cs.length + B + 1 := by rw [Nat.mul_succ]; omega
    have e2 : B * cs.length + cs.length = (B + 1) * cs.length := by rw [Nat.add_mul, Nat.one_mul]
    by_cases h0 : cs.length = 0
    · have : cs = [] := List.length_eq_zero_iff.mp h0
      subst this
      have h3 : Sz A (c * q ^ 0) := by
        rw [Int.pow_zero, Int.mul_one]
        exact h c List.mem_cons_self
      show Sz _ (c * q ^ 0 + p * 0)
      rw [Int.mul_zero, Int.add_zero]
      exact h3.mono (by omega)
    · show Sz (A + (B + 1) * (cs.length + 1)) (c * q ^ cs.length + p * hv cs p q)
      rw [e]
      exact ((h1.mono (n := A + (B + 1) * cs.length + B) (by omega)).add (h2.mono (by omega))).mono (by omega)
end PL
namespace PL
open PySem PySem.Spec PyProof.Rows L2
theorem Dn {x j : Int} (h : decide (j ≠ 0 ∧ -(2 ^ 30) < j ∧ j < 2 ^ 30) = true) : CDivZ x j := by
  obtain ⟨h1, h2, h3⟩ := of_decide_eq_true h
  exact (Sz.of (n := 30) h2 h3).D h1 (by decide)
theorem Wn {i j : Int} (h : decide (-(2 ^ 100) < i ∧ i < 2 ^ 100 ∧ -(2 ^ 100) < j ∧ j < 2 ^ 100) = true) : CMulW i j := by
  obtain ⟨h1, h2, h3, h4⟩ := of_decide_eq_true h
  exact (Sz.of (n := 100) h1 h2).W (Sz.of (n := 100) h3 h4) (by decide)
theorem W20 : CMulW 2 (10 ^ 20) := Wn (by decide)
theorem W12 : CMulW 2 (10 ^ 12) := Wn (by decide)
theorem fmod_sz {x b : Int} {n : Nat} (h : 0 < b) (hb : b ≤ 2 ^ n) : Sz n (x.fmod b) := by
  have := fmod_bd (a := x) h
  exact Sz.of (by have : (0 : Int) < 2 ^ n := Int.pow_pos (by decide); omega) (by omega)
theorem fm1 {x : Int} {b : Int} (h : 0 < b) : 1 + x.fmod b ≠ 0 := by
  have := fmod_bd (a := x) h
  omega
theorem sl {n : Nat} (h : n ≤ 1000) : n ≤ sizeLine := Nat.le_of_lt (small1000 h)
theorem sl1 : 1 ≤ sizeLine := by decide
theorem sl2 : 2 ≤ sizeLine := by decide
theorem inR0 : inR 0 := ⟨by decide, by decide⟩
theorem inR1 : inR 1 := ⟨by decide, by decide⟩
theorem inRm : inR (-1) := ⟨by decide, by decide⟩
theorem SzL {n : Nat} {x : Int} (h : decide (-(2 ^ n) < x ∧ x < 2 ^ n) = true) : Sz n x := by
  obtain ⟨h1, h2⟩ := of_decide_eq_true h
  exact Sz.of h1 h2
end PL
namespace PL
open PySem PySem.Spec PyProof.Rows L2
/-! the law's own sum -/
def pw1 (p q : Int) (k : Nat) : Nat → Int → Int
  | 0, c => c
  | j + 1, c => if j < k then pw1 p q k j c * p else pw1 p q k j c * q
theorem pw1_eq (p q c : Int) (k : Nat) : ∀ j, pw1 p q k j c = c * p ^ (min j k) * q ^ (j - k)
  | 0 => by simp [pw1]
  | j + 1 => by
    unfold pw1
    rw [pw1_eq p q c k j]
    split
    · rename_i h
      rw [show min (j + 1) k = min j k + 1 by omega, show j + 1 - k = j - k by omega, Int.pow_succ]
      rw [Int.mul_assoc, Int.mul_comm (q ^ (j - k)) p, ← Int.mul_assoc, ← Int.mul_assoc]
    · rename_i h
      rw [show min (j + 1) k = min j k by omega, show j + 1 - k = j - k + 1 by omega, Int.pow_succ, Int.mul_assoc]
/-- the sum of the first k terms -/
def due (ns : List Int) (p q : Int) : Nat → Int
  | 0 => 0
  | k + 1 => due ns p q k + pw1 p q k (ns.length - 1) (ns.getD k 0)
theorem due_hv (ns : List Int) (p q : Int) : ∀ k, k ≤ ns.length → due ns p q k + p ^ k * hv (ns.drop k) p q = hv ns p q
  | 0, _ => by simp [due]
  | k + 1, h => by
    have ih := due_hv ns p q k (by omega)
    have hk : k < ns.length := by omega
    rw [List.drop_eq_getElem_cons hk] at ih
    rw [← ih, due, hv, pw1_eq, List.getD_eq_getElem?_getD, List.getElem?_eq_getElem hk, show min (ns.length - 1) k = k by omega, List.length_drop, show ns.length - 1 - k = ns.length - (k + 1) by omega]
    show due ns p q k + ns[k] * p ^ k * q ^ (ns.length - (k + 1)) + p ^ (k + 1) * hv (ns.drop (k + 1)) p q = due ns p q k + p ^ k * (ns[k] * q ^ (ns.length - (k + 1)) + p * hv (ns.drop (k + 1)) p q)
    rw [Int.pow_succ]
    grind
theorem due_all (ns : List Int) (p q : Int) : due ns p q ns.length = hv ns p q := by
  have := due_hv ns p q ns.length (Nat.le_refl _)
  rw [List.drop_length] at this
  simpa [hv] using this
theorem pw1_sz {A B : Nat} {p q c : Int} {k : Nat} (hc : Sz A c) (hp : Sz B p) (hq : Sz B q) : ∀ j, Sz (A + B * j) (pw1 p q k j c)
  | 0 => hc
  | j + 1 => by
    unfold pw1
    have ih := pw1_sz (k := k) hc hp hq j
    split
    · exact (ih.mul hp).mono (by rw [Nat.mul_succ]; omega)
    · exact (ih.mul hq).mono (by rw [Nat.mul_succ]; omega)
end PL
namespace PL
open PySem PySem.Spec PyProof.Rows L2
/-- a row, as a list or a tuple -/
def RowV (v : PV) (ns : List Int) : Prop := v = .list (ns.map PV.int) ∨ v = .tup (ns.map PV.int)
theorem RowV.el {v : PV} {ns : List Int} (h : RowV v ns) : elems v = ns.map PV.int := by rcases h with rfl | rfl <;> rfl
theorem RowV.sq {v : PV} {ns : List Int} (h : RowV v ns) : isSq v = true := by rcases h with rfl | rfl <;> rfl
theorem RowV.len {v : PV} {ns : List Int} (h : RowV v ns) : (elems v).length = ns.length := by rw [h.el, List.length_map]
theorem RowV.at {v : PV} {ns : List Int} (h : RowV v ns) {j : Nat} (hj : j < ns.length) : atI (elems v) (j : Int) = some (.int ns[j]) := by
  rw [h.el]
  exact atI_nat (by rw [List.getElem?_map, List.getElem?_eq_getElem hj]; rfl)
end PL

namespace PL
open PySem PySem.Spec PyProof.Rows L2

/-! rows as polynomials: the value at a whole number tells the row -/
def ev : List Int → Int → Int
  | [], _ => 0
  | c :: cs, t => c + t * ev cs t
theorem ev_app (t : Int) : ∀ xs ys : List Int, ev (xs ++ ys) t = ev xs t + t ^ xs.length * ev ys t
  | [], ys => by simp [ev]
  | x :: xs, ys => by
    show x + t * ev (xs ++ ys) t = x + t * ev xs t + t ^ (xs.length + 1) * ev ys t
    rw [ev_app t xs ys, Int.pow_succ]
    grind
theorem ev_snoc0 (t : Int) (xs : List Int) : ev (xs ++ [0]) t = ev xs t := by
  rw [ev_app]
  simp [ev]
theorem ev_map (c t : Int) : ∀ xs : List Int, ev (xs.map fun x => c * x) t = c * ev xs t
  | [] => by simp [ev]
  | x :: xs => by
    show c * x + t * ev (xs.map fun x => c * x) t = c * (x + t * ev xs t)
    rw [ev_map c t xs]
    grind
theorem ev_map' (c t : Int) (xs : List Int) : ev (xs.map fun x => x * c) t = ev xs t * c := by
  have : (fun x : Int => x * c) = fun x => c * x := by
    funext x
    exact Int.mul_comm _ _
  rw [this, ev_map, Int.mul_comm]
theorem ev_zero (t : Int) : ∀ n : Nat, ev (List.replicate n 0) t = 0
  | 0 => rfl
  | n + 1 => by
    show 0 + t * ev (List.replicate n 0) t = 0
    rw [ev_zero t n]
    simp
/-- sums of rows of one length -/
def addL (xs ys : List Int) : List Int := List.zipWith (fun a b => a + b) xs ys
theorem addL_len {xs ys : List Int} (h : xs.length = ys.length) : (addL xs ys).length = xs.length := by
  unfold addL
  rw [List.length_zipWith]
  omega
theorem ev_addL (t : Int) : ∀ {xs ys : List Int}, xs.length = ys.length → ev (addL xs ys) t = ev xs t + ev ys t
  | [], [], _ => by simp [addL, ev]
  | x :: xs, y :: ys, h => by
    have ih := ev_addL t (xs := xs) (ys := ys) (by simpa using h)
    show x + y + t * ev (addL xs ys) t = x + t * ev xs t + (y + t * ev ys t)
    rw [ih]
    grind
theorem addL_get {xs ys : List Int} {i : Nat} (h1 : i < xs.length) (h2 : i < ys.length) : (addL xs ys)[i]? = some (xs[i] + ys[i]) := by
  unfold addL
  rw [List.getElem?_zipWith, List.getElem?_eq_getElem h1, List.getElem?_eq_getElem h2]
theorem mem_addL {xs ys : List Int} {c : Int} (h : c ∈ addL xs ys) : ∃ a ∈ xs, ∃ b ∈ ys, c = a + b := by
  obtain ⟨i, hi, rfl⟩ := List.mem_iff_getElem.mp h
  unfold addL at hi ⊢
  rw [List.getElem_zipWith]
  rw [List.length_zipWith] at hi
  exact ⟨_, List.getElem_mem (by omega), _, List.getElem_mem (by omega), rfl⟩
theorem ev_set (t d : Int) : ∀ {xs : List Int} {i : Nat} (h : i < xs.length), ev (xs.set i (xs[i]'h + d)) t = ev xs t + d * t ^ i
  | x :: xs, 0, _ => by
    show x + d + t * ev xs t = x + t * ev xs t + d * t ^ 0
    rw [Int.pow_zero]
    grind
  | x :: xs, i + 1, h => by
    have ih := ev_set t d (xs := xs) (i := i) (by simpa using h)
    have h' : i < xs.length := by simpa using h
    show x + t * ev (xs.set i (xs[i] + d)) t = x + t * ev xs t + d * t ^ (i + 1)
    rw [ih, Int.pow_succ]
    grind
theorem ev_take (t : Int) {xs : List Int} {k : Nat} (h : k < xs.length) : ev (xs.take (k + 1)) t = ev (xs.take k) t + xs[k] * t ^ k := by
  rw [List.take_add_one, List.getElem?_eq_getElem h, ev_app, List.length_take, show min k xs.length = k by omega]
  show ev (xs.take k) t + t ^ k * (xs[k] + t * 0) = _
  grind
/-- a row whose value is nought at all great numbers is nought -/
theorem ev_nought : ∀ (xs : List Int) (N : Nat), (∀ t : Nat, N ≤ t → ev xs (t : Int) = 0) → ∀ c ∈ xs, c = 0
  | [], _, _, c, hc => by simp at hc
  | x :: xs, N, h, c, hc => by
    have hx : x = 0 := by
      have h1 := h (N + x.natAbs + 1) (by omega)
      have h2 : x + ((N + x.natAbs + 1 : Nat) : Int) * ev xs ((N + x.natAbs + 1 : Nat) : Int) = 0 := h1
      have h3 : ((N + x.natAbs + 1 : Nat) : Int) ∣ x := ⟨-ev xs ((N + x.natAbs + 1 : Nat) : Int), by rw [Int.mul_neg]; omega⟩
      have h4 := Int.natAbs_dvd_natAbs.mpr h3
      rw [Int.natAbs_natCast] at h4
      by_cases hz : x.natAbs = 0
      · omega
      · have := Nat.le_of_dvd (by omega) h4
        omega
    have ih := ev_nought xs (N + 1) fun t ht => by
      have h1 : x + (t : Int) * ev xs (t : Int) = 0 := h t (by omega)
      rw [hx, Int.zero_add] at h1
      rcases Int.mul_eq_zero.mp h1 with z | z
      · omega
      · exact z
    rcases List.mem_cons.mp hc with rfl | hc
    · exact hx
    · exact ih c hc
theorem ev_ext {xs ys : List Int} (hl : xs.length = ys.length) (N : Nat) (h : ∀ t : Nat, N ≤ t → ev xs (t : Int) = ev ys (t : Int)) : xs = ys := by
  have hn : (ys.map fun x => (-1) * x).length = xs.length := by rw [List.length_map, hl]
  have h0 := ev_nought (addL xs (ys.map fun x => (-1) * x)) N fun t ht => by
    rw [ev_addL _ hn.symm, ev_map, h t ht]
    omega
  refine List.ext_getElem hl fun i h1 h2 => ?_
  have hm : xs[i] + (ys.map fun x => (-1) * x)[i]'(by omega) ∈ addL xs (ys.map fun x => (-1) * x) := List.mem_of_getElem? (addL_get h1 (by omega))
  have := h0 _ hm
  rw [List.getElem_map] at this
  omega

/-! a row times a pair -/
def jn (xs : List Int) (a b : Int) : List Int := addL ((xs.map fun x => x * a) ++ [0]) (0 :: xs.map fun x => x * b)
theorem jn_len (xs : List Int) (a b : Int) : (jn xs a b).length = xs.length + 1 := by
  unfold jn
  rw [addL_len (by simp)]
  simp
theorem ev_jn (xs : List Int) (a b t : Int) : ev (jn xs a b) t = ev xs t * (a + b * t) := by
  unfold jn
  rw [ev_addL t (by simp), ev_snoc0, ev_map' a t xs]
  show _ + (0 + t * ev (xs.map fun x => x * b) t) = _
  rw [ev_map' b t xs]
  grind
theorem jn_sz {A B : Nat} {xs : List Int} {a b : Int} (h : ∀ c ∈ xs, Sz A c) (ha : Sz B a) (hb : Sz B b) : ∀ c ∈ jn xs a b, Sz (A + B + 1) c := by
  intro c hc
  obtain ⟨x, hx, y, hy, rfl⟩ := mem_addL hc
  have s1 : Sz (A + B) x := by
    rcases List.mem_append.mp hx with hx | hx
    · obtain ⟨z, hz, rfl⟩ := List.mem_map.mp hx
      exact (h z hz).mul ha
    · have : x = 0 := by simpa using hx
      subst this
      exact Sz.zero _
  have s2 : Sz (A + B) y := by
    rcases List.mem_cons.mp hy with rfl | hy
    · exact Sz.zero _
    · obtain ⟨z, hz, rfl⟩ := List.mem_map.mp hy
      exact (h z hz).mul hb
  exact s1.add s2
/-! products -/
def pmul : List Int → List Int → List Int
  | [], ys => List.replicate (ys.length - 1) 0
  | [x], ys => ys.map fun y => x * y
  | x :: x' :: xs, ys => addL ((ys.map fun y => x * y) ++ List.replicate (xs.length + 1) 0) (0 :: pmul (x' :: xs) ys)
theorem pmul_len : ∀ {xs ys : List Int}, xs ≠ [] → ys ≠ [] → (pmul xs ys).length = xs.length + ys.length - 1
  | [], _, h, _ => absurd rfl h
  | [x], ys, _, _ => by simp [pmul]
  | x :: x' :: xs, ys, _, h => by
    have ih := pmul_len (xs := x' :: xs) (ys := ys) (by simp) h
    have hy : 0 < ys.length := List.length_pos_iff.mpr h
    unfold pmul
    rw [addL_len (by simp only [List.length_append, List.length_map, List.length_replicate, List.length_cons, ih]; omega)]
    simp only [List.length_append, List.length_map, List.length_replicate, List.length_cons]
    omega
theorem ev_pmul (t : Int) : ∀ {xs ys : List Int}, xs ≠ [] → ys ≠ [] → ev (pmul xs ys) t = ev xs t * ev ys t
  | [], _, h, _ => absurd rfl h
  | [x], ys, _, _ => by
    show ev (ys.map fun y => x * y) t = (x + t * 0) * ev ys t
    rw [ev_map]
    grind
  | x :: x' :: xs, ys, _, h => by
    have ih := ev_pmul t (xs := x' :: xs) (ys := ys) (by simp) h
    have il := pmul_len (xs := x' :: xs) (ys := ys) (by simp) h
    have hy : 0 < ys.length := List.length_pos_iff.mpr h
    unfold pmul
    rw [ev_addL t (by simp only [List.length_append, List.length_map, List.length_replicate, List.length_cons, il]; omega), ev_app, ev_zero, ev_map]
    show _ + (0 + t * ev (pmul (x' :: xs) ys) t) = (x + t * ev (x' :: xs) t) * ev ys t
    rw [ih]
    grind
theorem pmul_sz {A B : Nat} : ∀ {xs ys : List Int}, (∀ c ∈ xs, Sz A c) → (∀ c ∈ ys, Sz B c) → ∀ c ∈ pmul xs ys, Sz (A + B + xs.length) c
  | [], ys, _, _, c, hc => by
    have : c = 0 := (List.mem_replicate.mp hc).2
    subst this
    exact Sz.zero _
  | [x], ys, hx, hy, c, hc => by
    obtain ⟨y, h, rfl⟩ := List.mem_map.mp hc
    exact ((hx x (by simp)).mul (hy y h)).mono (by omega)
  | x :: x' :: xs, ys, hx, hy, c, hc => by
    have ih := pmul_sz (xs := x' :: xs) (ys := ys) (fun c h => hx c (List.mem_cons_of_mem _ h)) hy
    unfold pmul at hc
    obtain ⟨a, ha, b, hb, rfl⟩ := mem_addL hc
    have s1 : Sz (A + B) a := by
      rcases List.mem_append.mp ha with ha | ha
      · obtain ⟨z, hz, rfl⟩ := List.mem_map.mp ha
        exact (hx x (by simp)).mul (hy z hz)
      · have : a = 0 := (List.mem_replicate.mp ha).2
        subst this
        exact Sz.zero _
    have s2 : Sz (A + B + (x' :: xs).length) b := by
      rcases List.mem_cons.mp hb with rfl | hb
      · exact Sz.zero _
      · exact ih b hb
    exact (Sz.add (s1.mono (by omega)) s2).mono (by simp only [List.length_cons]; omega)
theorem jn_pmul {xs : List Int} (a b : Int) (h : xs ≠ []) : jn xs a b = pmul xs [a, b] := by
  have hl : 0 < xs.length := List.length_pos_iff.mpr h
  refine ev_ext (by rw [jn_len, pmul_len h (by simp)]; simp) 0 fun t _ => ?_
  rw [ev_jn, ev_pmul _ h (by simp)]
  show _ = ev xs t * (a + t * (b + t * 0))
  grind
/-! the row as it is seen from a stretch -/
def pwl (h : Int) : Nat → List Int
  | 0 => [1]
  | m + 1 => (jn (pwl h m) 1 1).map fun x => h * x
theorem pwl_len (h : Int) : ∀ m, (pwl h m).length = m + 1
  | 0 => rfl
  | m + 1 => by rw [pwl, List.length_map, jn_len, pwl_len h m]
theorem ev_pwl (h t : Int) : ∀ m, ev (pwl h m) t = (h + h * t) ^ m
  | 0 => by simp [pwl, ev]
  | m + 1 => by
    rw [pwl, ev_map, ev_jn, ev_pwl h t m, Int.pow_succ]
    grind
theorem pwl_sz {B : Nat} {h : Int} (hh : Sz B h) : ∀ m, ∀ c ∈ pwl h m, Sz (1 + (B + 2) * m) c
  | 0, c, hc => by
    have : c = 1 := by simpa [pwl] using hc
    subst this
    exact Sz.one
  | m + 1, c, hc => by
    rw [pwl] at hc
    obtain ⟨x, hx, rfl⟩ := List.mem_map.mp hc
    have := jn_sz (pwl_sz hh m) Sz.one Sz.one x hx
    exact (hh.mul this).mono (by rw [Nat.mul_succ]; omega)
def trn : List Int → Int → Int → Int → List Int
  | [], _, _, _ => []
  | [c], _, _, _ => [c]
  | c :: c' :: cs, b, e, h => addL (jn (trn (c' :: cs) b e h) b e) ((pwl h (cs.length + 1)).map fun x => c * x)
theorem trn_len : ∀ (ns : List Int) (b e h : Int), (trn ns b e h).length = ns.length
  | [], _, _, _ => rfl
  | [c], _, _, _ => rfl
  | c :: c' :: cs, b, e, h => by
    have ih := trn_len (c' :: cs) b e h
    unfold trn
    rw [addL_len (by rw [jn_len, ih, List.length_map, pwl_len]; simp), jn_len, ih]
    simp
theorem ev_trn (t : Int) : ∀ (ns : List Int) (b e h : Int), ev (trn ns b e h) t = hv ns (b + e * t) (h + h * t)
  | [], _, _, _ => rfl
  | [c], b, e, h => by
    show c + t * 0 = c * (h + h * t) ^ 0 + (b + e * t) * 0
    rw [Int.pow_zero]
    omega
  | c :: c' :: cs, b, e, h => by
    have ih := ev_trn t (c' :: cs) b e h
    unfold trn
    rw [ev_addL t (by rw [jn_len, trn_len, List.length_map, pwl_len]; simp), ev_jn, ih, ev_map, ev_pwl]
    show _ = c * (h + h * t) ^ (cs.length + 1) + (b + e * t) * hv (c' :: cs) (b + e * t) (h + h * t)
    grind
theorem trn_sz {A B : Nat} {b e h : Int} (hb : Sz B b) (he : Sz B e) (hh : Sz B h) : ∀ (ns : List Int), (∀ c ∈ ns, Sz A c) → ∀ c ∈ trn ns b e h, Sz (A + 1 + (B + 3) * ns.length) c
  | [], _, c, hc => by simp [trn] at hc
  | [x], hx, c, hc => by
    have : c = x := by simpa [trn] using hc
    subst this
    exact (hx c (by simp)).mono (by simp only [List.length_cons, List.length_nil]; omega)
  | x :: x' :: xs, hx, c, hc => by
    have ih := trn_sz hb he hh (x' :: xs) fun c h => hx c (List.mem_cons_of_mem _ h)
    unfold trn at hc
    obtain ⟨a, ha, d, hd, rfl⟩ := mem_addL hc
    obtain ⟨y, hy, rfl⟩ := List.mem_map.mp hd
    have s1 := jn_sz ih hb he a ha
    have s2 := (hx x (by simp)).mul (pwl_sz hh (xs.length + 1) y hy)
    have e1 : (B + 3) * (x :: x' :: xs).length = (B + 3) * (x' :: xs).length + (B + 3) := by rw [List.length_cons (a := x), Nat.mul_succ]
    have e2 : (B + 2) * (xs.length + 1) ≤ (B + 3) * (x' :: xs).length := by rw [List.length_cons]; exact Nat.mul_le_mul_right _ (by omega)
    rw [e1]
    exact (Sz.add (n := A + 1 + (B + 3) * (x' :: xs).length + B + 1) (s1.mono (by omega)) (s2.mono (by omega))).mono (by omega)
/-! how often the sign changes, noughts left out -/
def svl : Int → List Int → Nat
  | _, [] => 0
  | l, x :: xs => if x = 0 then svl l xs else (if x * l < 0 then 1 else 0) + svl x xs
def sv (xs : List Int) : Nat := svl 0 xs
end PL
namespace PL
open PySem PySem.Spec PyProof.Rows L2
/-! reading lists of ints -/
abbrev iL (xs : List Int) : PV := .list (xs.map PV.int)
theorem len_iL (xs : List Int) : (xs.map PV.int).length = xs.length := List.length_map _
theorem at_iL {xs : List Int} {j : Nat} (h : j < xs.length) : atI (xs.map PV.int) (j : Int) = some (.int (xs.getD j 0)) :=
  atI_nat (by rw [List.getElem?_map, List.getD_eq_getElem?_getD, List.getElem?_eq_getElem h]; rfl)
theorem it_iL {xs : List Int} {j : Nat} (h : j < xs.length) : itAt (xs.map PV.int) (j : Int) = .int (xs.getD j 0) := by
  unfold itAt
  rw [at_iL h]
  rfl
theorem at_last {xs : List Int} (h : xs ≠ []) : atI (xs.map PV.int) (-1) = some (.int (xs.getD (xs.length - 1) 0)) := by
  have hl : 0 < xs.length := List.length_pos_iff.mpr h
  unfold atI ixN
  rw [len_iL, if_neg (by decide), if_pos (by omega)]
  show (xs.map PV.int)[((-1 : Int) + (xs.length : Int)).toNat]? = _
  rw [show ((-1 : Int) + (xs.length : Int)).toNat = xs.length - 1 by omega, List.getElem?_map, List.getD_eq_getElem?_getD, List.getElem?_eq_getElem (by omega)]
  rfl
theorem it_last {xs : List Int} (h : xs ≠ []) : itAt (xs.map PV.int) (-1) = .int (xs.getD (xs.length - 1) 0) := by
  unfold itAt
  rw [at_last h]
  rfl
theorem ix_nat {n j : Nat} (h : j < n) : ixN n (j : Int) = some j := by
  unfold ixN
  rw [if_pos (by omega), if_pos (by omega), Int.toNat_natCast]
theorem ix_last {n : Nat} (h : 0 < n) : ixN n (-1) = some (n - 1) := by
  unfold ixN
  rw [if_neg (by decide), if_pos (by omega)]
  congr 1
  omega
theorem getD_sz {A : Nat} {xs : List Int} (h : ∀ c ∈ xs, Sz A c) (i : Nat) : Sz A (xs.getD i 0) := by
  rw [List.getD_eq_getElem?_getD]
  cases e : xs[i]? with
  | none => exact Sz.zero _
  | some c => exact h c (List.mem_of_getElem? e)
theorem ev_setD (t d : Int) {xs : List Int} {i : Nat} (h : i < xs.length) : ev (xs.set i (xs.getD i 0 + d)) t = ev xs t + d * t ^ i := by
  rw [List.getD_eq_getElem?_getD, List.getElem?_eq_getElem h]
  exact ev_set t d h
theorem ev_takeD (t : Int) {xs : List Int} {k : Nat} (h : k < xs.length) : ev (xs.take (k + 1)) t = ev (xs.take k) t + xs.getD k 0 * t ^ k := by
  rw [List.getD_eq_getElem?_getD, List.getElem?_eq_getElem h]
  exact ev_take t h
theorem set_iL (xs : List Int) (j : Nat) (v : Int) : (xs.map PV.int).set j (.int v) = (xs.set j v).map PV.int := by
  rw [List.map_set]
theorem map0 (xs : List Int) : ((xs.map PV.int).map fun _ => PV.int 0) = (List.replicate xs.length 0).map PV.int := by
  rw [List.map_replicate, List.map_map]
  exact List.map_const' ..
theorem getD_range {n k : Nat} (h : k < n) : (List.range n).getD k 0 = k := by
  rw [List.getD_eq_getElem?_getD, List.getElem?_range h]
  rfl
end PL
namespace PL
open PySem PySem.Spec PyProof.Rows L2
/-! rows for simp -/
theorem toI_int (i : Int) : toI (.int i) = i := rfl
theorem isI_int (i : Int) : isI (.int i) = true := rfl
theorem toB_bl (i : Bool) : toB (.bl i) = i := rfl
theorem isB_bl (i : Bool) : isB (.bl i) = true := rfl
theorem el_list (xs : List PV) : elems (.list xs) = xs := rfl
theorem el_tup (xs : List PV) : elems (.tup xs) = xs := rfl
theorem el_scr (ns : List Int) : elems (.scr ns) = ns.map PV.int := rfl
theorem sq_list (xs : List PV) : isSq (.list xs) = true := rfl
theorem sq_tup (xs : List PV) : isSq (.tup xs) = true := rfl
theorem sq_scr (xs : List Int) : isSq (.scr xs) = true := rfl
theorem ls_list (xs : List PV) : isLS (.list xs) = true := rfl
theorem ls_scr (xs : List Int) : isLS (.scr xs) = true := rfl
theorem l_list (xs : List PV) : isL (.list xs) = true := rfl
theorem t_tup (xs : List PV) : isT (.tup xs) = true := rfl
theorem ati0 (x : PV) (xs : List PV) : atI (x :: xs) 0 = some x := atI_nat (j := 0) rfl
theorem ati1 (x y : PV) (xs : List PV) : atI (x :: y :: xs) 1 = some y := atI_nat (j := 1) rfl
theorem ati2 (x y z : PV) (xs : List PV) : atI (x :: y :: z :: xs) 2 = some z := atI_nat (j := 2) rfl
theorem ati3 (x y z w : PV) (xs : List PV) : atI (x :: y :: z :: w :: xs) 3 = some w := atI_nat (j := 3) rfl
theorem it0 (x : PV) (xs : List PV) : itAt (x :: xs) 0 = x := by unfold itAt; rw [ati0]; rfl
theorem it1 (x y : PV) (xs : List PV) : itAt (x :: y :: xs) 1 = y := by unfold itAt; rw [ati1]; rfl
theorem it2 (x y z : PV) (xs : List PV) : itAt (x :: y :: z :: xs) 2 = z := by unfold itAt; rw [ati2]; rfl
theorem it3 (x y z w : PV) (xs : List PV) : itAt (x :: y :: z :: w :: xs) 3 = w := by unfold itAt; rw [ati3]; rfl
end PL
namespace PL
open PySem PySem.Spec PyProof.Rows L2
/-! sums over the first whole numbers -/
def sm : Nat → (Nat → Int) → Int
  | 0, _ => 0
  | n + 1, f => sm n f + f n
theorem sm_shift (f : Nat → Int) : ∀ n, sm (n + 1) f = f 0 + sm n (fun i => f (i + 1))
  | 0 => by simp [sm]
  | n + 1 => by
    show sm (n + 1) f + f (n + 1) = f 0 + (sm n (fun i => f (i + 1)) + f (n + 1))
    rw [sm_shift f n]
    omega
/-- signs of what isn't nought; how often a number differs from the one ahead -/
def sgns (xs : List Int) : List Int := (xs.filter fun x => decide (x ≠ 0)).map Int.sign
def chg : List Int → Int
  | x :: y :: r => (if y ≠ x then 1 else 0) + chg (y :: r)
  | _ => 0
theorem chg_sm : ∀ s : List Int, chg s = sm (s.length - 1) fun i => if s.getD (i + 1) 0 ≠ s.getD i 0 then 1 else 0
  | [] => rfl
  | [x] => rfl
  | x :: y :: r => by
    have ih := chg_sm (y :: r)
    show (if y ≠ x then 1 else 0) + chg (y :: r) = sm (r.length + 1) _
    rw [sm_shift, ih]
    rfl
theorem sign_ne {x l : Int} (hx : x ≠ 0) (hl : l ≠ 0) : (x * l < 0) ↔ x.sign ≠ l.sign := by
  rcases Int.lt_or_gt_of_ne hx with h | h <;> rcases Int.lt_or_gt_of_ne hl with k | k
  · rw [Int.sign_eq_neg_one_of_neg h, Int.sign_eq_neg_one_of_neg k]
    have := Int.mul_pos_of_neg_of_neg h k
    simp
    omega
  · rw [Int.sign_eq_neg_one_of_neg h, Int.sign_eq_one_of_pos k]
    have := Int.mul_neg_of_neg_of_pos h k
    simp
    omega
  · rw [Int.sign_eq_one_of_pos h, Int.sign_eq_neg_one_of_neg k]
    have := Int.mul_neg_of_pos_of_neg h k
    simp
    omega
  · rw [Int.sign_eq_one_of_pos h, Int.sign_eq_one_of_pos k]
    have := Int.mul_pos h k
    simp
    omega
theorem sgns_zero (xs : List Int) : sgns (0 :: xs) = sgns xs := by
  unfold sgns
  rw [List.filter_cons_of_neg (by simp)]
theorem sgns_cons {x : Int} (h : x ≠ 0) (xs : List Int) : sgns (x :: xs) = x.sign :: sgns xs := by
  unfold sgns
  rw [List.filter_cons_of_pos (by simpa using h), List.map_cons]
theorem svl_chg : ∀ (xs : List Int) (l : Int), l ≠ 0 → (svl l xs : Int) = chg (l.sign :: sgns xs)
  | [], l, _ => by simp [svl, sgns, chg]
  | x :: xs, l, hl => by
    by_cases hx : x = 0
    · subst hx
      rw [svl, if_pos rfl, sgns_zero]
      exact svl_chg xs l hl
    · rw [svl, if_neg hx, sgns_cons hx, chg, ← svl_chg xs x hx]
      by_cases h : x * l < 0
      · rw [if_pos h, if_pos ((sign_ne hx hl).mp h)]
        omega
      · rw [if_neg h, if_neg fun z => h ((sign_ne hx hl).mpr z)]
        omega
theorem sv_chg : ∀ xs : List Int, (sv xs : Int) = chg (sgns xs)
  | [] => rfl
  | x :: xs => by
    unfold sv
    by_cases hx : x = 0
    · subst hx
      rw [svl, if_pos rfl, sgns_zero]
      exact sv_chg xs
    · rw [svl, if_neg hx, sgns_cons hx, Int.mul_zero, if_neg (by omega), Nat.zero_add]
      exact svl_chg xs x hx
theorem rng_succ (lo : Int) (n : Nat) : rng lo (n + 1) = rng lo n ++ [.int (lo + (n : Int))] := by
  unfold rng
  rw [List.range_succ, List.map_append]
  rfl
/-- a count by a comprehension of ones -/
theorem cmp_ones (i : Nat) (c : PEnv → Bool) (ρ : PEnv) (lo : Int) (p : Nat → Bool) : ∀ n : Nat, (∀ k, k < n → c (ρ.set i (some (.int (lo + (k : Int))))) = p k) →
    ((toIs (cmp i c (fun _ => .int 1) ρ (rng lo n))).sum = sm n fun k => if p k then 1 else 0) ∧ allI (cmp i c (fun _ => .int 1) ρ (rng lo n)) = true
  | 0, _ => ⟨rfl, rfl⟩
  | n + 1, h => by
    obtain ⟨h1, h2⟩ := cmp_ones i c ρ lo p n fun k hk => h k (by omega)
    rw [rng_succ, cmp_app, h n (by omega), sm, ← h1]
    unfold toIs allI at *
    rw [List.map_append, List.sum_append, List.all_append, h2]
    cases p n <;> exact ⟨by simp [toI], rfl⟩
theorem cmp_mem {i : Nat} {c : PEnv → Bool} {f : PEnv → PV} {ρ : PEnv} {P : PV → Prop} : ∀ {its : List PV}, (∀ v ∈ its, c (ρ.set i (some v)) = true → P (f (ρ.set i (some v)))) → ∀ w ∈ cmp i c f ρ its, P w
  | [], _, w, hw => by simp [cmp] at hw
  | v :: vs, h, w, hw => by
    unfold cmp at hw
    split at hw
    · rcases List.mem_cons.mp hw with rfl | hw
      · exact h v (by simp) (by assumption)
      · exact cmp_mem (fun v hv => h v (List.mem_cons_of_mem _ hv)) w hw
    · exact cmp_mem (fun v hv => h v (List.mem_cons_of_mem _ hv)) w hw
theorem app_iL (xs : List Int) (x : Int) : iL (xs ++ [x]) = .list (xs.map PV.int ++ [.int x]) := by
  rw [iL, List.map_append]
  rfl
end PL

namespace PL
open PySem PySem.Spec PyProof.Rows L2

/-! values at two whole numbers (top and bottom) -/
theorem hv_app (p q : Int) : ∀ xs ys : List Int, hv (xs ++ ys) p q = q ^ ys.length * hv xs p q + p ^ xs.length * hv ys p q
  | [], ys => by simp [hv]
  | x :: xs, ys => by
    show x * q ^ (xs ++ ys).length + p * hv (xs ++ ys) p q = q ^ ys.length * (x * q ^ xs.length + p * hv xs p q) + p ^ (xs.length + 1) * hv ys p q
    rw [hv_app p q xs ys, Int.pow_succ, List.length_append, Int.pow_add]
    grind
theorem hv_snoc0 (xs : List Int) (p q : Int) : hv (xs ++ [0]) p q = q * hv xs p q := by
  rw [hv_app]
  simp [hv, Int.pow_succ]
theorem hv_map (k p q : Int) : ∀ xs : List Int, hv (xs.map fun x => k * x) p q = k * hv xs p q
  | [] => by simp [hv]
  | x :: xs => by
    show k * x * q ^ (xs.map fun x => k * x).length + p * hv (xs.map fun x => k * x) p q = k * (x * q ^ xs.length + p * hv xs p q)
    rw [hv_map k p q xs, List.length_map]
    grind
theorem hv_map' (k p q : Int) (xs : List Int) : hv (xs.map fun x => x * k) p q = hv xs p q * k := by
  have : (fun x : Int => x * k) = fun x => k * x := by
    funext x
    exact Int.mul_comm _ _
  rw [this, hv_map, Int.mul_comm]
theorem hv_addL (p q : Int) : ∀ {xs ys : List Int}, xs.length = ys.length → hv (addL xs ys) p q = hv xs p q + hv ys p q
  | [], [], _ => by simp [addL, hv]
  | x :: xs, y :: ys, h => by
    have h' : xs.length = ys.length := by simpa using h
    have ih := hv_addL p q h'
    show (x + y) * q ^ (addL xs ys).length + p * hv (addL xs ys) p q = x * q ^ xs.length + p * hv xs p q + (y * q ^ ys.length + p * hv ys p q)
    rw [ih, addL_len h', ← h']
    grind
theorem hv_scale (k p q : Int) : ∀ xs : List Int, k * hv xs (k * p) (k * q) = k ^ xs.length * hv xs p q
  | [] => by simp [hv]
  | x :: xs => by
    have ih := hv_scale k p q xs
    show k * (x * (k * q) ^ xs.length + k * p * hv xs (k * p) (k * q)) = k ^ (xs.length + 1) * (x * q ^ xs.length + p * hv xs p q)
    rw [Int.pow_succ, Int.mul_pow]
    grind
theorem ev_hv (t : Int) : ∀ xs : List Int, ev xs t = hv xs t 1
  | [] => rfl
  | x :: xs => by
    show x + t * ev xs t = x * 1 ^ xs.length + t * hv xs t 1
    rw [ev_hv t xs, Int.one_pow, Int.mul_one]
theorem ev_rev (t : Int) : ∀ xs : List Int, ev xs.reverse t = hv xs 1 t
  | [] => rfl
  | x :: xs => by
    rw [List.reverse_cons, ev_app, ev_rev t xs, List.length_reverse]
    show hv xs 1 t + t ^ xs.length * (x + t * 0) = x * t ^ xs.length + 1 * hv xs 1 t
    grind
theorem hv_jn (xs : List Int) (a b p q : Int) : hv (jn xs a b) p q = hv xs p q * (a * q + b * p) := by
  unfold jn
  rw [hv_addL p q (by simp), hv_snoc0, hv_map' a p q xs]
  show _ + (0 * _ + p * hv (xs.map fun x => x * b) p q) = _
  rw [hv_map' b p q xs]
  grind
theorem hv_pwl (h p q : Int) : ∀ m, hv (pwl h m) p q = (h * q + h * p) ^ m
  | 0 => by simp [pwl, hv]
  | m + 1 => by
    rw [pwl, hv_map, hv_jn, hv_pwl h p q m, Int.pow_succ]
    grind
theorem hv_trn (v u : Int) : ∀ (ns : List Int) (b e h : Int), hv (trn ns b e h) v u = hv ns (b * u + e * v) (h * u + h * v)
  | [], _, _, _ => rfl
  | [c], b, e, h => by
    show c * u ^ 0 + v * 0 = c * (h * u + h * v) ^ 0 + (b * u + e * v) * 0
    rw [Int.pow_zero, Int.pow_zero]
    omega
  | c :: c' :: cs, b, e, h => by
    have ih := hv_trn v u (c' :: cs) b e h
    unfold trn
    rw [hv_addL v u (by rw [jn_len, trn_len, List.length_map, pwl_len]; simp), hv_jn, ih, hv_map, hv_pwl]
    show _ = c * (h * u + h * v) ^ (cs.length + 1) + (b * u + e * v) * hv (c' :: cs) (b * u + e * v) (h * u + h * v)
    grind
theorem trn_swap (ns : List Int) (b e h : Int) : trn ns e b h = (trn ns b e h).reverse := by
  refine ev_ext (by rw [trn_len, List.length_reverse, trn_len]) 0 fun t _ => ?_
  rw [ev_trn, ev_rev, hv_trn]
  congr 1 <;> grind

/-! how often the sign changes -/
theorem sgn3 (x : Int) : x.sign = -1 ∨ x.sign = 0 ∨ x.sign = 1 := by
  rcases Int.lt_trichotomy x 0 with h | h | h
  · exact .inl (Int.sign_eq_neg_one_of_neg h)
  · subst h
    exact .inr (.inl rfl)
  · exact .inr (.inr (Int.sign_eq_one_of_pos h))
theorem sign_neg_iff {x : Int} : x.sign = -1 ↔ x < 0 := by
  rcases Int.lt_trichotomy x 0 with h | h | h
  · simp [Int.sign_eq_neg_one_of_neg h, h]
  · subst h; simp
  · simp [Int.sign_eq_one_of_pos h]; omega
theorem sign_zero_iff {x : Int} : x.sign = 0 ↔ x = 0 := by
  rcases Int.lt_trichotomy x 0 with h | h | h
  · simp [Int.sign_eq_neg_one_of_neg h]; omega
  · subst h; simp
  · simp [Int.sign_eq_one_of_pos h]; omega
theorem sign_pos_iff {x : Int} : x.sign = 1 ↔ 0 < x := by
  rcases Int.lt_trichotomy x 0 with h | h | h
  · simp [Int.sign_eq_neg_one_of_neg h]; omega
  · subst h; simp
  · simp [Int.sign_eq_one_of_pos h, h]
theorem sign_ne0 {x : Int} : x.sign ≠ 0 ↔ x ≠ 0 := not_congr sign_zero_iff
theorem sign_sign (x : Int) : x.sign.sign = x.sign := by
  rcases sgn3 x with h | h | h <;> rw [h] <;> rfl
theorem mul_neg_sign (x l : Int) : x * l < 0 ↔ x.sign * l.sign = -1 := by
  rw [← sign_neg_iff, Int.sign_mul]
theorem svl_sim : ∀ {xs ys : List Int} {l l' : Int}, xs.map Int.sign = ys.map Int.sign → l.sign = l'.sign → svl l xs = svl l' ys
  | [], [], _, _, _, _ => rfl
  | [], _ :: _, _, _, h, _ => by simp at h
  | _ :: _, [], _, _, h, _ => by simp at h
  | x :: xs, y :: ys, l, l', h, hl => by
    rw [List.map_cons, List.map_cons, List.cons.injEq] at h
    obtain ⟨h1, h2⟩ := h
    by_cases hx : x = 0
    · have hy : y = 0 := by rw [← sign_zero_iff, ← h1, hx]; rfl
      rw [svl, svl, if_pos hx, if_pos hy]
      exact svl_sim h2 hl
    · have hy : ¬ y = 0 := fun z => hx (by rw [← sign_zero_iff, h1, z]; rfl)
      rw [svl, svl, if_neg hx, if_neg hy, svl_sim h2 h1]
      congr 1
      have : (x * l < 0) = (y * l' < 0) := by
        rw [mul_neg_sign, mul_neg_sign, h1, hl]
      simp only [this]
theorem svl_sgn (l x : Int) (xs : List Int) : svl l (x :: xs) = svl l.sign (x.sign :: xs) := svl_sim (by rw [List.map_cons, List.map_cons, sign_sign]) (sign_sign l).symm
theorem svl_sgn2 (l x y : Int) (xs : List Int) : svl l (x :: y :: xs) = svl l.sign (x.sign :: y.sign :: xs) := svl_sim (by rw [List.map_cons, List.map_cons, List.map_cons, List.map_cons, sign_sign, sign_sign]) (sign_sign l).symm
/-- one step of a shift -/
theorem svl_step {a s v w : Int} (hv : 0 ≤ v) (hw : 0 < w) (l : Int) (r : List Int) : svl l ((a + v * s) :: (w * s) :: r) ≤ svl l (a :: s :: r) := by
  have e2 : (w * s).sign = s.sign := by rw [Int.sign_mul, Int.sign_eq_one_of_pos hw, Int.one_mul]
  have k : (s.sign = 0 → (a + v * s).sign = a.sign) ∧ (s.sign = 1 → (a + v * s).sign = a.sign ∨ (a + v * s).sign = 1 ∨ (a + v * s).sign = 0) ∧ (s.sign = -1 → (a + v * s).sign = a.sign ∨ (a + v * s).sign = -1 ∨ (a + v * s).sign = 0) := by
    refine ⟨fun h => ?_, fun h => ?_, fun h => ?_⟩
    · rw [sign_zero_iff] at h
      rw [h, Int.mul_zero, Int.add_zero]
    · rw [sign_pos_iff] at h
      have hvs : 0 ≤ v * s := Int.mul_nonneg hv (by omega)
      rcases sgn3 (a + v * s) with z | z | z
      · left
        rw [z]
        rw [sign_neg_iff] at z
        exact (sign_neg_iff.mpr (by omega)).symm
      · exact .inr (.inr z)
      · exact .inr (.inl z)
    · rw [sign_neg_iff] at h
      have hvs : 0 ≤ v * -s := Int.mul_nonneg hv (by omega)
      rw [Int.mul_neg] at hvs
      rcases sgn3 (a + v * s) with z | z | z
      · exact .inr (.inl z)
      · exact .inr (.inr z)
      · left
        rw [z]
        rw [sign_pos_iff] at z
        exact (sign_pos_iff.mpr (by omega)).symm
  rw [svl_sgn2 l (a + v * s), svl_sgn2 l a, e2]
  generalize (a + v * s).sign = x at k
  have ha := sgn3 a
  have hs := sgn3 s
  have hl := sgn3 l
  generalize a.sign = σ at *
  generalize s.sign = τ at *
  generalize l.sign = μ at *
  obtain ⟨k0, k1, k2⟩ := k
  rcases hs with rfl | rfl | rfl
  · rcases k2 rfl with rfl | rfl | rfl <;> rcases ha with rfl | rfl | rfl <;> rcases hl with rfl | rfl | rfl <;> simp [svl] <;> omega
  · rw [k0 rfl]
    exact Nat.le_refl _
  · rcases k1 rfl with rfl | rfl | rfl <;> rcases ha with rfl | rfl | rfl <;> rcases hl with rfl | rfl | rfl <;> simp [svl] <;> omega
/-- the count with a start, for a row behind another -/
def lst : Int → List Int → Int
  | l, [] => l
  | l, x :: xs => lst (if x = 0 then l else x) xs
theorem svl_app : ∀ (xs ys : List Int) (l : Int), svl l (xs ++ ys) = svl l xs + svl (lst l xs) ys
  | [], ys, l => by simp [svl, lst]
  | x :: xs, ys, l => by
    show svl l (x :: (xs ++ ys)) = _
    by_cases h : x = 0
    · rw [svl, if_pos h, svl, if_pos h, lst, if_pos h, svl_app xs ys l]
    · rw [svl, if_neg h, svl, if_neg h, lst, if_neg h, svl_app xs ys x]
      omega
theorem svl_pre {xs ys : List Int} (h : ∀ l, svl l xs ≤ svl l ys) (p : List Int) (l : Int) : svl l (p ++ xs) ≤ svl l (p ++ ys) := by
  rw [svl_app, svl_app]
  have := h (lst l p)
  omega
/-- the row of x times v and w times more, each behind -/
def bid (v w : Int) : Int → List Int → List Int
  | a, [] => [a]
  | a, s :: r => (a + v * s) :: bid v w (w * s) r
theorem bid_len (v w : Int) : ∀ (a : Int) (s : List Int), (bid v w a s).length = s.length + 1
  | _, [] => rfl
  | a, s :: r => by
    show (bid v w (w * s) r).length + 1 = r.length + 1 + 1
    rw [bid_len]
theorem svl_bid {v w : Int} (hv : 0 ≤ v) (hw : 0 < w) : ∀ (s : List Int) (a l : Int), svl l (bid v w a s) ≤ svl l (a :: s)
  | [], a, l => Nat.le_refl _
  | s :: r, a, l => by
    show svl l ([a + v * s] ++ bid v w (w * s) r) ≤ _
    exact Nat.le_trans (svl_pre (fun l => svl_bid hv hw r (w * s) l) [a + v * s] l) (svl_step hv hw l r)
theorem ev_bid (v w t : Int) : ∀ (s : List Int) (a : Int), ev (bid v w a s) t = a + (v + w * t) * ev s t
  | [], a => by simp [bid, ev]
  | s :: r, a => by
    show a + v * s + t * ev (bid v w (w * s) r) t = a + (v + w * t) * (s + t * ev r t)
    rw [ev_bid v w t r]
    grind
/-- the row shifted: its value at t is the other's at v + w t by u -/
def hsh (v w u : Int) : List Int → List Int
  | [] => []
  | [c] => [c]
  | c :: c' :: cs => bid v w (c * u ^ (cs.length + 1)) (hsh v w u (c' :: cs))
theorem hsh_len (v w u : Int) : ∀ xs : List Int, (hsh v w u xs).length = xs.length
  | [] => rfl
  | [c] => rfl
  | c :: c' :: cs => by
    show (bid v w _ (hsh v w u (c' :: cs))).length = _
    rw [bid_len, hsh_len v w u (c' :: cs)]
    rfl
theorem ev_hsh (v w u t : Int) : ∀ xs : List Int, ev (hsh v w u xs) t = hv xs (v + w * t) u
  | [] => rfl
  | [c] => by simp [hsh, ev, hv]
  | c :: c' :: cs => by
    show ev (bid v w _ (hsh v w u (c' :: cs))) t = c * u ^ (cs.length + 1) + (v + w * t) * hv (c' :: cs) (v + w * t) u
    rw [ev_bid, ev_hsh v w u t (c' :: cs)]
theorem svl_hsh {v w u : Int} (hv : 0 ≤ v) (hw : 0 < w) (hu : 0 < u) : ∀ (xs : List Int) (l : Int), svl l (hsh v w u xs) ≤ svl l xs
  | [], _ => Nat.le_refl _
  | [c], _ => Nat.le_refl _
  | c :: c' :: cs, l => by
    show svl l (bid v w _ (hsh v w u (c' :: cs))) ≤ _
    refine Nat.le_trans (svl_bid hv hw _ _ l) ?_
    have e : svl l (c * u ^ (cs.length + 1) :: hsh v w u (c' :: cs)) = svl l (c :: hsh v w u (c' :: cs)) := svl_sim (by
      rw [List.map_cons, List.map_cons, Int.sign_mul, Int.sign_eq_one_of_pos (Int.pow_pos hu), Int.mul_one]) rfl
    rw [e]
    exact svl_pre (fun l => svl_hsh hv hw hu (c' :: cs) l) [c] l
theorem sv_scale {k : Int} (hk : 0 < k) (xs : List Int) : sv (xs.map fun x => k * x) = sv xs := by
  refine svl_sim ?_ rfl
  rw [List.map_map]
  refine List.map_congr_left fun x _ => ?_
  show (k * x).sign = x.sign
  rw [Int.sign_mul, Int.sign_eq_one_of_pos hk, Int.one_mul]
/-! from the other side -/
theorem chg_app2 (x y : Int) : ∀ xs : List Int, chg (xs ++ [x, y]) = chg (xs ++ [x]) + if y ≠ x then 1 else 0
  | [] => by simp [chg]
  | [z] => by
    show (if x ≠ z then 1 else 0) + ((if y ≠ x then 1 else 0) + chg [y]) = (if x ≠ z then 1 else 0) + chg [x] + _
    simp [chg]
  | z :: z' :: xs => by
    have ih := chg_app2 x y (z' :: xs)
    show (if z' ≠ z then 1 else 0) + chg (z' :: xs ++ [x, y]) = (if z' ≠ z then 1 else 0) + chg (z' :: xs ++ [x]) + _
    rw [ih]
    omega
theorem chg_rev : ∀ xs : List Int, chg xs.reverse = chg xs
  | [] => rfl
  | [x] => rfl
  | x :: y :: r => by
    have ih := chg_rev (y :: r)
    rw [List.reverse_cons, List.reverse_cons, List.append_assoc]
    show chg (r.reverse ++ [y, x]) = _
    rw [chg_app2, ← List.reverse_cons, ih, chg]
    by_cases h : x = y
    · subst h
      simp
    · rw [if_pos h, if_pos fun z => h z.symm]
      omega
theorem sgns_rev (xs : List Int) : sgns xs.reverse = (sgns xs).reverse := by
  unfold sgns
  rw [List.filter_reverse, List.map_reverse]
theorem sv_rev (xs : List Int) : sv xs.reverse = sv xs := by
  have h : (sv xs.reverse : Int) = sv xs := by rw [sv_chg, sv_chg, sgns_rev, chg_rev]
  exact Int.ofNat.inj h
theorem sv_neg (xs : List Int) : sv (xs.map fun x => -1 * x) = sv xs := by
  have h : ∀ (xs : List Int) (l : Int), svl (-1 * l) (xs.map fun x => -1 * x) = svl l xs := by
    intro xs
    induction xs with
    | nil => intro l; rfl
    | cons x xs ih =>
      intro l
      show svl (-1 * l) ((-1 * x) :: xs.map fun x => -1 * x) = _
      rw [svl, svl, ih x]
      have e : -1 * x * (-1 * l) = x * l := by grind
      rw [e]
      by_cases hx : x = 0
      · rw [if_pos hx, if_pos (by omega), ih l]
      · rw [if_neg hx, if_neg (by omega)]
  exact h xs 0
/-! even or odd -/
theorem ite_cg {p q : Prop} [Decidable p] [Decidable q] (h : p ↔ q) : (if p then (1 : Nat) else 0) = if q then 1 else 0 := by
  by_cases k : p
  · rw [if_pos k, if_pos (h.mp k)]
  · rw [if_neg k, if_neg fun z => k (h.mpr z)]
theorem svl_par : ∀ (xs : List Int) (l z : Int), l ≠ 0 → z ≠ 0 → svl l (xs ++ [z]) % 2 = if l * z < 0 then 1 else 0
  | [], l, z, _, hz => by
    show svl l [z] % 2 = _
    rw [svl, if_neg hz, svl, Int.mul_comm]
    split <;> rfl
  | x :: xs, l, z, hl, hz => by
    show svl l (x :: (xs ++ [z])) % 2 = _
    by_cases hx : x = 0
    · rw [svl, if_pos hx]
      exact svl_par xs l z hl hz
    · rw [svl, if_neg hx]
      have ih := svl_par xs x z hx hz
      have h1 := sign_ne hx hl
      have h2 := sign_ne hx hz
      have h3 := sign_ne hl hz
      have a1 := sgn3 x
      have a2 := sgn3 l
      have a3 := sgn3 z
      replace hx := sign_ne0.mpr hx
      replace hl := sign_ne0.mpr hl
      replace hz := sign_ne0.mpr hz
      rw [ite_cg h3, ite_cg h1]
      rw [ite_cg h2] at ih
      generalize svl x (xs ++ [z]) = N at *
      clear h1 h2 h3
      generalize x.sign = σ at *
      generalize l.sign = τ at *
      generalize z.sign = μ at *
      rcases a1 with rfl | rfl | rfl <;> rcases a2 with rfl | rfl | rfl <;> rcases a3 with rfl | rfl | rfl <;> simp at ih hx hl hz ⊢ <;> omega
theorem sv_par {xs : List Int} (h : xs ≠ []) (h0 : xs.head h ≠ 0) (h1 : xs.getLast h ≠ 0) : sv xs % 2 = if xs.head h * xs.getLast h < 0 then 1 else 0 := by
  match xs, h, h0, h1 with
  | [x], _, h0, h1 =>
    have : 0 ≤ x * x := by
      rcases Int.le_total 0 x with z | z
      · exact Int.mul_nonneg z z
      · exact Int.mul_nonneg_of_nonpos_of_nonpos z z
    show sv [x] % 2 = if x * x < 0 then 1 else 0
    have h0' : x ≠ 0 := h0
    rw [if_neg (by omega), sv, svl, if_neg h0']
    simp [svl]
  | x :: y :: r, _, h0, h1 =>
    have h0' : x ≠ 0 := h0
    have hz : (y :: r).getLast (by simp) ≠ 0 := by
      rw [List.getLast_cons (by simp)] at h1
      exact h1
    have k := svl_par (y :: r).dropLast x ((y :: r).getLast (by simp)) h0' hz
    rw [List.dropLast_concat_getLast] at k
    rw [List.getLast_cons (by simp)]
    show svl 0 (x :: y :: r) % 2 = if x * _ < 0 then 1 else 0
    rw [svl, if_neg h0', Int.mul_zero, if_neg (by omega), Nat.zero_add]
    exact k
/-- the first and the last number of a row seen from a stretch -/
theorem head_ev : ∀ {xs : List Int} (h : xs ≠ []), xs.head h = ev xs 0
  | x :: xs, _ => by
    show x = x + 0 * ev xs 0
    omega
theorem trn_head {ns : List Int} {b e h : Int} (k : trn ns b e h ≠ []) : (trn ns b e h).head k = hv ns b h := by
  rw [head_ev, ev_trn, Int.mul_zero, Int.mul_zero, Int.add_zero, Int.add_zero]
theorem trn_last {ns : List Int} {b e h : Int} (k : trn ns b e h ≠ []) : (trn ns b e h).getLast k = hv ns e h := by
  have e1 := trn_swap ns e b h
  have k2 : trn ns e b h ≠ [] := fun z => k (by
    rw [← List.length_eq_zero_iff, trn_len] at z ⊢
    exact z)
  rw [← trn_head k2]
  rw [← List.head_reverse]
  · congr 1
    exact (trn_swap ns b e h).symm
  · simpa using k
theorem trn_ne {ns : List Int} {b e h : Int} (k : ns ≠ []) : trn ns b e h ≠ [] := fun z => k (by
  rw [← List.length_eq_zero_iff, trn_len] at z
  exact List.length_eq_zero_iff.mp z)
theorem hv_scale' {k : Int} (hk : k ≠ 0) {p q : Int} {ns : List Int} (hn : ns ≠ []) : hv ns (k * p) (k * q) = k ^ (ns.length - 1) * hv ns p q := by
  have h := hv_scale k p q ns
  have hl : 0 < ns.length := List.length_pos_iff.mpr hn
  rw [show ns.length = (ns.length - 1) + 1 by omega, Int.pow_succ] at h
  refine Int.eq_of_mul_eq_mul_left hk ?_
  rw [h]
  grind
theorem hv_sign {k : Int} (hk : 0 < k) {p q : Int} {ns : List Int} (hn : ns ≠ []) : (hv ns (k * p) (k * q)).sign = (hv ns p q).sign := by
  rw [hv_scale' (by omega) hn, Int.sign_mul, Int.sign_eq_one_of_pos (Int.pow_pos hk), Int.one_mul]
/-! the number of turns from a to b by what stands at the ends (a = p/q, b = r/s) -/
def vr (ns : List Int) (p q r s : Int) : Nat := sv (trn ns (p * s) (r * q) (q * s))
theorem vr_par {ns : List Int} (hn : ns ≠ []) {p q r s : Int} (hq : 0 < q) (hs : 0 < s) (h1 : hv ns p q ≠ 0) (h2 : hv ns r s ≠ 0) : vr ns p q r s % 2 = if hv ns p q * hv ns r s < 0 then 1 else 0 := by
  have e1 : (hv ns (p * s) (q * s)).sign = (hv ns p q).sign := by rw [Int.mul_comm p, Int.mul_comm q]; exact hv_sign hs hn
  have e2 : (hv ns (r * q) (q * s)).sign = (hv ns r s).sign := by rw [Int.mul_comm r]; exact hv_sign hq hn
  have k := sv_par (trn_ne (b := p * s) (e := r * q) (h := q * s) hn)
    (by rw [trn_head, ← sign_ne0, e1, sign_ne0]; exact h1)
    (by rw [trn_last, ← sign_ne0, e2, sign_ne0]; exact h2)
  rw [trn_head, trn_last] at k
  rw [vr, k]
  have : (hv ns (p * s) (q * s) * hv ns (r * q) (q * s) < 0) = (hv ns p q * hv ns r s < 0) := by
    rw [mul_neg_sign, mul_neg_sign, e1, e2]
  simp only [this]
/-- from a greater low end on: no more turns -/
theorem vr_low {ns : List Int} {a b c d m n : Int} (hb : 0 < b) (hd : 0 < d) (hn : 0 < n) (h1 : a * n ≤ m * b) (h2 : m * d < c * n) (hlt : a * d < c * b) : vr ns m n c d ≤ vr ns a b c d := by
  have hD : 0 < c * b - a * d := by omega
  have k : ((trn ns (m * d) (c * n) (n * d)).map fun x => (b * (c * b - a * d)) ^ (ns.length - 1) * x) = hsh ((m * b - a * n) * d) (n * (c * b - a * d)) ((c * n - m * d) * b) (trn ns (a * d) (c * b) (b * d)) := by
    by_cases hns : ns = []
    · subst hns
      rfl
    · refine ev_ext (by rw [List.length_map, trn_len, hsh_len, trn_len]) 0 fun t _ => ?_
      rw [ev_map, ev_trn, ev_hsh, hv_trn, ← hv_scale' (Int.ne_of_gt (Int.mul_pos hb hD)) hns]
      congr 1 <;> grind
  unfold vr
  rw [← sv_scale (Int.pow_pos (Int.mul_pos hb hD) : 0 < (b * (c * b - a * d)) ^ (ns.length - 1)), k]
  exact svl_hsh (Int.mul_nonneg (by omega) (by omega)) (Int.mul_pos hn hD) (Int.mul_pos (by omega) hb) _ _
theorem vr_swap (ns : List Int) (a b c d : Int) : sv (trn ns (c * b) (a * d) (b * d)) = vr ns a b c d := by
  rw [trn_swap, sv_rev]
  rfl
/-- to a lesser high end: no more turns -/
theorem vr_high {ns : List Int} {a b c d m n : Int} (hb : 0 < b) (hd : 0 < d) (hn : 0 < n) (h1 : m * d ≤ c * n) (h2 : a * n < m * b) (hlt : a * d < c * b) : vr ns a b m n ≤ vr ns a b c d := by
  have hD : 0 < c * b - a * d := by omega
  have k : ((trn ns (m * b) (a * n) (n * b)).map fun x => (d * (c * b - a * d)) ^ (ns.length - 1) * x) = hsh ((c * n - m * d) * b) (n * (c * b - a * d)) ((m * b - a * n) * d) (trn ns (c * b) (a * d) (b * d)) := by
    by_cases hns : ns = []
    · subst hns
      rfl
    · refine ev_ext (by rw [List.length_map, trn_len, hsh_len, trn_len]) 0 fun t _ => ?_
      rw [ev_map, ev_trn, ev_hsh, hv_trn, ← hv_scale' (Int.ne_of_gt (Int.mul_pos hd hD)) hns]
      congr 1 <;> grind
  rw [← vr_swap, ← vr_swap, Int.mul_comm b n]
  rw [← sv_scale (Int.pow_pos (Int.mul_pos hd hD) : 0 < (d * (c * b - a * d)) ^ (ns.length - 1)), k]
  exact svl_hsh (Int.mul_nonneg (by omega) (by omega)) (Int.mul_pos hn hD) (Int.mul_pos (by omega) hd) _ _
/-! one root -/
def Nn (xs : List Int) : Prop := ∀ c ∈ xs, 0 ≤ c
def Up : List Int → Prop
  | [] => True
  | c :: cs => (c ≤ 0 ∧ Up cs) ∨ (0 ≤ c ∧ Nn cs)
theorem Nn_of : ∀ {xs : List Int} {l : Int}, 0 < l → svl l xs = 0 → Nn xs
  | [], _, _, _ => fun c hc => by simp at hc
  | x :: xs, l, hl, h => by
    rw [svl] at h
    split at h
    · rename_i hx
      intro c hc
      rcases List.mem_cons.mp hc with rfl | hc
      · omega
      · exact Nn_of hl h c hc
    · rename_i hx
      have h1 : ¬ x * l < 0 := fun z => by
        rw [if_pos z] at h
        omega
      have h2 : 0 < x := by
        rcases Int.lt_or_gt_of_ne hx with z | z
        · exact absurd (Int.mul_neg_of_neg_of_pos z hl) h1
        · exact z
      rw [if_neg h1, Nat.zero_add] at h
      intro c hc
      rcases List.mem_cons.mp hc with rfl | hc
      · omega
      · exact Nn_of h2 h c hc
theorem Up_of : ∀ {xs : List Int} {l : Int}, l < 0 → svl l xs ≤ 1 → Up xs
  | [], _, _, _ => trivial
  | x :: xs, l, hl, h => by
    rw [svl] at h
    split at h
    · rename_i hx
      exact .inl ⟨by omega, Up_of hl h⟩
    · rename_i hx
      rcases Int.lt_or_gt_of_ne hx with z | z
      · have h1 : ¬ x * l < 0 := fun w => by
          have := Int.mul_pos_of_neg_of_neg z hl
          omega
        rw [if_neg h1, Nat.zero_add] at h
        exact .inl ⟨by omega, Up_of z h⟩
      · have h1 : x * l < 0 := Int.mul_neg_of_pos_of_neg z hl
        rw [if_pos h1] at h
        exact .inr ⟨by omega, Nn_of z (by omega)⟩
theorem hv_nn {p q : Int} (hp : 0 ≤ p) (hq : 0 ≤ q) : ∀ {xs : List Int}, Nn xs → 0 ≤ hv xs p q
  | [], _ => Int.le_refl _
  | x :: xs, h => by
    have h1 : 0 ≤ x * q ^ xs.length := Int.mul_nonneg (h x (by simp)) (Int.pow_nonneg hq)
    have h2 : 0 ≤ p * hv xs p q := Int.mul_nonneg hp (hv_nn hp hq fun c hc => h c (List.mem_cons_of_mem _ hc))
    show 0 ≤ x * q ^ xs.length + p * hv xs p q
    omega
section
variable {p q p' q' : Int}
theorem grow_eq (x : Int) (xs : List Int) (p q q' : Int) : hv (x :: xs) p q * q * q' ^ (x :: xs).length = x * (q * q') ^ (xs.length + 1) + p * q' * (hv xs p q * q * q' ^ xs.length) := by
  show (x * q ^ xs.length + p * hv xs p q) * q * q' ^ (xs.length + 1) = _
  rw [Int.mul_pow, Int.pow_succ, Int.pow_succ]
  grind
theorem grow_nn (hp : 0 ≤ p) (hq : 0 < q) (hp' : 0 ≤ p') (hq' : 0 < q') (h : p * q' ≤ p' * q) : ∀ {xs : List Int}, Nn xs → hv xs p q * q * q' ^ xs.length ≤ hv xs p' q' * q' * q ^ xs.length
  | [], _ => by simp [hv]
  | x :: xs, k => by
    have kx : Nn xs := fun c hc => k c (List.mem_cons_of_mem _ hc)
    have ih := grow_nn hp hq hp' hq' h kx
    have h0 : 0 ≤ hv xs p q * q * q' ^ xs.length := Int.mul_nonneg (Int.mul_nonneg (hv_nn hp (Int.le_of_lt hq) kx) (Int.le_of_lt hq)) (Int.pow_nonneg (Int.le_of_lt hq'))
    rw [grow_eq, grow_eq, Int.mul_comm q' q]
    have h1 := Int.mul_le_mul_of_nonneg_right h h0
    have h2 := Int.mul_le_mul_of_nonneg_left ih (Int.mul_nonneg hp' (Int.le_of_lt hq))
    omega
theorem grow_up (hp : 0 < p) (hq : 0 < q) (hp' : 0 < p') (hq' : 0 < q') (h : p * q' ≤ p' * q) : ∀ {xs : List Int}, Up xs → 0 ≤ hv xs p q → hv xs p q * q * q' ^ xs.length ≤ hv xs p' q' * q' * q ^ xs.length
  | [], _, _ => by simp [hv]
  | x :: xs, k, h0 => by
    rcases k with ⟨k1, k2⟩ | ⟨k1, k2⟩
    · have e0 : 0 ≤ x * q ^ xs.length + p * hv xs p q := h0
      have e1 : x * q ^ xs.length ≤ 0 := Int.mul_nonpos_of_nonpos_of_nonneg k1 (Int.pow_nonneg (Int.le_of_lt hq))
      have e2 : 0 ≤ hv xs p q := by
        have : 0 ≤ p * hv xs p q := by omega
        exact Int.nonneg_of_mul_nonneg_right this hp
      have ih := grow_up hp hq hp' hq' h k2 e2
      have h0 : 0 ≤ hv xs p q * q * q' ^ xs.length := Int.mul_nonneg (Int.mul_nonneg e2 (Int.le_of_lt hq)) (Int.pow_nonneg (Int.le_of_lt hq'))
      rw [grow_eq, grow_eq, Int.mul_comm q' q]
      have h1 := Int.mul_le_mul_of_nonneg_right h h0
      have h2 := Int.mul_le_mul_of_nonneg_left ih (Int.mul_nonneg (Int.le_of_lt hp') (Int.le_of_lt hq))
      omega
    · exact grow_nn (Int.le_of_lt hp) hq (Int.le_of_lt hp') hq' h fun c hc => by
        rcases List.mem_cons.mp hc with rfl | hc
        · exact k1
        · exact k2 c hc
theorem grow_lt (hp : 0 ≤ p) (hq : 0 < q) (hp' : 0 < p') (hq' : 0 < q') (h : p * q' < p' * q) {x : Int} {xs : List Int} (hx : x < 0) (k : Up xs) (h0 : 0 ≤ hv (x :: xs) p q) : 0 < hv (x :: xs) p' q' := by
  have e0 : 0 ≤ x * q ^ xs.length + p * hv xs p q := h0
  have e1 : x * q ^ xs.length < 0 := Int.mul_neg_of_neg_of_pos hx (Int.pow_pos hq)
  have e2 : 0 < p * hv xs p q := by omega
  have hp0 : 0 < p := by
    rcases Int.lt_or_eq_of_le hp with z | z
    · exact z
    · rw [← z, Int.zero_mul] at e2
      omega
  have e3 : 0 < hv xs p q := Int.pos_of_mul_pos_right e2 hp0
  have ih := grow_up hp0 hq hp' hq' (Int.le_of_lt h) k (Int.le_of_lt e3)
  have h1 : 0 < hv xs p q * q * q' ^ xs.length := Int.mul_pos (Int.mul_pos e3 hq) (Int.pow_pos hq')
  have g1 := grow_eq x xs p q q'
  have g2 := grow_eq x xs p' q' q
  rw [Int.mul_comm q' q] at g2
  have h2 := Int.mul_lt_mul_of_pos_right h h1
  have h3 := Int.mul_le_mul_of_nonneg_left ih (Int.mul_nonneg (Int.le_of_lt hp') (Int.le_of_lt hq))
  have h4 : 0 ≤ hv (x :: xs) p q * q * q' ^ (x :: xs).length := Int.mul_nonneg (Int.mul_nonneg h0 (Int.le_of_lt hq)) (Int.pow_nonneg (Int.le_of_lt hq'))
  have h5 : 0 < hv (x :: xs) p' q' * q' * q ^ (x :: xs).length := by omega
  have h6 : 0 < q' * q ^ (x :: xs).length := Int.mul_pos hq' (Int.pow_pos hq)
  rw [Int.mul_assoc] at h5
  exact Int.pos_of_mul_pos_left h5 h6
end
/-! pegs: the row turns just once from a/b to c/d -/
structure Peg (ns : List Int) (a b c d : Int) : Prop where
  ne : ns ≠ []
  pb : 0 < b
  pd : 0 < d
  lt : a * d < c * b
  l : hv ns a b ≠ 0
  h : hv ns c d ≠ 0
  v : vr ns a b c d = 1
theorem Peg.opp {ns : List Int} {a b c d : Int} (P : Peg ns a b c d) : hv ns a b * hv ns c d < 0 := by
  have k := vr_par P.ne P.pb P.pd P.l P.h
  rw [P.v] at k
  split at k
  · assumption
  · omega
theorem neg_ne {ns : List Int} (h : ns ≠ []) : (ns.map fun x => -1 * x) ≠ [] := fun z => h (List.map_eq_nil_iff.mp z)
theorem trn_neg (ns : List Int) (b e h : Int) : trn (ns.map fun x => -1 * x) b e h = (trn ns b e h).map fun x => -1 * x := by
  refine ev_ext (by rw [trn_len, List.length_map, List.length_map, trn_len]) 0 fun t _ => ?_
  rw [ev_trn, hv_map, ev_map, ev_trn]
theorem Peg.neg {ns : List Int} {a b c d : Int} (P : Peg ns a b c d) : Peg (ns.map fun x => -1 * x) a b c d where
  ne := neg_ne P.ne
  pb := P.pb
  pd := P.pd
  lt := P.lt
  l := by rw [hv_map]; have := P.l; omega
  h := by rw [hv_map]; have := P.h; omega
  v := by rw [vr, trn_neg, sv_neg]; exact P.v
theorem hv_at {ns : List Int} (hns : ns ≠ []) {a b c d m n : Int} (hb : 0 < b) (hd : 0 < d) (hlt : a * d < c * b) : (hv (trn ns (a * d) (c * b) (b * d)) ((m * b - a * n) * d) ((c * n - m * d) * b)).sign = (hv ns m n).sign := by
  have hD : 0 < c * b - a * d := by omega
  rw [hv_trn, ← hv_sign (k := b * d * (c * b - a * d)) (p := m) (q := n) (Int.mul_pos (Int.mul_pos hb hd) hD) hns]
  congr 2 <;> grind
theorem Peg.cut1 {ns : List Int} {a b c d : Int} (P : Peg ns a b c d) (hpos : 0 < hv ns c d) {m n r s : Int} (hn : 0 < n) (hs : 0 < s) (h1 : a * n ≤ m * b) (h2 : m * s < r * n) (h3 : r * d ≤ c * s) (h : 0 ≤ hv ns m n) : 0 < hv ns r s := by
  have hb := P.pb
  have hd := P.pd
  have hlt := P.lt
  have hneg : hv ns a b < 0 := by
    have := P.opp
    rcases Int.lt_or_gt_of_ne P.l with z | z
    · exact z
    · have := Int.mul_pos z hpos
      omega
  by_cases e : r * d = c * s
  · have q1 : (hv ns (d * r) (d * s)).sign = (hv ns r s).sign := hv_sign hd P.ne
    have q2 : (hv ns (s * c) (s * d)).sign = (hv ns c d).sign := hv_sign hs P.ne
    rw [Int.mul_comm d r, e, Int.mul_comm d s, Int.mul_comm c s, q2] at q1
    rw [← sign_pos_iff, ← q1, sign_pos_iff]
    exact hpos
  · have h3 : r * d < c * s := by omega
    have hmd : m * d < c * n := by
      have z1 : m * s * d < r * n * d := Int.mul_lt_mul_of_pos_right h2 hd
      have z2 : r * d * n < c * s * n := Int.mul_lt_mul_of_pos_right h3 hn
      have z3 : s * (m * d) < s * (c * n) := by grind
      exact Int.lt_of_mul_lt_mul_left z3 (Int.le_of_lt hs)
    have har : a * s < r * b := by
      have z1 : a * n * s ≤ m * b * s := Int.mul_le_mul_of_nonneg_right h1 (Int.le_of_lt hs)
      have z2 : m * s * b < r * n * b := Int.mul_lt_mul_of_pos_right h2 hb
      have z3 : n * (a * s) < n * (r * b) := by grind
      exact Int.lt_of_mul_lt_mul_left z3 (Int.le_of_lt hn)
    have s1 := hv_at P.ne (m := m) (n := n) hb hd hlt
    have s2 := hv_at P.ne (m := r) (n := s) hb hd hlt
    have cross : (m * b - a * n) * d * ((c * s - r * d) * b) < (r * b - a * s) * d * ((c * n - m * d) * b) := by
      have hD : 0 < c * b - a * d := by omega
      have z : 0 < b * d * (c * b - a * d) * (r * n - m * s) := Int.mul_pos (Int.mul_pos (Int.mul_pos hb hd) hD) (by omega)
      grind
    have v1 := P.v
    unfold vr at v1
    have hh : hv ns (a * d) (b * d) < 0 := by
      have q : (hv ns (d * a) (d * b)).sign = (hv ns a b).sign := hv_sign hd P.ne
      rw [Int.mul_comm d a, Int.mul_comm d b] at q
      rw [← sign_neg_iff, q, sign_neg_iff]
      exact hneg
    have tn := trn_ne (b := a * d) (e := c * b) (h := b * d) P.ne
    have th := trn_head tn
    generalize trn ns (a * d) (c * b) (b * d) = T at *
    match T, tn, th with
    | x :: xs, _, th =>
      have hx : x < 0 := by
        have th : x = _ := th
        omega
      have up : Up xs := by
        refine Up_of hx ?_
        rw [sv, svl, if_neg (by omega), Int.mul_zero, if_neg (by omega), Nat.zero_add] at v1
        omega
      have k0 : 0 ≤ hv (x :: xs) ((m * b - a * n) * d) ((c * n - m * d) * b) := by
        rcases sgn3 (hv ns m n) with z | z | z
        · rw [sign_neg_iff] at z
          omega
        · rw [z, sign_zero_iff] at s1
          omega
        · rw [z, sign_pos_iff] at s1
          omega
      have := grow_lt (Int.mul_nonneg (by omega) (Int.le_of_lt hd)) (Int.mul_pos (by omega) hb) (Int.mul_pos (by omega) hd) (Int.mul_pos (by omega) hb) cross hx up k0
      rw [← sign_pos_iff, ← s2, sign_pos_iff]
      exact this
/-- behind where the row isn't below nought (above: as at the high end) it is above -/
theorem Peg.cut {ns : List Int} {a b c d : Int} (P : Peg ns a b c d) {m n r s : Int} (hn : 0 < n) (hs : 0 < s) (h1 : a * n ≤ m * b) (h2 : m * s < r * n) (h3 : r * d ≤ c * s) (h : 0 ≤ hv ns m n * hv ns c d) : 0 < hv ns r s * hv ns c d := by
  rcases Int.lt_or_gt_of_ne P.h with z | z
  · have P' := P.neg
    have k := P'.cut1 (by rw [hv_map]; omega) hn hs h1 h2 h3 (by
      rw [hv_map]
      have : ¬ 0 < hv ns m n := fun w => by
        have := Int.mul_neg_of_pos_of_neg w z
        omega
      omega)
    rw [hv_map] at k
    exact Int.mul_pos_of_neg_of_neg (by omega) z
  · refine Int.mul_pos (P.cut1 z hn hs h1 h2 h3 ?_) z
    have : ¬ hv ns m n < 0 := fun w => by
      have := Int.mul_neg_of_neg_of_pos w z
      omega
    omega
theorem Peg.sub {ns : List Int} {a b c d : Int} (P : Peg ns a b c d) {m n r s : Int} (hn : 0 < n) (hs : 0 < s) (h1 : a * n ≤ m * b) (h2 : m * s < r * n) (h3 : r * d ≤ c * s) (h : hv ns m n * hv ns r s < 0) : Peg ns m n r s := by
  have hb := P.pb
  have hd := P.pd
  have hmd : m * d < c * n := by
    have z1 : m * s * d < r * n * d := Int.mul_lt_mul_of_pos_right h2 hd
    have z2 : r * d * n ≤ c * s * n := Int.mul_le_mul_of_nonneg_right h3 (Int.le_of_lt hn)
    have z3 : s * (m * d) < s * (c * n) := by grind
    exact Int.lt_of_mul_lt_mul_left z3 (Int.le_of_lt hs)
  have v1 := vr_low (ns := ns) hb hd hn h1 hmd P.lt
  have v2 := vr_high (ns := ns) hn hd hs h3 h2 hmd
  have n1 : hv ns m n ≠ 0 := fun z => by rw [z, Int.zero_mul] at h; omega
  have n2 : hv ns r s ≠ 0 := fun z => by rw [z, Int.mul_zero] at h; omega
  have par := vr_par P.ne hn hs n1 n2
  rw [if_pos h] at par
  have := P.v
  exact ⟨P.ne, hn, hs, h2, n1, n2, by omega⟩
end PL

namespace PL
open PySem PySem.Spec PyProof.Rows L2
/-! pegs as values -/
abbrev pv (p q : Int) : PV := .tup [.int p, .int q]
abbrev pgv (ns : List Int) (a b c d : Int) : PV := .tup [.tup (ns.map PV.int), pv a b, pv c d]
theorem dep_pv (a b : Int) : dep (pv a b) = 1 := by simp [dep, deps]
theorem plain_pgv (ns : List Int) (a b c d : Int) : plain (pgv ns a b c d) = true := by simp [plain, plains, plains_int]
theorem shP_pv (a b : Int) : shP (pv a b) = true := shP_of rfl (by rw [dep_pv]; decide)
theorem shP_pgv (ns : List Int) (a b c d : Int) : shP (pgv ns a b c d) = true := shP_of (plain_pgv ns a b c d) (by simp [dep, deps, deps_int])
theorem shP_row (ns : List Int) : shP (.tup (ns.map PV.int)) = true := shP_of (plains_int ns) (by simp [dep, deps_int])
theorem shP_iL (ns : List Int) : shP (iL ns) = true := shP_of (plains_int ns) (by simp [dep, deps_int])
theorem eqP_bl (b : Bool) : eqP (.bl b) (.bl b) = true := by cases b <;> rfl
/-! the middle -/
def mid (a b c d : Int) : Int × Int := prt (a * d + c * b) (2 * b * d)
theorem mid_part {a b c d : Int} (hb : b ≠ 0) (hd : d ≠ 0) : IsPart (mid a b c d).1 (mid a b c d).2 := prt_part (Int.mul_ne_zero (Int.mul_ne_zero (by decide) hb) hd)
theorem mid_cross (a b c d : Int) : (mid a b c d).1 * (2 * b * d) = (a * d + c * b) * (mid a b c d).2 := prt_cross _ _
theorem mid_low {a b c d : Int} (hb : 0 < b) (hd : 0 < d) (h : a * d < c * b) : a * (mid a b c d).2 < (mid a b c d).1 * b := by
  have hp := (mid_part (a := a) (c := c) (Int.ne_of_gt hb) (Int.ne_of_gt hd)).pos
  have hx := mid_cross a b c d
  generalize (mid a b c d).1 = m at *
  generalize (mid a b c d).2 = n at *
  have z : b * n * (a * d) < b * n * (c * b) := Int.mul_lt_mul_of_pos_left h (Int.mul_pos hb hp)
  have e : 2 * b * d * (m * b) = (a * d + c * b) * n * b := by grind
  have z2 : 2 * b * d * (a * n) < 2 * b * d * (m * b) := by rw [e]; clear hx e; grind
  exact Int.lt_of_mul_lt_mul_left z2 (Int.le_of_lt (Int.mul_pos (Int.mul_pos (by decide) hb) hd))
theorem mid_high {a b c d : Int} (hb : 0 < b) (hd : 0 < d) (h : a * d < c * b) : (mid a b c d).1 * d < c * (mid a b c d).2 := by
  have hp := (mid_part (a := a) (c := c) (Int.ne_of_gt hb) (Int.ne_of_gt hd)).pos
  have hx := mid_cross a b c d
  generalize (mid a b c d).1 = m at *
  generalize (mid a b c d).2 = n at *
  have z : d * n * (a * d) < d * n * (c * b) := Int.mul_lt_mul_of_pos_left h (Int.mul_pos hd hp)
  have e : 2 * b * d * (m * d) = (a * d + c * b) * n * d := by grind
  have z2 : 2 * b * d * (m * d) < 2 * b * d * (c * n) := by rw [e]; clear hx e; grind
  exact Int.lt_of_mul_lt_mul_left z2 (Int.le_of_lt (Int.mul_pos (Int.mul_pos (by decide) hb) hd))
theorem mid_sz {n : Nat} {a b c d : Int} (sa : Sz n a) (sb : Sz n b) (sc : Sz n c) (sd : Sz n d) : Sz (2 * n + 2) (mid a b c d).1 ∧ Sz (2 * n + 2) (mid a b c d).2 := by
  refine ⟨prt_sz1 _ (((sa.mul sd).mono (Nat.le_of_eq (by omega))).add ((sc.mul sb).mono (Nat.le_of_eq (by omega))) |>.mono (m := 2 * n + 1) (by omega)), prt_sz2 _ ((((SzL (n := 2) (by decide) : Sz 2 2).mul sb).mul sd).mono (by omega))⟩
/-! lines of fractions -/
theorem lt_tr {a b c d e f : Int} (hb : 0 < b) (hd : 0 < d) (hf : 0 < f) (h1 : a * d < c * b) (h2 : c * f < e * d) : a * f < e * b := by
  have z1 : a * d * f < c * b * f := Int.mul_lt_mul_of_pos_right h1 hf
  have z2 : c * f * b < e * d * b := Int.mul_lt_mul_of_pos_right h2 hb
  have z3 : d * (a * f) < d * (e * b) := by grind
  exact Int.lt_of_mul_lt_mul_left z3 (Int.le_of_lt hd)
theorem le_tr {a b c d e f : Int} (hb : 0 < b) (hd : 0 < d) (hf : 0 < f) (h1 : a * d ≤ c * b) (h2 : c * f ≤ e * d) : a * f ≤ e * b := by
  have z1 : a * d * f ≤ c * b * f := Int.mul_le_mul_of_nonneg_right h1 (Int.le_of_lt hf)
  have z2 : c * f * b ≤ e * d * b := Int.mul_le_mul_of_nonneg_right h2 (Int.le_of_lt hb)
  have z3 : d * (a * f) ≤ d * (e * b) := by grind
  exact Int.le_of_mul_le_mul_left z3 hd
/-! halved -/
structure Sx where
  a : Int
  b : Int
  c : Int
  d : Int
abbrev PegX (ns : List Int) (s : Sx) : Prop := Peg ns s.a s.b s.c s.d
abbrev pgx (ns : List Int) (s : Sx) : PV := pgv ns s.a s.b s.c s.d
structure Prts (s : Sx) : Prop where
  l : IsPart s.a s.b
  h : IsPart s.c s.d
def hlf (ns : List Int) (s : Sx) : Sx :=
  let m := mid s.a s.b s.c s.d
  if hv ns m.1 m.2 = 0 then ⟨(mid s.a s.b m.1 m.2).1, (mid s.a s.b m.1 m.2).2, (mid m.1 m.2 s.c s.d).1, (mid m.1 m.2 s.c s.d).2⟩
  else if (hv ns m.1 m.2).sign = (hv ns s.a s.b).sign then ⟨m.1, m.2, s.c, s.d⟩ else ⟨s.a, s.b, m.1, m.2⟩
/-- s lies in t -/
structure Within (s t : Sx) : Prop where
  l : t.a * s.b ≤ s.a * t.b
  h : s.c * t.d ≤ t.c * s.d
theorem Within.refl (s : Sx) : Within s s := ⟨Int.le_refl _, Int.le_refl _⟩
theorem Within.trans {s t u : Sx} (hs : 0 < s.b ∧ 0 < s.d) (ht : 0 < t.b ∧ 0 < t.d) (hu : 0 < u.b ∧ 0 < u.d) (h1 : Within s t) (h2 : Within t u) : Within s u :=
  ⟨le_tr hu.1 ht.1 hs.1 h2.l h1.l, le_tr hs.2 ht.2 hu.2 h1.h h2.h⟩
theorem Peg.pos {ns : List Int} {s : Sx} (P : PegX ns s) : 0 < s.b ∧ 0 < s.d := ⟨P.pb, P.pd⟩
theorem hlf_ok {ns : List Int} {s : Sx} (P : PegX ns s) (Q : Prts s) : PegX ns (hlf ns s) ∧ Prts (hlf ns s) ∧ Within (hlf ns s) s ∧ 2 * (((hlf ns s).c * (hlf ns s).b - (hlf ns s).a * (hlf ns s).d) * (s.b * s.d)) = (s.c * s.b - s.a * s.d) * ((hlf ns s).b * (hlf ns s).d) := by
  obtain ⟨a, b, c, d⟩ := s
  have hb : 0 < b := P.pb
  have hd : 0 < d := P.pd
  have hlt : a * d < c * b := P.lt
  have hm := mid_part (a := a) (c := c) (Int.ne_of_gt hb) (Int.ne_of_gt hd)
  have hx := mid_cross a b c d
  have m1 := mid_low hb hd hlt
  have m2 := mid_high hb hd hlt
  have opp : hv ns a b * hv ns c d < 0 := P.opp
  unfold hlf
  dsimp only
  generalize (mid a b c d).1 = m at *
  generalize (mid a b c d).2 = n at *
  have hn := hm.pos
  by_cases h0 : hv ns m n = 0
  · rw [if_pos h0]
    have p1 := mid_part (a := a) (c := m) (Int.ne_of_gt hb) (Int.ne_of_gt hn)
    have p2 := mid_part (a := m) (c := c) (Int.ne_of_gt hn) (Int.ne_of_gt hd)
    have x1 := mid_cross a b m n
    have x2 := mid_cross m n c d
    have l1 := mid_low hb hn m1
    have l2 := mid_high hb hn m1
    have r1 := mid_low hn hd m2
    have r2 := mid_high hn hd m2
    generalize (mid a b m n).1 = u at *
    generalize (mid a b m n).2 = v at *
    generalize (mid m n c d).1 = u' at *
    generalize (mid m n c d).2 = v' at *
    have hv' := p1.pos
    have hv2 := p2.pos
    have lt : u * v' < u' * v := lt_tr hv' hn hv2 l2 r1
    have n1 : hv ns u v * hv ns c d < 0 := by
      have z : ¬ 0 ≤ hv ns u v * hv ns c d := fun z => by
        have := P.cut hv' hn (Int.le_of_lt l1) l2 (Int.le_of_lt m2) z
        rw [h0, Int.zero_mul] at this
        omega
      omega
    have n2 : 0 < hv ns u' v' * hv ns c d := P.cut hn hv2 (Int.le_of_lt m1) r1 (Int.le_of_lt r2) (by rw [h0, Int.zero_mul]; exact Int.le_refl _)
    have nn : hv ns u v * hv ns u' v' < 0 := by
      have z := Int.mul_neg_of_neg_of_pos n1 n2
      have e : hv ns u v * hv ns c d * (hv ns u' v' * hv ns c d) = hv ns c d * hv ns c d * (hv ns u v * hv ns u' v') := by grind
      rw [e] at z
      have pp : 0 ≤ hv ns c d * hv ns c d := by
        rcases Int.le_total 0 (hv ns c d) with y | y
        · exact Int.mul_nonneg y y
        · exact Int.mul_nonneg_of_nonpos_of_nonpos y y
      have : ¬ 0 ≤ hv ns u v * hv ns u' v' := fun y => by
        have := Int.mul_nonneg pp y
        omega
      omega
    refine ⟨P.sub hv' hv2 (Int.le_of_lt l1) lt (Int.le_of_lt r2) nn, ⟨p1, p2⟩, ⟨Int.le_of_lt l1, Int.le_of_lt r2⟩, ?_⟩
    show 2 * ((u' * v - u * v') * (b * d)) = (c * b - a * d) * (v * v')
    have g : b * d * n * n ≠ 0 := Int.mul_ne_zero (Int.mul_ne_zero (Int.mul_ne_zero (by omega) (by omega)) (by omega)) (by omega)
    refine Int.eq_of_mul_eq_mul_left g ?_
    grind
  · rw [if_neg h0]
    by_cases h1 : (hv ns m n).sign = (hv ns a b).sign
    · rw [if_pos h1]
      refine ⟨P.sub hn hd (Int.le_of_lt m1) m2 (Int.le_refl _) ?_, ⟨hm, Q.h⟩, ⟨Int.le_of_lt m1, Int.le_refl _⟩, ?_⟩
      · rw [mul_neg_sign] at opp ⊢
        rw [h1]
        exact opp
      · show 2 * ((c * n - m * d) * (b * d)) = (c * b - a * d) * (n * d)
        grind
    · rw [if_neg h1]
      refine ⟨P.sub hb hn (Int.le_refl _) m1 (Int.le_of_lt m2) ?_, ⟨Q.l, hm⟩, ⟨Int.le_refl _, Int.le_of_lt m2⟩, ?_⟩
      · rw [mul_neg_sign] at opp ⊢
        have a1 := sgn3 (hv ns a b)
        have a2 := sgn3 (hv ns m n)
        have a3 := sgn3 (hv ns c d)
        have h0 := sign_ne0.mpr h0
        generalize (hv ns a b).sign = x at *
        generalize (hv ns m n).sign = y at *
        generalize (hv ns c d).sign = z at *
        rcases a1 with rfl | rfl | rfl <;> rcases a2 with rfl | rfl | rfl <;> rcases a3 with rfl | rfl | rfl <;> simp at opp h1 h0 ⊢
      · show 2 * ((m * b - a * n) * (b * d)) = (c * b - a * d) * (b * n)
        grind
/-! the ends over one bottom: how great they are -/
structure Rep2 (s : Sx) (X Y N : Int) : Prop where
  n : 0 < N
  l : s.a * N = X * s.b
  h : s.c * N = Y * s.d
theorem prt_le {p q X N : Int} (h : IsPart p q) (hN : 0 < N) (e : p * N = X * q) : p.natAbs ≤ X.natAbs ∧ q.natAbs ≤ N.natAbs := by
  have hq : q ∣ N := by
    refine cop_dvd (a := p) ?_ (by rw [Int.gcd_comm]; exact h.low)
    exact ⟨X, by rw [e, Int.mul_comm]⟩
  obtain ⟨k, rfl⟩ := hq
  have hp := h.pos
  have hk : k ≠ 0 := fun z => by
    rw [z, Int.mul_zero] at hN
    omega
  have e2 : X = p * k := by
    refine Int.eq_of_mul_eq_mul_right (Int.ne_of_gt hp) ?_
    rw [← e]
    grind
  rw [e2, Int.natAbs_mul, Int.natAbs_mul]
  exact ⟨Nat.le_mul_of_pos_right _ (by omega), Nat.le_mul_of_pos_right _ (by omega)⟩
theorem Rep2.sz {s : Sx} {X Y N : Int} {n : Nat} (R : Rep2 s X Y N) (Q : Prts s) (sX : Sz n X) (sY : Sz n Y) (sN : Sz n N) : Sz n s.a ∧ Sz n s.b ∧ Sz n s.c ∧ Sz n s.d :=
  ⟨sX.le (prt_le Q.l R.n R.l).1, sN.le (prt_le Q.l R.n R.l).2, sY.le (prt_le Q.h R.n R.h).1, sN.le (prt_le Q.h R.n R.h).2⟩
theorem hlf_rep {ns : List Int} {s : Sx} {X Y N : Int} {n : Nat} (P : PegX ns s) (R : Rep2 s X Y N) (sX : Sz n X) (sY : Sz n Y) (sN : Sz n N) : ∃ X' Y', Rep2 (hlf ns s) X' Y' (4 * N) ∧ Sz (n + 3) X' ∧ Sz (n + 3) Y' ∧ Sz (n + 3) (4 * N) := by
  obtain ⟨a, b, c, d⟩ := s
  have hb : 0 < b := P.pb
  have hd : 0 < d := P.pd
  have hm := mid_part (a := a) (c := c) (Int.ne_of_gt hb) (Int.ne_of_gt hd)
  have hx := mid_cross a b c d
  have hN := R.n
  have r1 : a * N = X * b := R.l
  have r2 : c * N = Y * d := R.h
  have s4 : Sz (n + 3) (4 * N) := ((SzL (n := 3) (by decide) : Sz 3 4).mul sN).mono (by omega)
  have s3 : ∀ {x : Int}, Sz n x → Sz (n + 2) (3 * x) := fun {x} h => ((SzL (n := 2) (by decide) : Sz 2 3).mul h).mono (by omega)
  have s2 : ∀ {x : Int}, Sz n x → Sz (n + 2) (2 * x) := fun {x} h => ((SzL (n := 2) (by decide) : Sz 2 2).mul h).mono (by omega)
  have s44 : ∀ {x : Int}, Sz n x → Sz (n + 3) (4 * x) := fun {x} h => ((SzL (n := 3) (by decide) : Sz 3 4).mul h).mono (by omega)
  unfold hlf
  dsimp only
  generalize (mid a b c d).1 = m at *
  generalize (mid a b c d).2 = n' at *
  have hn := hm.pos
  have rm : m * (4 * N) = (2 * X + 2 * Y) * n' := by
    have g : b * d ≠ 0 := Int.mul_ne_zero (by omega) (by omega)
    refine Int.eq_of_mul_eq_mul_left g ?_
    grind
  split
  · have p1 := mid_part (a := a) (c := m) (Int.ne_of_gt hb) (Int.ne_of_gt hn)
    have p2 := mid_part (a := m) (c := c) (Int.ne_of_gt hn) (Int.ne_of_gt hd)
    have x1 := mid_cross a b m n'
    have x2 := mid_cross m n' c d
    refine ⟨3 * X + Y, X + 3 * Y, ⟨by omega, ?_, ?_⟩, (s3 sX).add (sY.mono (by omega)), (sX.mono (by omega)).add (s3 sY), s4⟩
    · show (mid a b m n').1 * (4 * N) = (3 * X + Y) * (mid a b m n').2
      have g : b * n' ≠ 0 := Int.mul_ne_zero (by omega) (by omega)
      refine Int.eq_of_mul_eq_mul_left g ?_
      grind
    · show (mid m n' c d).1 * (4 * N) = (X + 3 * Y) * (mid m n' c d).2
      have g : n' * d ≠ 0 := Int.mul_ne_zero (by omega) (by omega)
      refine Int.eq_of_mul_eq_mul_left g ?_
      grind
  · split
    · exact ⟨2 * X + 2 * Y, 4 * Y, ⟨by omega, rm, by show c * (4 * N) = 4 * Y * d; grind⟩, (s2 sX).add (s2 sY), s44 sY, s4⟩
    · exact ⟨4 * X, 2 * X + 2 * Y, ⟨by omega, by show a * (4 * N) = 4 * X * b; grind, rm⟩, s44 sX, (s2 sX).add (s2 sY), s4⟩
/-! made narrower -/
def wcond (wp wq : Int) (s : Sx) : Prop := wp * (s.b * s.d) < (s.c * s.b - s.a * s.d) * wq
instance (wp wq : Int) (s : Sx) : Decidable (wcond wp wq s) := inferInstanceAs (Decidable (_ < _))
def nrw (ns : List Int) (wp wq : Int) : Nat → Sx → Sx
  | 0, s => s
  | k + 1, s => if wcond wp wq s then nrw ns wp wq k (hlf ns s) else s
/-- k halvings are enough -/
def Enough (wp wq : Int) (k : Nat) (s : Sx) : Prop := (s.c * s.b - s.a * s.d) * wq ≤ 2 ^ k * (wp * (s.b * s.d))
theorem Enough.zero {wp wq : Int} {s : Sx} (h : Enough wp wq 0 s) : ¬ wcond wp wq s := by
  unfold Enough at h
  unfold wcond
  rw [Int.pow_zero, Int.one_mul] at h
  omega
theorem Enough.next {ns : List Int} {wp wq : Int} {s : Sx} {k : Nat} (P : PegX ns s) (Q : Prts s) (h : Enough wp wq (k + 1) s) : Enough wp wq k (hlf ns s) := by
  have e := (hlf_ok P Q).2.2.2
  have p1 := (hlf_ok P Q).1.pos
  have p0 := P.pos
  unfold Enough at *
  generalize (hlf ns s) = t at *
  have hb := Int.mul_pos p0.1 p0.2
  have ht := Int.mul_pos p1.1 p1.2
  have z := Int.mul_le_mul_of_nonneg_right h (Int.le_of_lt ht)
  rw [Int.pow_succ] at z
  generalize (2 : Int) ^ k = K at *
  have e2 : (s.c * s.b - s.a * s.d) * wq * (t.b * t.d) = 2 * (s.b * s.d) * ((t.c * t.b - t.a * t.d) * wq) := by
    have : (s.c * s.b - s.a * s.d) * wq * (t.b * t.d) = (s.c * s.b - s.a * s.d) * (t.b * t.d) * wq := by grind
    rw [this, ← e]
    grind
  have e3 : K * 2 * (wp * (s.b * s.d)) * (t.b * t.d) = 2 * (s.b * s.d) * (K * (wp * (t.b * t.d))) := by grind
  rw [e2, e3] at z
  exact Int.le_of_mul_le_mul_left z (Int.mul_pos (by decide) hb)
theorem nrw_fuel {ns : List Int} {wp wq : Int} : ∀ {j k : Nat} {s : Sx}, PegX ns s → Prts s → Enough wp wq j s → Enough wp wq k s → nrw ns wp wq j s = nrw ns wp wq k s
  | 0, 0, _, _, _, _, _ => rfl
  | 0, k + 1, s, _, _, h, _ => by rw [nrw, nrw, if_neg h.zero]
  | j + 1, 0, s, _, _, _, h => by rw [nrw, nrw, if_neg h.zero]
  | j + 1, k + 1, s, P, Q, h1, h2 => by
    rw [nrw, nrw]
    split
    · exact nrw_fuel (hlf_ok P Q).1 (hlf_ok P Q).2.1 (h1.next P Q) (h2.next P Q)
    · rfl
theorem nrw_ok {ns : List Int} {wp wq : Int} : ∀ {k : Nat} {s : Sx}, PegX ns s → Prts s → Enough wp wq k s → PegX ns (nrw ns wp wq k s) ∧ Prts (nrw ns wp wq k s) ∧ Within (nrw ns wp wq k s) s ∧ ¬ wcond wp wq (nrw ns wp wq k s)
  | 0, s, P, Q, h => ⟨P, Q, Within.refl s, h.zero⟩
  | k + 1, s, P, Q, h => by
    rw [nrw]
    split
    · obtain ⟨P1, Q1, W1, _⟩ := hlf_ok P Q
      obtain ⟨P2, Q2, W2, n2⟩ := nrw_ok P1 Q1 (h.next P Q)
      exact ⟨P2, Q2, Within.trans P2.pos P1.pos P.pos W2 W1, n2⟩
    · rename_i hc
      exact ⟨P, Q, Within.refl s, hc⟩
theorem nrw_stay {ns : List Int} {wp wq : Int} {s : Sx} (h : ¬ wcond wp wq s) : ∀ k, nrw ns wp wq k s = s
  | 0 => rfl
  | k + 1 => by rw [nrw, if_neg h]
def fuel (wq : Int) (s : Sx) : Nat := ((s.c * s.b - s.a * s.d) * wq).toNat
theorem fuel_ok {wp wq : Int} {s : Sx} (hw : 0 < wp) (p : 0 < s.b ∧ 0 < s.d) : Enough wp wq (fuel wq s) s := by
  have h1 : (s.c * s.b - s.a * s.d) * wq ≤ (fuel wq s : Int) := by
    unfold fuel
    omega
  have h2 : (fuel wq s : Int) ≤ 2 ^ fuel wq s := by
    have := Nat.lt_two_pow_self (n := fuel wq s)
    have e : ((2 ^ fuel wq s : Nat) : Int) = 2 ^ fuel wq s := by simp
    omega
  have h3 : 1 ≤ wp * (s.b * s.d) := Int.mul_pos hw (Int.mul_pos p.1 p.2)
  have h4 : (0 : Int) ≤ 2 ^ fuel wq s := Int.le_of_lt (Int.pow_pos (by decide))
  have h5 := Int.mul_le_mul_of_nonneg_left h3 h4
  unfold Enough
  omega
def nar (ns : List Int) (wp wq : Int) (s : Sx) : Sx := nrw ns wp wq (fuel wq s) s
/-- below asks it so -/
theorem wcond_iff {wp wq : Int} {s : Sx} (p : 0 < s.b ∧ 0 < s.d) : wp * (prt (s.c * s.b + -s.a * s.d) (s.d * s.b)).2 < (prt (s.c * s.b + -s.a * s.d) (s.d * s.b)).1 * wq ↔ wcond wp wq s := by
  have hd : 0 < s.d * s.b := Int.mul_pos p.2 p.1
  have hx := prt_cross (s.c * s.b + -s.a * s.d) (s.d * s.b)
  have hp := (prt_part (a := s.c * s.b + -s.a * s.d) (Int.ne_of_gt hd)).pos
  unfold wcond
  generalize (prt (s.c * s.b + -s.a * s.d) (s.d * s.b)).1 = u at *
  generalize (prt (s.c * s.b + -s.a * s.d) (s.d * s.b)).2 = v at *
  have e1 : wp * v * (s.d * s.b) = v * (wp * (s.b * s.d)) := by grind
  have e2 : u * wq * (s.d * s.b) = v * ((s.c * s.b - s.a * s.d) * wq) := by
    have : u * wq * (s.d * s.b) = u * (s.d * s.b) * wq := by grind
    rw [this, hx]
    grind
  constructor
  · intro h
    have z := Int.mul_lt_mul_of_pos_right h hd
    rw [e1, e2] at z
    exact Int.lt_of_mul_lt_mul_left z (Int.le_of_lt hp)
  · intro h
    have z := Int.mul_lt_mul_of_pos_left h hp
    rw [← e1, ← e2] at z
    exact Int.lt_of_mul_lt_mul_right z (Int.le_of_lt hd)
/-! a row by its greatest common divisor -/
def gcdF : Int → List Int → Int
  | g, [] => g
  | g, x :: xs => gcdF (Int.gcd g x) xs
theorem gcdF_app : ∀ (xs ys : List Int) (g : Int), gcdF g (xs ++ ys) = gcdF (gcdF g xs) ys
  | [], _, _ => rfl
  | x :: xs, ys, g => gcdF_app xs ys _
theorem gcdF_nn : ∀ {xs : List Int} {g : Int}, 0 ≤ g → 0 ≤ gcdF g xs
  | [], _, h => h
  | x :: xs, g, _ => gcdF_nn (xs := xs) (g := Int.gcd g x) (by omega)
theorem gcdF_dvd : ∀ {xs : List Int} {g : Int}, gcdF g xs ∣ g ∧ ∀ x ∈ xs, gcdF g xs ∣ x
  | [], g => ⟨Int.dvd_refl g, fun x h => by simp at h⟩
  | x :: xs, g => by
    have ih := gcdF_dvd (xs := xs) (g := Int.gcd g x)
    refine ⟨Int.dvd_trans ih.1 (Int.gcd_dvd_left g x), fun y hy => ?_⟩
    rcases List.mem_cons.mp hy with rfl | hy
    · exact Int.dvd_trans ih.1 (Int.gcd_dvd_right g y)
    · exact ih.2 y hy
theorem dvd_gcdF {k : Int} : ∀ {xs : List Int} {g : Int}, k ∣ g → (∀ x ∈ xs, k ∣ x) → k ∣ gcdF g xs
  | [], _, h, _ => h
  | x :: xs, g, h, hx => dvd_gcdF (xs := xs) (Int.dvd_coe_gcd h (hx x (by simp))) fun y hy => hx y (List.mem_cons_of_mem _ hy)
def lastD (ns : List Int) : Int := ns.getD (ns.length - 1) 0
theorem lastD_mem {ns : List Int} (h : ns ≠ []) : lastD ns ∈ ns := by
  have hl : 0 < ns.length := List.length_pos_iff.mpr h
  unfold lastD
  rw [List.getD_eq_getElem?_getD, List.getElem?_eq_getElem (by omega)]
  exact List.getElem_mem _
theorem lastD_map {f : Int → Int} {ns : List Int} (h : ns ≠ []) : lastD (ns.map f) = f (lastD ns) := by
  have hl : 0 < ns.length := List.length_pos_iff.mpr h
  unfold lastD
  rw [List.getD_eq_getElem?_getD, List.getD_eq_getElem?_getD, List.length_map, List.getElem?_map, List.getElem?_eq_getElem (by omega)]
  rfl
def byS (ns : List Int) : Int := if lastD ns < 0 then 0 - gcdF 0 ns else gcdF 0 ns
def sml (ns : List Int) : List Int := ns.map fun x => x.fdiv (byS ns)
theorem gcdF_pos {ns : List Int} (h : ns ≠ []) (hl : lastD ns ≠ 0) : 0 < gcdF 0 ns := by
  have h1 := gcdF_nn (xs := ns) (g := 0) (by decide)
  have h2 := (gcdF_dvd (xs := ns) (g := 0)).2 _ (lastD_mem h)
  rcases Int.lt_or_eq_of_le h1 with z | z
  · exact z
  · rw [← z] at h2
    exact absurd (Int.zero_dvd.mp h2) hl
theorem byS_ne {ns : List Int} (h : ns ≠ []) (hl : lastD ns ≠ 0) : byS ns ≠ 0 := by
  have := gcdF_pos h hl
  unfold byS
  split <;> omega
theorem byS_dvd (ns : List Int) : ∀ x ∈ ns, byS ns ∣ x := by
  intro x hx
  have := (gcdF_dvd (xs := ns) (g := 0)).2 x hx
  unfold byS
  split
  · rw [Int.zero_sub]
    exact Int.neg_dvd.mpr this
  · exact this
theorem sml_len (ns : List Int) : (sml ns).length = ns.length := List.length_map _
theorem sml_ne {ns : List Int} (h : ns ≠ []) : sml ns ≠ [] := fun z => h (List.map_eq_nil_iff.mp z)
theorem sml_mul (ns : List Int) : (sml ns).map (fun x => byS ns * x) = ns := by
  unfold sml
  rw [List.map_map]
  conv => rhs; rw [← List.map_id ns]
  refine List.map_congr_left fun x hx => ?_
  show byS ns * x.fdiv (byS ns) = x
  rw [fdiv_dvd (byS_dvd ns x hx), Int.mul_ediv_cancel' (byS_dvd ns x hx)]
/-- in lowest terms, the last number above nought -/
structure Prim (ns : List Int) : Prop where
  ne : ns ≠ []
  last : 0 < lastD ns
  low : gcdF 0 ns = 1
theorem sml_last {ns : List Int} (h : ns ≠ []) (hl : lastD ns ≠ 0) : 0 < lastD (sml ns) := by
  have e : byS ns * lastD (sml ns) = lastD ns := by
    conv => rhs; rw [← sml_mul ns]
    rw [lastD_map (sml_ne h)]
  have g := gcdF_pos h hl
  unfold byS at e
  split at e
  · rename_i k
    have : ¬ lastD (sml ns) ≤ 0 := fun z => by
      have := Int.mul_nonneg (Int.le_of_lt g) (show 0 ≤ -lastD (sml ns) by omega)
      rw [Int.zero_sub, Int.neg_mul] at e
      rw [Int.mul_neg] at this
      omega
    omega
  · rename_i k
    have : ¬ lastD (sml ns) ≤ 0 := fun z => by
      have := Int.mul_nonneg (Int.le_of_lt g) (show 0 ≤ -lastD (sml ns) by omega)
      rw [Int.mul_neg] at this
      omega
    omega
theorem sml_prim {ns : List Int} (h : ns ≠ []) (hl : lastD ns ≠ 0) : Prim (sml ns) := by
  refine ⟨sml_ne h, sml_last h hl, ?_⟩
  have g := gcdF_pos h hl
  have k := gcdF_nn (xs := sml ns) (g := 0) (by decide)
  have d : gcdF 0 ns * gcdF 0 (sml ns) ∣ gcdF 0 ns := by
    refine dvd_gcdF (Int.dvd_zero _) fun x hx => ?_
    have hx2 : x ∈ (sml ns).map fun x => byS ns * x := by rw [sml_mul]; exact hx
    obtain ⟨y, hy, rfl⟩ := List.mem_map.mp hx2
    have d1 := (gcdF_dvd (xs := sml ns) (g := 0)).2 y hy
    have d2 : gcdF 0 ns ∣ byS ns := by
      unfold byS
      split
      · rw [Int.zero_sub]
        exact Int.dvd_neg.mpr (Int.dvd_refl _)
      · exact Int.dvd_refl _
    exact Int.mul_dvd_mul d2 d1
  obtain ⟨m, hm⟩ := d
  have e : gcdF 0 (sml ns) * m = 1 := by
    refine Int.eq_of_mul_eq_mul_left (Int.ne_of_gt g) ?_
    rw [← Int.mul_assoc, ← hm, Int.mul_one]
  exact Int.eq_one_of_mul_eq_one_right k e
theorem Prim.self {ns : List Int} (h : Prim ns) : sml ns = ns := by
  have e : byS ns = 1 := by
    unfold byS
    have := h.last
    rw [if_neg (by omega), h.low]
  conv => rhs; rw [← List.map_id ns]
  refine List.map_congr_left fun x _ => ?_
  show x.fdiv (byS ns) = x
  rw [e]
  simp
theorem hv_sml (ns : List Int) (p q : Int) : byS ns * hv (sml ns) p q = hv ns p q := by
  conv => rhs; rw [← sml_mul ns]
  rw [hv_map]
theorem sv_mul {k : Int} (hk : k ≠ 0) (xs : List Int) : sv (xs.map fun x => k * x) = sv xs := by
  rcases Int.lt_or_gt_of_ne hk with z | z
  · rw [← sv_neg, ← sv_scale (show 0 < -k by omega) xs, List.map_map]
    congr 1
    refine List.map_congr_left fun x _ => ?_
    show -1 * (k * x) = -k * x
    grind
  · exact sv_scale z xs
theorem trn_mul (k : Int) (ns : List Int) (b e h : Int) : trn (ns.map fun x => k * x) b e h = (trn ns b e h).map fun x => k * x := by
  refine ev_ext (by rw [trn_len, List.length_map, List.length_map, trn_len]) 0 fun t _ => ?_
  rw [ev_trn, hv_map, ev_map, ev_trn]
theorem vr_mul {k : Int} (hk : k ≠ 0) (ns : List Int) (a b c d : Int) : vr (ns.map fun x => k * x) a b c d = vr ns a b c d := by
  unfold vr
  rw [trn_mul, sv_mul hk]
theorem vr_sml {ns : List Int} (h : ns ≠ []) (hl : lastD ns ≠ 0) (a b c d : Int) : vr (sml ns) a b c d = vr ns a b c d := by
  conv => rhs; rw [← sml_mul ns]
  rw [vr_mul (byS_ne h hl)]
theorem sml_sz {n : Nat} {ns : List Int} (h : ∀ c ∈ ns, Sz n c) : ∀ c ∈ sml ns, Sz n c := by
  intro c hc
  obtain ⟨x, hx, rfl⟩ := List.mem_map.mp hc
  refine (h x hx).le ?_
  rw [fdiv_dvd (byS_dvd ns x hx)]
  exact Int.natAbs_ediv_le_natAbs x _
theorem nrw_rep {ns : List Int} {wp wq : Int} : ∀ {k : Nat} {s : Sx} {X Y N : Int} {n : Nat}, PegX ns s → Prts s → Enough wp wq k s → Rep2 s X Y N → Sz n X → Sz n Y → Sz n N → ∃ X' Y' N', Rep2 (nrw ns wp wq k s) X' Y' N' ∧ Sz (n + 3 * k) X' ∧ Sz (n + 3 * k) Y' ∧ Sz (n + 3 * k) N'
  | 0, s, X, Y, N, n, _, _, _, R, h1, h2, h3 => ⟨X, Y, N, R, h1, h2, h3⟩
  | k + 1, s, X, Y, N, n, P, Q, h, R, h1, h2, h3 => by
    rw [nrw]
    split
    · obtain ⟨P1, Q1, _, _⟩ := hlf_ok P Q
      obtain ⟨X1, Y1, R1, a1, a2, a3⟩ := hlf_rep P R h1 h2 h3
      obtain ⟨X2, Y2, N2, R2, b1, b2, b3⟩ := nrw_rep P1 Q1 (h.next P Q) R1 a1 a2 a3
      exact ⟨X2, Y2, N2, R2, b1.mono (by omega), b2.mono (by omega), b3.mono (by omega)⟩
    · exact ⟨X, Y, N, R, h1.mono (by omega), h2.mono (by omega), h3.mono (by omega)⟩
theorem nar_eq {ns : List Int} {wp wq : Int} {k : Nat} {s : Sx} (hw : 0 < wp) (P : PegX ns s) (Q : Prts s) (h : Enough wp wq k s) : nar ns wp wq s = nrw ns wp wq k s := nrw_fuel P Q (fuel_ok hw P.pos) h
theorem go {P : PEnv → Prop} {ρ ρ' : PEnv} (k : P ρ') (h : ρ = ρ') : P ρ := h ▸ k
/-! rows of few numbers -/
theorem svl_len : ∀ (xs : List Int) (l : Int), svl l xs ≤ xs.length
  | [], _ => Nat.le_refl _
  | x :: xs, l => by
    rw [svl]
    have h1 := svl_len xs l
    have h2 := svl_len xs x
    show _ ≤ xs.length + 1
    split
    · omega
    · split <;> omega
theorem sv_len : ∀ (xs : List Int), sv xs ≤ xs.length - 1
  | [] => Nat.le_refl _
  | x :: xs => by
    show svl 0 (x :: xs) ≤ xs.length
    rw [svl, Int.mul_zero, if_neg (show ¬ (0 : Int) < 0 by omega), Nat.zero_add]
    split
    · rename_i h
      cases xs with
      | nil => exact Nat.le_refl _
      | cons y ys =>
        have := sv_len (y :: ys)
        show sv (y :: ys) ≤ _
        exact Nat.le_trans this (by simp)
    · exact svl_len xs x
theorem vr_len (ns : List Int) (a b c d : Int) : vr ns a b c d ≤ ns.length - 1 := by
  have := sv_len (trn ns (a * d) (c * b) (b * d))
  rw [trn_len] at this
  exact this
/-- a row of up to three numbers that has unlike signs at two ends turns once between them -/
theorem peg_few {ns : List Int} {a b c d : Int} (hne : ns ≠ []) (hl : ns.length ≤ 3) (hb : 0 < b) (hd : 0 < d) (hlt : a * d < c * b) (h : hv ns a b * hv ns c d < 0) : Peg ns a b c d := by
  have n1 : hv ns a b ≠ 0 := fun z => by rw [z, Int.zero_mul] at h; omega
  have n2 : hv ns c d ≠ 0 := fun z => by rw [z, Int.mul_zero] at h; omega
  have p := vr_par hne hb hd n1 n2
  rw [if_pos h] at p
  have := vr_len ns a b c d
  exact ⟨hne, hb, hd, hlt, n1, n2, by omega⟩
/-- the peg of a part -/
theorem part_prim {a b : Int} (h : IsPart a b) : Prim [-a, b] := by
  refine ⟨by simp, h.pos, ?_⟩
  show ((Int.gcd (Int.gcd 0 (-a) : Int) b : Nat) : Int) = 1
  rw [Int.gcd_neg, Int.zero_gcd]
  have e : Int.gcd ((a.natAbs : Nat) : Int) b = Int.gcd a b := by
    unfold Int.gcd
    rw [Int.natAbs_natCast]
  rw [e, h.low]
  rfl
theorem part_peg {a b : Int} (h : IsPart a b) : PegX [-a, b] ⟨(prt (a * 1 + -1 * b) (b * 1)).1, (prt (a * 1 + -1 * b) (b * 1)).2, (prt (a * 1 + 1 * b) (b * 1)).1, (prt (a * 1 + 1 * b) (b * 1)).2⟩ ∧ Prts ⟨(prt (a * 1 + -1 * b) (b * 1)).1, (prt (a * 1 + -1 * b) (b * 1)).2, (prt (a * 1 + 1 * b) (b * 1)).1, (prt (a * 1 + 1 * b) (b * 1)).2⟩ := by
  have hb := h.pos
  have hb1 : b * 1 ≠ 0 := by omega
  have p1 := prt_part (a := a * 1 + -1 * b) hb1
  have p2 := prt_part (a := a * 1 + 1 * b) hb1
  have x1 := prt_cross (a * 1 + -1 * b) (b * 1)
  have x2 := prt_cross (a * 1 + 1 * b) (b * 1)
  generalize (prt (a * 1 + -1 * b) (b * 1)).1 = u at *
  generalize (prt (a * 1 + -1 * b) (b * 1)).2 = v at *
  generalize (prt (a * 1 + 1 * b) (b * 1)).1 = u' at *
  generalize (prt (a * 1 + 1 * b) (b * 1)).2 = v' at *
  have q1 := p1.pos
  have q2 := p2.pos
  have e1 : hv [-a, b] u v = -(b * v) := by
    show -a * v ^ 1 + u * (b * v ^ 0 + u * 0) = _
    rw [Int.pow_zero, Int.pow_succ, Int.pow_zero]
    grind
  have e2 : hv [-a, b] u' v' = b * v' := by
    show -a * v' ^ 1 + u' * (b * v' ^ 0 + u' * 0) = _
    rw [Int.pow_zero, Int.pow_succ, Int.pow_zero]
    grind
  have z1 := Int.mul_pos hb q1
  have z2 := Int.mul_pos hb q2
  refine ⟨peg_few (by simp) (by show 2 ≤ 3; decide) q1 q2 ?_ ?_, ⟨p1, p2⟩⟩
  · have k : b * (u * v') < b * (u' * v) := by
      have e3 : b * (u * v') = (a - b) * v * v' := by grind
      have e4 : b * (u' * v) = (a + b) * v * v' := by grind
      rw [e3, e4]
      have : 0 < b * (v * v') := Int.mul_pos hb (Int.mul_pos q1 q2)
      grind
    exact Int.lt_of_mul_lt_mul_left k (Int.le_of_lt hb)
  · show hv [-a, b] u v * hv [-a, b] u' v' < 0
    rw [e1, e2]
    exact Int.mul_neg_of_neg_of_pos (by omega) z2
end PL

local macro_rules | `(tactic| walk_at "sg") => `(tactic| (repeat' (first | exact rfl | exact trivial | exact PL.Dn rfl | apply And.intro | exact of_decide_eq_true rfl | apply Exists.intro | (refine PL.impB fun _ => ?_))))
local macro_rules | `(tactic| walk_at "nf") => `(tactic| (simp only [PL.pSeq, PL.pNil, PL.pNever, PL.pSet, PL.pRet, PL.pRetO, PL.pIf, PL.pApp, PL.pPop, PL.pPut, PL.pPar, PL.pUn3, PL.eV, PL.eI, PL.eB, PL.eN, PL.eS, PL.eAdd, PL.eSub, PL.eMul, PL.eMod, PL.eDiv, PL.ePow, PL.eNeg, PL.eLt, PL.eLe, PL.eGt, PL.eGe, PL.eEqI, PL.eNeI, PL.eEq, PL.eNe, PL.cLt, PL.cLe, PL.cGt, PL.cGe, PL.cEqI, PL.cNeI, PL.cEq, PL.cNe, PL.cIsN, PL.cAnd, PL.cOr, PL.cNot, PL.cVal, PL.c0, PL.eAnd, PL.eOr, PL.eNot, PL.a0, PL.aC, PL.eTup, PL.eLst, PL.eCat, PL.eIx, PL.o0, PL.oC, PL.eCut, PL.eCutT, PL.eLen, PL.eAbs, PL.eSum, PL.eMax, PL.eMin, PL.eList, PL.eTuple, PL.eToI, PL.eIsi, PL.eCall, PL.iSq, PL.iLs, PL.iR1, PL.iR2, PL.iR3, PL.eLc, PL.gI0, PL.gI, PL.gv, PL.gd, PL.toI_int, PL.isI_int, PL.toB_bl, PL.isB_bl, PL.el_list, PL.el_tup, PL.el_scr, PL.sq_list, PL.sq_tup, PL.sq_scr, PL.ls_list, PL.ls_scr, PL.l_list, PL.t_tup, PL.ati0, PL.ati1, PL.ati2, PL.ati3, PL.it0, PL.it1, PL.it2, PL.it3, Option.isSome_some, Option.getD_some, List.map_cons, List.map_nil, List.set_cons_zero, List.set_cons_succ, List.getElem?_cons_zero, List.getElem?_cons_succ, List.length_cons, List.length_nil, true_and, and_true, and_self]))

namespace PL
open PySem PySem.Spec PyProof.Rows L2
abbrev N_divisor : List Str := ["one", "other"]
def phi_divisor : Phi := (pSeq (pWhile (cNeI (eV 1) (eI 0)) (pPar 0 1 (eV 1) (eMod (eV 0) (eV 1)))) (pRet (eAbs (eV 0))))
abbrev N_part : List Str := ["top", "bottom", "by"]
def phi_part (F_divisor : FS) : Phi := (pSeq (pIf (cEqI (eV 1) (eI 0)) pNever pNil) (pSeq (pSet 2 (eCall 2 F_divisor (aC (eV 0) (aC (eV 1) a0)))) (pSeq (pIf (cLt (eV 1) (eI 0)) (pSet 2 (eSub (eI 0) (eV 2))) pNil) (pRet (eTup (aC (eDiv (eV 0) (eV 2)) (aC (eDiv (eV 1) (eV 2)) a0)))))))
abbrev N_below : List Str := ["one", "other"]
def phi_below : Phi := (pRet (eLt (eMul (eIx (eV 0) (eI 0)) (eIx (eV 1) (eI 1))) (eMul (eIx (eV 1) (eI 0)) (eIx (eV 0) (eI 1)))))
abbrev N_part_sum : List Str := ["one", "other"]
def phi_part_sum (F_part : FS) : Phi := (pRet (eCall 2 F_part (aC (eAdd (eMul (eIx (eV 0) (eI 0)) (eIx (eV 1) (eI 1))) (eMul (eIx (eV 1) (eI 0)) (eIx (eV 0) (eI 1)))) (aC (eMul (eIx (eV 0) (eI 1)) (eIx (eV 1) (eI 1))) a0))))
abbrev N_sign_of : List Str := ["number"]
def phi_sign_of : Phi := (pSeq (pIf (cLt (eV 0) (eI 0)) (pRet (eNeg (eI 1))) pNil) (pRet (eMin (eV 0) (eI 1))))
abbrev N_sign_at : List Str := ["row", "at", "total", "scale", "k"]
def phi_sign_at (F_sign_of : FS) : Phi := (pSeq (pSet 2 (eI 0)) (pSeq (pSet 3 (eI 1)) (pSeq (pFor 4 (iR3 (eSub (eLen (eV 0)) (eI 1)) (eNeg (eI 1)) (eNeg (eI 1))) (pSeq (pSet 2 (eAdd (eMul (eV 2) (eIx (eV 1) (eI 0))) (eMul (eIx (eV 0) (eV 4)) (eV 3)))) (pSet 3 (eMul (eV 3) (eIx (eV 1) (eI 1)))))) (pRet (eCall 1 F_sign_of (aC (eV 2) a0))))))
abbrev N_smallest : List Str := ["row", "by", "one"]
def phi_smallest (F_divisor : FS) : Phi := (pSeq (pSet 1 (eI 0)) (pSeq (pFor 2 (iSq (eV 0)) (pSet 1 (eCall 2 F_divisor (aC (eV 1) (aC (eV 2) a0))))) (pSeq (pIf (cLt (eIx (eV 0) (eNeg (eI 1))) (eI 0)) (pSet 1 (eSub (eI 0) (eV 1))) pNil) (pRet (eLc 2 (iSq (eV 0)) c0 (eDiv (eV 2) (eV 1)))))))
abbrev N_joined : List Str := ["row", "pair", "found", "k", "one"]
def phi_joined : Phi := (pSeq (pSet 2 (eCat (eLc 4 (iSq (eV 0)) c0 (eI 0)) (eLst (aC (eI 0) a0)))) (pSeq (pFor 3 (iR1 (eLen (eV 0))) (pSeq (pPut 2 (eAdd (eIx (eV 2) (eV 3)) (eMul (eIx (eV 0) (eV 3)) (eIx (eV 1) (eI 0)))) (eV 3)) (pPut 2 (eAdd (eIx (eV 2) (eAdd (eV 3) (eI 1))) (eMul (eIx (eV 0) (eV 3)) (eIx (eV 1) (eI 1)))) (eAdd (eV 3) (eI 1))))) (pRetO 2)))
abbrev N_turned : List Str := ["row", "low", "high", "begin", "end", "both", "found", "weight", "k", "one", "j"]
def phi_turned (F_joined : FS) : Phi := (pSeq (pSet 3 (eMul (eIx (eV 1) (eI 0)) (eIx (eV 2) (eI 1)))) (pSeq (pSet 4 (eMul (eIx (eV 2) (eI 0)) (eIx (eV 1) (eI 1)))) (pSeq (pSet 5 (eMul (eIx (eV 1) (eI 1)) (eIx (eV 2) (eI 1)))) (pSeq (pSet 6 (eLst (aC (eIx (eV 0) (eNeg (eI 1))) a0))) (pSeq (pSet 7 (eLst (aC (eI 1) a0))) (pSeq (pFor 8 (iR3 (eSub (eLen (eV 0)) (eI 2)) (eNeg (eI 1)) (eNeg (eI 1))) (pSeq (pSet 7 (eLc 9 (iSq (eCall 2 F_joined (aC (eV 7) (aC (eLst (aC (eI 1) (aC (eI 1) a0))) a0)))) c0 (eMul (eV 5) (eV 9)))) (pSeq (pSet 6 (eCall 2 F_joined (aC (eV 6) (aC (eLst (aC (eV 3) (aC (eV 4) a0))) a0)))) (pSet 6 (eLc 10 (iR1 (eLen (eV 6))) c0 (eAdd (eIx (eV 6) (eV 10)) (eMul (eIx (eV 0) (eV 8)) (eIx (eV 7) (eV 10))))))))) (pRetO 6)))))))
abbrev N_turns : List Str := ["row", "low", "high", "signs", "one", "k"]
def phi_turns (F_turned : FS) (F_sign_of : FS) : Phi := (pSeq (pSet 3 (eLc 4 (iSq (eCall 3 F_turned (aC (eV 0) (aC (eV 1) (aC (eV 2) a0))))) (cNeI (eV 4) (eI 0)) (eCall 1 F_sign_of (aC (eV 4) a0)))) (pRet (eSum (eLc 5 (iR2 (eI 1) (eLen (eV 3))) (cNe (eIx (eV 3) (eV 5)) (eIx (eV 3) (eSub (eV 5) (eI 1)))) (eI 1)))))
abbrev N_is_alone : List Str := ["row", "low", "high"]
def phi_is_alone (F_turns : FS) (F_sign_at : FS) : Phi := (pRet (eAnd (eNeI (eCall 2 F_sign_at (aC (eV 0) (aC (eV 1) a0))) (eI 0)) (eAnd (eNeI (eCall 2 F_sign_at (aC (eV 0) (aC (eV 2) a0))) (eI 0)) (eEqI (eCall 3 F_turns (aC (eV 0) (aC (eV 1) (aC (eV 2) a0)))) (eI 1)))))
abbrev N_peg : List Str := ["row", "low", "high"]
def phi_peg (F_below : FS) (F_is_alone : FS) (F_smallest : FS) : Phi := (pSeq (pIf (cOr (cLt (eLen (eV 0)) (eI 2)) (cEqI (eIx (eV 0) (eNeg (eI 1))) (eI 0))) pNever pNil) (pSeq (pIf (cNot (cVal (eCall 2 F_below (aC (eV 1) (aC (eV 2) a0))))) pNever pNil) (pSeq (pIf (cNot (cVal (eCall 3 F_is_alone (aC (eV 0) (aC (eV 1) (aC (eV 2) a0)))))) pNever pNil) (pRet (eTup (aC (eTuple (eCall 1 F_smallest (aC (eV 0) a0))) (aC (eV 1) (aC (eV 2) a0))))))))
def phiX_peg (F_below : FS) (F_is_alone : FS) (F_smallest : FS) : Phi := (pSeq (pIf (cOr (cLt (eLen (eV 0)) (eI 2)) (cEqI (eIx (eV 0) (eNeg (eI 1))) (eI 0))) (pRaise "NoRow") pNil) (pSeq (pIf (cNot (cVal (eCall 2 F_below (aC (eV 1) (aC (eV 2) a0))))) (pRaise "NoStretch") pNil) (pSeq (pIf (cNot (cVal (eCall 3 F_is_alone (aC (eV 0) (aC (eV 1) (aC (eV 2) a0)))))) (pRaise "NotAlone") pNil) (pRet (eTup (aC (eTuple (eCall 1 F_smallest (aC (eV 0) a0))) (aC (eV 1) (aC (eV 2) a0))))))))
abbrev N_of_part : List Str := ["at"]
def phi_of_part (F_part_sum : FS) : Phi := (pRet (eTup (aC (eTup (aC (eSub (eI 0) (eIx (eV 0) (eI 0))) (aC (eIx (eV 0) (eI 1)) a0))) (aC (eCall 2 F_part_sum (aC (eV 0) (aC (eTup (aC (eNeg (eI 1)) (aC (eI 1) a0))) a0))) (aC (eCall 2 F_part_sum (aC (eV 0) (aC (eTup (aC (eI 1) (aC (eI 1) a0))) a0))) a0)))))
abbrev N_law_whole : List Str := ["_law_found"]
def phi_law_whole : Phi := (pRet (eAnd (eIsi "int" (eV 0)) (eNot (eIsi "bool" (eV 0)))))
abbrev N_law_cell_at : List Str := ["_law_script", "_law_k"]
def phi_law_cell_at : Phi := (pSeq (pIf (cLt (eV 1) (eLen (eV 0))) (pRet (eIx (eV 0) (eV 1))) pNil) (pRet (eI 0)))
abbrev N_law_divisor : List Str := ["_law_one", "_law_other", "_law_over"]
def phi_law_divisor : Phi := (pSeq (pWhile (cNeI (eV 1) (eI 0)) (pSeq (pSet 2 (eMod (eV 0) (eV 1))) (pSeq (pSet 0 (eV 1)) (pSet 1 (eV 2))))) (pRet (eAbs (eV 0))))
abbrev N_law_part : List Str := ["_law_top", "_law_bottom", "_law_by_here"]
def phi_law_part (F_law_divisor : FS) : Phi := (pSeq (pSet 2 (eCall 2 F_law_divisor (aC (eV 0) (aC (eV 1) a0)))) (pSeq (pIf (cLt (eV 1) (eI 0)) (pSet 2 (eSub (eI 0) (eV 2))) pNil) (pRet (eTup (aC (eDiv (eV 0) (eV 2)) (aC (eDiv (eV 1) (eV 2)) a0))))))
abbrev N_law_smallest : List Str := ["_law_row_here", "_law_by_here", "_law_one"]
def phi_law_smallest (F_law_divisor : FS) : Phi := (pSeq (pSet 1 (eI 0)) (pSeq (pFor 2 (iSq (eV 0)) (pSet 1 (eCall 2 F_law_divisor (aC (eV 1) (aC (eV 2) a0))))) (pSeq (pIf (cLt (eIx (eV 0) (eNeg (eI 1))) (eI 0)) (pSet 1 (eSub (eI 0) (eV 1))) pNil) (pRet (eLc 2 (iSq (eV 0)) c0 (eDiv (eV 2) (eV 1)))))))
abbrev N_law_value : List Str := ["_law_row_here", "_law_at", "_law_total", "_law_scale", "_law_k"]
def phi_law_value : Phi := (pSeq (pSet 2 (eI 0)) (pSeq (pSet 3 (eI 1)) (pSeq (pFor 4 (iR3 (eSub (eLen (eV 0)) (eI 1)) (eNeg (eI 1)) (eNeg (eI 1))) (pSeq (pSet 2 (eAdd (eMul (eV 2) (eIx (eV 1) (eI 0))) (eMul (eIx (eV 0) (eV 4)) (eV 3)))) (pSet 3 (eMul (eV 3) (eIx (eV 1) (eI 1)))))) (pRet (eV 2)))))
abbrev N_law_by : List Str := ["_law_row_here", "_law_other", "_law_found", "_law_k", "_law_j"]
def phi_law_by : Phi := (pSeq (pSet 2 (eLc 3 (iR1 (eSub (eAdd (eLen (eV 0)) (eLen (eV 1))) (eI 1))) c0 (eI 0))) (pSeq (pFor 3 (iR1 (eLen (eV 0))) (pFor 4 (iR1 (eLen (eV 1))) (pPut 2 (eAdd (eIx (eV 2) (eAdd (eV 3) (eV 4))) (eMul (eIx (eV 0) (eV 3)) (eIx (eV 1) (eV 4)))) (eAdd (eV 3) (eV 4))))) (pRetO 2)))
abbrev N_law_seen : List Str := ["_law_row_here", "_law_low", "_law_high", "_law_found", "_law_k", "_law_made", "_law_j", "_law_one"]
def phi_law_seen (F_law_by : FS) : Phi := (pSeq (pSet 3 (eLc 7 (iSq (eV 0)) c0 (eI 0))) (pSeq (pFor 4 (iR1 (eLen (eV 0))) (pSeq (pSet 5 (eLst (aC (eIx (eV 0) (eV 4)) a0))) (pSeq (pFor 6 (iR1 (eSub (eLen (eV 0)) (eI 1))) (pIf (cLt (eV 6) (eV 4)) (pSet 5 (eCall 2 F_law_by (aC (eV 5) (aC (eLst (aC (eMul (eIx (eV 1) (eI 0)) (eIx (eV 2) (eI 1))) (aC (eMul (eIx (eV 2) (eI 0)) (eIx (eV 1) (eI 1))) a0))) a0)))) (pSet 5 (eCall 2 F_law_by (aC (eV 5) (aC (eLst (aC (eMul (eIx (eV 1) (eI 1)) (eIx (eV 2) (eI 1))) (aC (eMul (eIx (eV 1) (eI 1)) (eIx (eV 2) (eI 1))) a0))) a0)))))) (pSet 3 (eLc 6 (iR1 (eLen (eV 0))) c0 (eAdd (eIx (eV 3) (eV 6)) (eIx (eV 5) (eV 6)))))))) (pRetO 3)))
abbrev N_law_turns : List Str := ["_law_row_here", "_law_low", "_law_high", "_law_count", "_law_last", "_law_one"]
def phi_law_turns (F_law_seen : FS) : Phi := (pSeq (pSet 3 (eI 0)) (pSeq (pSet 4 (eI 0)) (pSeq (pFor 5 (iSq (eCall 3 F_law_seen (aC (eV 0) (aC (eV 1) (aC (eV 2) a0))))) (pSeq (pIf (cLt (eMul (eV 5) (eV 4)) (eI 0)) (pSet 3 (eAdd (eV 3) (eI 1))) pNil) (pIf (cNeI (eV 5) (eI 0)) (pSet 4 (eV 5)) pNil))) (pRet (eV 3)))))
abbrev N_law_is_part : List Str := ["_law_found"]
def phi_law_is_part (F_law_whole : FS) (F_law_part : FS) : Phi := (pSeq (pIf (cOr (cNot (cVal (eIsi "tuple" (eV 0)))) (cOr (cNeI (eLen (eV 0)) (eI 2)) (cOr (cNot (cVal (eCall 1 F_law_whole (aC (eIx (eV 0) (eI 0)) a0)))) (cNot (cVal (eCall 1 F_law_whole (aC (eIx (eV 0) (eI 1)) a0))))))) (pRet (eB false)) pNil) (pRet (eAnd (eGt (eIx (eV 0) (eI 1)) (eI 0)) (eEq (eCall 2 F_law_part (aC (eIx (eV 0) (eI 0)) (aC (eIx (eV 0) (eI 1)) a0))) (eV 0)))))
abbrev N_law_is_peg : List Str := ["_law_found", "_law_row_here", "_law_low", "_law_high", "_law_one"]
def phi_law_is_peg (F_law_whole : FS) (F_law_is_part : FS) (F_law_smallest : FS) (F_law_value : FS) (F_law_turns : FS) : Phi := (pSeq (pIf (cOr (cNot (cVal (eIsi "tuple" (eV 0)))) (cOr (cNeI (eLen (eV 0)) (eI 3)) (cNot (cVal (eIsi "tuple" (eIx (eV 0) (eI 0))))))) (pRet (eB false)) pNil) (pSeq (pSet 1 (eList (eIx (eV 0) (eI 0)))) (pSeq (pIf (cOr (cLt (eLen (eV 1)) (eI 2)) (cOr (cGt (eLen (eLc 4 (iLs (eV 1)) (cNot (cVal (eCall 1 F_law_whole (aC (eV 4) a0)))) (eV 4))) (eI 0)) (cLt (eIx (eV 1) (eNeg (eI 1))) (eI 1)))) (pRet (eB false)) pNil) (pSeq (pIf (cOr (cNe (eCall 1 F_law_smallest (aC (eV 1) a0)) (eV 1)) (cOr (cNot (cVal (eCall 1 F_law_is_part (aC (eIx (eV 0) (eI 1)) a0)))) (cNot (cVal (eCall 1 F_law_is_part (aC (eIx (eV 0) (eI 2)) a0)))))) (pRet (eB false)) pNil) (pSeq (pSet 2 (eCall 2 F_law_value (aC (eV 1) (aC (eIx (eV 0) (eI 1)) a0)))) (pSeq (pSet 3 (eCall 2 F_law_value (aC (eV 1) (aC (eIx (eV 0) (eI 2)) a0)))) (pSeq (pIf (cOr (cGe (eMul (eIx (eIx (eV 0) (eI 1)) (eI 0)) (eIx (eIx (eV 0) (eI 2)) (eI 1))) (eMul (eIx (eIx (eV 0) (eI 2)) (eI 0)) (eIx (eIx (eV 0) (eI 1)) (eI 1)))) (cOr (cEqI (eV 2) (eI 0)) (cEqI (eV 3) (eI 0)))) (pRet (eB false)) pNil) (pRet (eEqI (eCall 3 F_law_turns (aC (eV 1) (aC (eIx (eV 0) (eI 1)) (aC (eIx (eV 0) (eI 2)) a0)))) (eI 1))))))))))
abbrev N_law_row : List Str := ["_law_script", "_law_k", "_law_many", "_law_row_here", "_law_cell"]
def phi_law_row (F_law_cell_at : FS) : Phi := (pSeq (pSet 3 (eLst a0)) (pSeq (pFor 4 (iSq (eCut (eV 0) (oC (eV 1)) (oC (eAdd (eV 1) (eV 2))))) (pIf (cEqI (eMod (eCall 2 F_law_cell_at (aC (eV 0) (aC (eI 1) a0))) (eI 4)) (eI 1)) (pApp 3 (eSub (eMod (eV 4) (eMul (eI 2) (ePow (eI 10) (eI 20)))) (ePow (eI 10) (eI 20)))) (pApp 3 (eSub (eMod (eV 4) (eI 19)) (eI 9))))) (pRetO 3)))
abbrev N_law_end : List Str := ["_law_cell", "_law_more"]
def phi_law_end (F_law_part : FS) : Phi := (pSeq (pIf (cEqI (eMod (eV 1) (eI 5)) (eI 1)) (pRet (eCall 2 F_law_part (aC (eSub (eMod (eV 0) (eMul (eI 2) (ePow (eI 10) (eI 12)))) (ePow (eI 10) (eI 12))) (aC (eAdd (eI 1) (eMod (eDiv (eV 1) (eI 5)) (ePow (eI 10) (eI 12)))) a0)))) pNil) (pRet (eCall 2 F_law_part (aC (eSub (eMod (eV 0) (eI 41)) (eI 20)) (aC (eAdd (eI 1) (eMod (eDiv (eV 1) (eI 5)) (eI 9))) a0)))))
abbrev N_law_due : List Str := ["_law_row_here", "_law_low", "_law_high"]
def phi_law_due (F_law_turns : FS) (F_law_value : FS) : Phi := (pSeq (pIf (cOr (cLt (eLen (eV 0)) (eI 2)) (cEqI (eIx (eV 0) (eNeg (eI 1))) (eI 0))) (pRet (eS "row")) pNil) (pSeq (pIf (cGe (eMul (eIx (eV 1) (eI 0)) (eIx (eV 2) (eI 1))) (eMul (eIx (eV 2) (eI 0)) (eIx (eV 1) (eI 1)))) (pRet (eS "stretch")) pNil) (pSeq (pIf (cOr (cEqI (eCall 2 F_law_value (aC (eV 0) (aC (eV 1) a0))) (eI 0)) (cOr (cEqI (eCall 2 F_law_value (aC (eV 0) (aC (eV 2) a0))) (eI 0)) (cNeI (eCall 3 F_law_turns (aC (eV 0) (aC (eV 1) (aC (eV 2) a0)))) (eI 1)))) (pRet (eS "alone")) pNil) (pRet (eS "")))))
abbrev N_law_word : List Str := ["_law_e", "_law_words"]
def phi_law_word (a : Addr) (c : Str) : Phi := (pSeq (pSet 1 (eCat (eRep (eLst (aC (eS "row") a0)) (eToI (eIsE a (decide (c = "NoRow")) (eV 0)))) (eRep (eLst (aC (eS "stretch") a0)) (eToI (eIsE a (decide (c = "NoStretch")) (eV 0)))))) (pSeq (pSet 1 (eCat (eV 1) (eRep (eLst (aC (eS "alone") a0)) (eToI (eIsE a (decide (c = "NotAlone")) (eV 0)))))) (pSeq (pIf (cOr (cNeI (eLen (eV 1)) (eI 1)) (cOr (cVal (eIsE a (decide (c = "NoPart") || decide (c = "NoQuotient")) (eV 0))) (cNot (cVal (eIsE a true (eV 0)))))) (pRet (eS "other")) pNil) (pRet (eIx (eV 1) (eI 0))))))
abbrev N_law_told : List Str := ["_law_row_here", "_law_low", "_law_high", "_law_found", "_law_e"]
def phi_law_told (FX_peg : FS) (wd : Str → Str) : Phi := (pSeq (pTryW 4 3 3 FX_peg (aC (eV 0) (aC (eV 1) (aC (eV 2) a0))) ["NoRow", "NoStretch", "NotAlone"] wd) (pRet (eTup (aC (eS "") (aC (eV 3) a0)))))
abbrev N_law : List Str := ["_law_script", "_law_row_here", "_law_low", "_law_high", "_law_handed", "_law_told_here", "_law_found"]
def phi_law (F_law_row : FS) (F_law_cell_at : FS) (F_law_by : FS) (F_law_end : FS) (F_law_part : FS) (F_law_told : FS) (F_law_due : FS) (F_law_is_peg : FS) (F_law_smallest : FS) (F_of_part : FS) : Phi := (pSeq (pSet 1 (eCall 3 F_law_row (aC (eV 0) (aC (eI 8) (aC (eMod (eCall 2 F_law_cell_at (aC (eV 0) (aC (eI 0) a0))) (eI 7)) a0))))) (pSeq (pIf (cAnd (cEqI (eMod (eDiv (eCall 2 F_law_cell_at (aC (eV 0) (aC (eI 0) a0))) (eI 7)) (eI 2)) (eI 1)) (cNe (eV 1) (eLst a0))) (pSet 1 (eCall 2 F_law_by (aC (eV 1) (aC (eLst (aC (eSub (eMod (eCall 2 F_law_cell_at (aC (eV 0) (aC (eI 6) a0))) (eI 41)) (eI 20)) (aC (eAdd (eI 1) (eMod (eCall 2 F_law_cell_at (aC (eV 0) (aC (eI 7) a0))) (eI 9))) a0))) a0)))) pNil) (pSeq (pSet 2 (eCall 2 F_law_end (aC (eCall 2 F_law_cell_at (aC (eV 0) (aC (eI 2) a0))) (aC (eCall 2 F_law_cell_at (aC (eV 0) (aC (eI 3) a0))) a0)))) (pSeq (pSet 3 (eCall 2 F_law_end (aC (eCall 2 F_law_cell_at (aC (eV 0) (aC (eI 4) a0))) (aC (eCall 2 F_law_cell_at (aC (eV 0) (aC (eI 5) a0))) a0)))) (pSeq (pIf (cEqI (eMod (eDiv (eCall 2 F_law_cell_at (aC (eV 0) (aC (eI 1) a0))) (eI 4)) (eI 2)) (eI 1)) (pSet 3 (eCall 2 F_law_part (aC (eAdd (eMul (eIx (eV 2) (eI 0)) (eIx (eV 3) (eI 1))) (eIx (eV 2) (eI 1))) (aC (eMul (eIx (eV 2) (eI 1)) (eIx (eV 3) (eI 1))) a0)))) pNil) (pSeq (pSet 4 (eList (eV 1))) (pSeq (pSet 5 (eCall 3 F_law_told (aC (eV 4) (aC (eV 2) (aC (eV 3) a0))))) (pSeq (pIf (cOr (cNe (eIx (eV 5) (eI 0)) (eCall 3 F_law_due (aC (eV 1) (aC (eV 2) (aC (eV 3) a0))))) (cOr (cNe (eV 4) (eV 1)) (cNe (eCall 3 F_law_told (aC (eTuple (eV 1)) (aC (eV 2) (aC (eV 3) a0)))) (eV 5)))) (pRet (eB false)) pNil) (pSeq (pIf (cAnd (cEq (eIx (eV 5) (eI 0)) (eS "")) (cNot (cVal (eCall 1 F_law_is_peg (aC (eIx (eV 5) (eI 1)) a0))))) (pRet (eB false)) pNil) (pSeq (pIf (cAnd (cEq (eIx (eV 5) (eI 0)) (eS "")) (cNe (eIx (eV 5) (eI 1)) (eTup (aC (eTuple (eCall 1 F_law_smallest (aC (eV 1) a0))) (aC (eV 2) (aC (eV 3) a0)))))) (pRet (eB false)) pNil) (pSeq (pSet 6 (eCall 1 F_of_part (aC (eV 2) a0))) (pSeq (pIf (cOr (cNot (cVal (eCall 1 F_law_is_peg (aC (eV 6) a0)))) (cNe (eIx (eV 6) (eI 0)) (eTup (aC (eSub (eI 0) (eIx (eV 2) (eI 0))) (aC (eIx (eV 2) (eI 1)) a0))))) (pRet (eB false)) pNil) (pRet (eEq (eCutT (eV 6) (oC (eI 1)) o0) (eTup (aC (eCall 2 F_law_part (aC (eSub (eIx (eV 2) (eI 0)) (eIx (eV 2) (eI 1))) (aC (eIx (eV 2) (eI 1)) a0))) (aC (eCall 2 F_law_part (aC (eAdd (eIx (eV 2) (eI 0)) (eIx (eV 2) (eI 1))) (aC (eIx (eV 2) (eI 1)) a0))) a0)))))))))))))))))

def s_divisor : FS := ⟨fun as => ∃ a b, as = [.int a, .int b], fun as => match as with
  | [.int a, .int b] => .int (Int.gcd a b : Int)
  | _ => .non⟩
theorem p_divisor : ∀ as, as.length = 2 → s_divisor.g as → phi_divisor ⟨fun _ => False, fun v => v = s_divisor.f as⟩ (st0 N_divisor as) := by
  rintro as - ⟨a, b, rfl⟩
  refine ⟨fun m ρ => ∃ x y, ρ = [some (.int x), some (.int y)] ∧ m = y.natAbs ∧ Int.gcd x y = Int.gcd a b, ⟨_, a, b, rfl, rfl, rfl⟩, ?_⟩
  rintro m ρ ⟨x, y, rfl, rfl, h⟩
  refine ⟨⟨rfl, trivial, rfl, rfl⟩, fun hc => ?_, fun hc => ?_⟩
  · have hy : y ≠ 0 := of_decide_eq_true hc
    exact ⟨rfl, ⟨rfl, rfl, rfl, rfl, hy⟩, _, fmod_lt (a := x) hy, y, x.fmod y, rfl, rfl, by rw [gcd_fmod]; exact h⟩
  · have hy : y = 0 := Classical.not_not.mp (of_decide_eq_false hc)
    subst hy
    refine ⟨⟨rfl, rfl⟩, ?_⟩
    rw [Int.gcd_zero] at h
    show PV.int _ = PV.int _
    rw [← h]
    rfl

theorem p_law_divisor : ∀ as, as.length = 2 → s_divisor.g as → phi_law_divisor ⟨fun _ => False, fun v => v = s_divisor.f as⟩ (st0 N_law_divisor as) := by
  rintro as - ⟨a, b, rfl⟩
  refine ⟨fun m ρ => ∃ x y z, ρ = [some (.int x), some (.int y), z] ∧ m = y.natAbs ∧ Int.gcd x y = Int.gcd a b, ⟨_, a, b, none, rfl, rfl, rfl⟩, ?_⟩
  rintro m ρ ⟨x, y, z, rfl, rfl, h⟩
  refine ⟨⟨rfl, trivial, rfl, rfl⟩, fun hc => ?_, fun hc => ?_⟩
  · have hy : y ≠ 0 := of_decide_eq_true hc
    exact ⟨⟨rfl, rfl, rfl, rfl, hy⟩, rfl, rfl, _, fmod_lt (a := x) hy, y, x.fmod y, _, rfl, rfl, by rw [gcd_fmod]; exact h⟩
  · have hy : y = 0 := Classical.not_not.mp (of_decide_eq_false hc)
    subst hy
    refine ⟨⟨rfl, rfl⟩, ?_⟩
    rw [Int.gcd_zero] at h
    show PV.int _ = PV.int _
    rw [← h]
    rfl

/-- the part of two whole numbers -/
def s_part : FS := ⟨fun as => ∃ a b, as = [.int a, .int b] ∧ b ≠ 0 ∧ Sz 8900 b, fun as => match as with
  | [.int a, .int b] => .tup [.int (prt a b).1, .int (prt a b).2]
  | _ => .non⟩
theorem s_part_f (a b : Int) : s_part.f [.int a, .int b] = .tup [.int (a.fdiv (if b < 0 then 0 - (Int.gcd a b : Int) else (Int.gcd a b : Int))), .int (b.fdiv (if b < 0 then 0 - (Int.gcd a b : Int) else (Int.gcd a b : Int)))] := by
  show PV.tup [.int (prt a b).1, .int (prt a b).2] = _
  rw [prt_eq]

theorem p_part : ∀ as, as.length = 2 → s_part.g as → phi_part s_divisor ⟨fun _ => False, fun v => v = s_part.f as⟩ (st0 N_part as) := by
  rintro as - ⟨a, b, rfl, hb, sb⟩
  have hg := gcd_pos (a := a) hb
  have sg := gcd_sz (a := a) hb sb
  refine ⟨⟨rfl, trivial, rfl, rfl⟩, fun hc => absurd (of_decide_eq_true hc) hb, fun _ => ?_⟩
  refine ⟨⟨⟨rfl, rfl, trivial⟩, rfl, a, b, rfl⟩, ⟨rfl, trivial, rfl, rfl⟩, fun hc => ?_, fun hc => ?_⟩
  · have hn : b < 0 := of_decide_eq_true hc
    refine ⟨⟨trivial, rfl, rfl, rfl⟩, ⟨⟨⟨rfl, rfl, rfl, rfl, ?_⟩, ⟨rfl, rfl, rfl, rfl, ?_⟩, trivial⟩, by show 2 ≤ sizeLine; decide⟩, ?_⟩
    · exact (sg.neg.mono (Nat.le_refl _)).D (y := a) (x := -(Int.gcd a b : Int)) (by omega) (by omega) |> fun z => by rw [← Int.zero_sub] at z; exact z
    · exact (sg.neg.mono (Nat.le_refl _)).D (y := b) (x := -(Int.gcd a b : Int)) (by omega) (by omega) |> fun z => by rw [← Int.zero_sub] at z; exact z
    · show _ = s_part.f [.int a, .int b]
      rw [s_part_f, if_pos hn]
      rfl
  · have hn : ¬ b < 0 := of_decide_eq_false hc
    refine ⟨⟨⟨⟨rfl, rfl, rfl, rfl, sg.D (by omega) (by omega)⟩, ⟨rfl, rfl, rfl, rfl, sg.D (by omega) (by omega)⟩, trivial⟩, by show 2 ≤ sizeLine; decide⟩, ?_⟩
    show _ = s_part.f [.int a, .int b]
    rw [s_part_f, if_neg hn]
    rfl

theorem p_law_part : ∀ as, as.length = 2 → s_part.g as → phi_law_part s_divisor ⟨fun _ => False, fun v => v = s_part.f as⟩ (st0 N_law_part as) := by
  rintro as - ⟨a, b, rfl, hb, sb⟩
  have hg := gcd_pos (a := a) hb
  have sg := gcd_sz (a := a) hb sb
  refine ⟨⟨⟨rfl, rfl, trivial⟩, rfl, a, b, rfl⟩, ⟨rfl, trivial, rfl, rfl⟩, fun hc => ?_, fun hc => ?_⟩
  · have hn : b < 0 := of_decide_eq_true hc
    refine ⟨⟨trivial, rfl, rfl, rfl⟩, ⟨⟨⟨rfl, rfl, rfl, rfl, ?_⟩, ⟨rfl, rfl, rfl, rfl, ?_⟩, trivial⟩, by show 2 ≤ sizeLine; decide⟩, ?_⟩
    · exact (sg.neg.mono (Nat.le_refl _)).D (y := a) (x := -(Int.gcd a b : Int)) (by omega) (by omega) |> fun z => by rw [← Int.zero_sub] at z; exact z
    · exact (sg.neg.mono (Nat.le_refl _)).D (y := b) (x := -(Int.gcd a b : Int)) (by omega) (by omega) |> fun z => by rw [← Int.zero_sub] at z; exact z
    · show _ = s_part.f [.int a, .int b]
      rw [s_part_f, if_pos hn]
      rfl
  · have hn : ¬ b < 0 := of_decide_eq_false hc
    refine ⟨⟨⟨⟨rfl, rfl, rfl, rfl, sg.D (by omega) (by omega)⟩, ⟨rfl, rfl, rfl, rfl, sg.D (by omega) (by omega)⟩, trivial⟩, by show 2 ≤ sizeLine; decide⟩, ?_⟩
    show _ = s_part.f [.int a, .int b]
    rw [s_part_f, if_neg hn]
    rfl

def s_below : FS := ⟨fun as => ∃ a b c d, as = [pv a b, pv c d] ∧ CMulW a d ∧ CMulW c b, fun as => match as with
  | [.tup [.int a, .int b], .tup [.int c, .int d]] => .bl (decide (a * d < c * b))
  | _ => .non⟩
theorem p_below : ∀ as, as.length = 2 → s_below.g as → phi_below ⟨fun _ => False, fun v => v = s_below.f as⟩ (st0 N_below as) := by
  rintro as - ⟨a, b, c, d, rfl, h1, h2⟩
  exact ⟨by walk_at "sg" <;> assumption, rfl⟩

def s_part_sum : FS := ⟨fun as => ∃ a b c d, as = [pv a b, pv c d] ∧ CMulW a d ∧ CMulW c b ∧ CMulW b d ∧ b * d ≠ 0 ∧ Sz 8900 (b * d), fun as => match as with
  | [.tup [.int a, .int b], .tup [.int c, .int d]] => pv (prt (a * d + c * b) (b * d)).1 (prt (a * d + c * b) (b * d)).2
  | _ => .non⟩
theorem p_part_sum : ∀ as, as.length = 2 → s_part_sum.g as → phi_part_sum s_part ⟨fun _ => False, fun v => v = s_part_sum.f as⟩ (st0 N_part_sum as) := by
  rintro as - ⟨a, b, c, d, rfl, h1, h2, h3, h4, h5⟩
  exact ⟨by walk_at "sg" <;> assumption, rfl⟩

def s_sign_of : FS := ⟨fun as => ∃ a, as = [.int a], fun as => match as with
  | [.int a] => .int a.sign
  | _ => .non⟩
theorem p_sign_of : ∀ as, as.length = 1 → s_sign_of.g as → phi_sign_of ⟨fun _ => False, fun v => v = s_sign_of.f as⟩ (st0 N_sign_of as) := by
  rintro as - ⟨a, rfl⟩
  refine ⟨⟨rfl, trivial, rfl, rfl⟩, fun hc => ⟨⟨trivial, rfl⟩, ?_⟩, fun hc => ⟨⟨rfl, trivial, rfl, rfl⟩, ?_⟩⟩
  · have h : a < 0 := of_decide_eq_true hc
    show PV.int (-1) = PV.int a.sign
    rw [Int.sign_eq_neg_one_of_neg h]
  · have h : ¬ a < 0 := of_decide_eq_false hc
    show PV.int (min a 1) = PV.int a.sign
    congr 1
    by_cases h0 : a = 0
    · subst h0
      rfl
    · rw [Int.sign_eq_one_of_pos (by omega)]
      omega

def s_sign_at : FS := ⟨fun as => ∃ (r : PV) (ns : List Int) (p q : Int) (A B : Nat), as = [r, .tup [.int p, .int q]] ∧ RowV r ns ∧ (∀ c ∈ ns, Sz A c) ∧ Sz B p ∧ Sz B q ∧ ns.length ≤ 1000 ∧ A + (B + 1) * (ns.length + 1) ≤ 400000, fun as => match as with
  | [r, .tup [.int p, .int q]] => .int (hv (toIs (elems r)) p q).sign
  | _ => .non⟩
theorem p_sign_at : ∀ as, as.length = 2 → s_sign_at.g as → phi_sign_at s_sign_of ⟨fun _ => False, fun v => v = s_sign_at.f as⟩ (st0 N_sign_at as) := by
  rintro as - ⟨r, ns, p, q, A, B, rfl, hr, hA, hp, hq, hl, hs⟩
  have hlen := hr.len
  have inr : ∀ {n : Nat}, n ≤ 1000 → inR ((n : Int) - 1) := fun {n} h => ⟨by omega, by omega⟩
  refine ⟨trivial, trivial, ⟨⟨⟨⟨rfl, hr.sq⟩, trivial, rfl, rfl⟩, ⟨trivial, rfl⟩, ⟨trivial, rfl⟩, rfl, rfl, rfl, ?_, ?_⟩, ?_⟩⟩
  · show inR (((elems r).length : Int) - 1)
    rw [hlen]
    exact inr hl
  · show inR (-1)
    exact ⟨by decide, by decide⟩
  refine ⟨fun j ρ => ∃ k, ρ = [some r, some (.tup [.int p, .int q]), some (.int (hv (ns.drop (ns.length - j)) p q)), some (.int (q ^ j)), k] ∧ j ≤ ns.length, ⟨none, ?_, Nat.zero_le _⟩, ?_, ?_⟩
  · rw [Nat.sub_zero, List.drop_length, Int.pow_zero]
    rfl
  · rintro j v ρ hj ⟨k, rfl, _⟩
    have hj := rngD_get hj
    obtain ⟨h1, rfl⟩ := hj
    have e1 : (((elems r).length : Int) - 1 - -1).toNat = ns.length := by rw [hlen]; omega
    have h1 : j < ns.length := by
      have h2 : j < (((elems r).length : Int) - 1 - -1).toNat := h1
      omega
    have ei : ((elems r).length : Int) - 1 - (j : Int) = ((ns.length - 1 - j : Nat) : Int) := by rw [hlen]; omega
    have hix : ns.length - 1 - j < ns.length := by omega
    have hat := hr.at hix
    have ed : ns.drop (ns.length - (j + 1)) = ns[ns.length - 1 - j] :: ns.drop (ns.length - j) := by
      have e2 : ns.length - (j + 1) = ns.length - 1 - j := by omega
      have e3 : ns.length - j = (ns.length - 1 - j) + 1 := by omega
      rw [e2, e3]
      exact List.drop_eq_getElem_cons hix
    have ln : (ns.drop (ns.length - j)).length = j := by rw [List.length_drop]; omega
    have sd : Sz (A + (B + 1) * j) (hv (ns.drop (ns.length - j)) p q) := by
      have := hv_sz (ns.drop (ns.length - j)) (fun c hc => hA c (List.mem_of_mem_drop hc)) hp hq
      rwa [ln] at this
    have sc : Sz A ns[ns.length - 1 - j] := hA _ (List.getElem_mem hix)
    have sq := hq.pow j
    have bd : A + (B + 1) * j + (B + 1) ≤ 400000 := by
      have : (B + 1) * (j + 1) ≤ (B + 1) * (ns.length + 1) := Nat.mul_le_mul_left _ (by omega)
      rw [Nat.mul_succ] at this
      omega
    have bq : B * j ≤ (B + 1) * j := Nat.mul_le_mul_right _ (Nat.le_succ B)
    have hk0 : (atI (elems r) (((elems r).length : Int) - 1 - (j : Int))) = some (.int ns[ns.length - 1 - j]) := by rw [ei]; exact hat
    have hit : itAt (elems r) (((elems r).length : Int) - 1 - (j : Int)) = .int ns[ns.length - 1 - j] := by unfold itAt; rw [hk0]; rfl
    refine ⟨⟨⟨rfl, ⟨rfl, trivial, rfl, rfl, rfl⟩, rfl, rfl, sd.W hp (by omega)⟩, ⟨⟨rfl, rfl, hr.sq, rfl, ?_⟩, rfl, ?_, rfl, ?_⟩, rfl, rfl⟩, ⟨rfl, ⟨rfl, trivial, rfl, rfl, rfl⟩, rfl, rfl, sq.W hq (by omega)⟩, ?_⟩
    · show (atI (elems r) (((elems r).length : Int) - 1 - (j : Int))).isSome = true
      rw [hk0]
      rfl
    · show isI (itAt (elems r) (((elems r).length : Int) - 1 - (j : Int))) = true
      rw [hit]
      rfl
    · show CMulW (toI (itAt (elems r) (((elems r).length : Int) - 1 - (j : Int)))) (q ^ j)
      rw [hit]
      exact sc.W sq (by omega)
    · refine ⟨some (.int (((elems r).length : Int) - 1 - (j : Int))), ?_, h1⟩
      show [some r, some (.tup [.int p, .int q]), some (.int (hv (ns.drop (ns.length - j)) p q * p + toI (itAt (elems r) (((elems r).length : Int) - 1 - (j : Int))) * q ^ j)), some (.int (q ^ j * q)), some (.int (((elems r).length : Int) - 1 - (j : Int)))] = _
      rw [hit, ed, hv, ln, Int.pow_succ, Int.mul_comm p, Int.add_comm (_ * p)]
      rfl
  · rintro ρ ⟨k, rfl, _⟩
    have e1 : (rngD (toI (.int (((elems r).length : Int) - 1))) (toI (.int (((elems r).length : Int) - 1)) - toI (.int (-1))).toNat).length = ns.length := by
      rw [rngD_len]
      show (((elems r).length : Int) - 1 - -1).toNat = ns.length
      rw [hlen]
      omega
    refine ⟨⟨⟨rfl, trivial⟩, rfl, _, rfl⟩, ?_⟩
    show PV.int (hv (ns.drop (ns.length - (rngD (toI (.int (((elems r).length : Int) - 1))) (toI (.int (((elems r).length : Int) - 1)) - toI (.int (-1))).toNat).length)) p q).sign = PV.int (hv (toIs (elems r)) p q).sign
    rw [e1, Nat.sub_self, List.drop_zero, hr.el, toIs_map]

def s_joined : FS := ⟨fun as => ∃ (xs : List Int) (a b : Int) (A B : Nat), as = [iL xs, iL [a, b]] ∧ xs.length ≤ 1000 ∧ (∀ c ∈ xs, Sz A c) ∧ Sz B a ∧ Sz B b ∧ A + B ≤ 900000, fun as => match as with
  | [.list xs, .list [.int a, .int b]] => iL (jn (toIs xs) a b)
  | _ => .non⟩
theorem p_joined : ∀ as, as.length = 2 → s_joined.g as → phi_joined ⟨fun _ => False, fun v => v = s_joined.f as⟩ (st0 N_joined as) := by
  rintro as - ⟨xs, a, b, A, B, rfl, hl, hA, ha, hb, hs⟩
  have e0 : cmp 4 c0.c (eI 0).f (st0 N_joined [iL xs, iL [a, b]]) (xs.map PV.int) = (List.replicate xs.length 0).map PV.int := (cmp_all 4 _ _ _).trans (map0 xs)
  show (pSeq (pSet 2 (eCat (eLc 4 (iSq (eV 0)) c0 (eI 0)) (eLst (aC (eI 0) a0)))) _) _ _
  refine ⟨⟨⟨⟨rfl, rfl⟩, ?_, fun v hv => ⟨trivial, fun _ => trivial⟩⟩, ⟨⟨trivial, trivial⟩, sl1⟩, rfl, rfl, ?_⟩, ⟨⟨rfl, rfl⟩, rfl, ?_⟩, fun k ρ => ∃ F x, ρ = [some (iL xs), some (iL [a, b]), some (iL F), x, none] ∧ F.length = xs.length + 1 ∧ (∀ t, ev F t = ev (xs.take k) t * (a + b * t)) ∧ k ≤ xs.length, ⟨List.replicate xs.length 0 ++ [0], none, ?_, by simp, fun t => ?_, Nat.zero_le _⟩, ?_, ?_⟩
  · show (xs.map PV.int).length ≤ _
    rw [len_iL]
    exact sl hl
  · show (cmp 4 c0.c (eI 0).f (st0 N_joined [iL xs, iL [a, b]]) (xs.map PV.int)).length + 1 ≤ _
    rw [e0, len_iL, List.length_replicate]
    exact small1000 hl
  · show inR (((xs.map PV.int).length : Nat) : Int)
    rw [len_iL]
    exact inR_nat (by omega)
  · show [_, _, some (PV.list (cmp 4 c0.c (eI 0).f (st0 N_joined [iL xs, iL [a, b]]) (xs.map PV.int) ++ [PV.int 0])), _, _] = _
    rw [e0, show iL (List.replicate xs.length 0 ++ [0]) = PV.list (List.map PV.int (List.replicate xs.length 0) ++ [PV.int 0]) by rw [iL, List.map_append]; rfl]
  · rw [ev_snoc0, ev_zero, List.take_zero]
    simp [ev]
  · rintro k v ρ hk ⟨F, x, rfl, hF, hev, _⟩
    obtain ⟨h1, rfl⟩ := rng_get hk
    have h1 : k < xs.length := by
      have h2 : k < ((((xs.map PV.int).length : Nat) : Int)).toNat := h1
      rw [len_iL] at h2
      omega
    rw [Int.zero_add]
    have f1 := it_iL (xs := F) (j := k) (by omega)
    have f2 := it_iL (xs := xs) (j := k) h1
    have f3 : itAt ((F.set k (F.getD k 0 + xs.getD k 0 * a)).map PV.int) ((k : Int) + 1) = .int ((F.set k (F.getD k 0 + xs.getD k 0 * a)).getD (k + 1) 0) := it_iL (j := k + 1) (by rw [List.length_set]; omega)
    have f4 : ixN (F.map PV.int).length (k : Int) = some k := ix_nat (by rw [len_iL]; omega)
    have f5 : ixN ((F.set k (F.getD k 0 + xs.getD k 0 * a)).map PV.int).length ((k : Int) + 1) = some (k + 1) := ix_nat (j := k + 1) (by rw [len_iL, List.length_set]; omega)
    have f6 := at_iL (xs := F) (j := k) (by omega)
    have f7 := at_iL (xs := xs) (j := k) h1
    have f8 : atI ((F.set k (F.getD k 0 + xs.getD k 0 * a)).map PV.int) ((k : Int) + 1) = some (.int ((F.set k (F.getD k 0 + xs.getD k 0 * a)).getD (k + 1) 0)) := at_iL (j := k + 1) (by rw [List.length_set]; omega)
    have sx := getD_sz hA k
    have w1 : CMulW (xs.getD k 0) a := sx.W ha (by omega)
    have w2 : CMulW (xs.getD k 0) b := sx.W hb (by omega)
    walk_at "nf"
    simp only [f1, f2, f3, f4, f5, f6, f7, f8, Option.isSome_some, Option.getD_some, PL.toI_int, PL.isI_int, set_iL, true_and, and_true]
    refine ⟨w1, w2, _, _, rfl, by rw [List.length_set, List.length_set, hF], fun t => ?_, h1⟩
    rw [ev_setD t _ (by rw [List.length_set]; omega), ev_setD t _ (by omega), hev, ev_takeD t h1, Int.pow_succ]
    grind
  · rintro ρ ⟨F, x, rfl, hF, hev, _⟩
    have e1 : (rng 0 (((xs.map PV.int).length : Nat) : Int).toNat).length = xs.length := by
      rw [rng_len, len_iL]
      omega
    refine ⟨rfl, ?_⟩
    show iL F = iL (jn (toIs (xs.map PV.int)) a b)
    rw [toIs_map]
    congr 2
    refine ev_ext (by rw [hF, jn_len]) 0 fun t _ => ?_
    rw [ev_jn, hev]
    show ev (List.take (rng 0 (((xs.map PV.int).length : Nat) : Int).toNat).length xs) _ * _ = _
    rw [e1, List.take_length]

def s_turned : FS := ⟨fun as => ∃ (r : PV) (ns : List Int) (p q u v : Int) (A B : Nat), as = [r, .tup [.int p, .int q], .tup [.int u, .int v]] ∧ RowV r ns ∧ ns ≠ [] ∧ ns.length ≤ 999 ∧ (∀ c ∈ ns, Sz A c) ∧ Sz B p ∧ Sz B q ∧ Sz B u ∧ Sz B v ∧ A + (2 * B + 4) * (ns.length + 2) ≤ 400000, fun as => match as with
  | [r, .tup [.int p, .int q], .tup [.int u, .int v]] => iL (trn (toIs (elems r)) (p * v) (u * q) (q * v))
  | _ => .non⟩
theorem drop_trn {ns : List Int} {b e h : Int} {j : Nat} (hj : j + 2 ≤ ns.length) : trn (ns.drop (ns.length - (j + 2))) b e h =
    addL (jn (trn (ns.drop (ns.length - (j + 1))) b e h) b e) ((pwl h (j + 1)).map fun x => ns.getD (ns.length - (j + 2)) 0 * x) := by
  have h1 : ns.length - (j + 2) < ns.length := by omega
  have h2 : ns.length - (j + 1) < ns.length := by omega
  have e1 : ns.drop (ns.length - (j + 2)) = ns[ns.length - (j + 2)] :: ns.drop (ns.length - (j + 1)) := by
    rw [List.drop_eq_getElem_cons h1, show ns.length - (j + 2) + 1 = ns.length - (j + 1) by omega]
  have e2 := List.drop_eq_getElem_cons h2
  rw [e1, List.getD_eq_getElem?_getD, List.getElem?_eq_getElem h1]
  rw [e2, trn]
  rw [List.length_drop, show ns.length - (ns.length - (j + 1) + 1) + 1 = j + 1 by omega]
  rfl
theorem p_turned : ∀ as, as.length = 3 → s_turned.g as → phi_turned s_joined ⟨fun _ => False, fun v => v = s_turned.f as⟩ (st0 N_turned as) := by
  rintro as - ⟨r, ns, p, q, u, v, A, B, rfl, hr, hne, hl, hA, hp, hq, hu, hv, hs⟩
  have hpos : 0 < ns.length := List.length_pos_iff.mpr hne
  have hlen := hr.len
  have hel := hr.el
  have hsq := hr.sq
  have sb : Sz (2 * B) (p * v) := (hp.mul hv).mono (by omega)
  have se : Sz (2 * B) (u * q) := (hu.mul hq).mono (by omega)
  have sh : Sz (2 * B) (q * v) := (hq.mul hv).mono (by omega)
  have bB : 2 * (2 * B + 4) ≤ (2 * B + 4) * (ns.length + 2) := by rw [Nat.mul_comm 2]; exact Nat.mul_le_mul_left _ (by omega)
  have w1 : CMulW p v := hp.W hv (by omega)
  have w2 : CMulW u q := hu.W hq (by omega)
  have w3 : CMulW q v := hq.W hv (by omega)
  have al : atI (ns.map PV.int) (-1) = some (.int (ns.getD (ns.length - 1) 0)) := at_last hne
  have il : itAt (ns.map PV.int) (-1) = .int (ns.getD (ns.length - 1) 0) := it_last hne
  have s1 : 1 ≤ sizeLine := sl1
  have g0 : inR (((elems r).length : Int) - 2) := by rw [hlen]; exact ⟨by omega, by omega⟩
  refine ⟨?_, ?_, ?_, ?_, ?_, ⟨⟨⟨⟨rfl, hsq⟩, trivial, rfl, rfl⟩, ⟨trivial, rfl⟩, ⟨trivial, rfl⟩, rfl, rfl, rfl, g0, inRm⟩, fun j ρ => ∃ x, ρ = [some r, some (.tup [.int p, .int q]), some (.tup [.int u, .int v]), some (.int (p * v)), some (.int (u * q)), some (.int (q * v)),
    some (iL (trn (ns.drop (ns.length - (j + 1))) (p * v) (u * q) (q * v))), some (iL (pwl (q * v) j)), x, none, none] ∧ j + 1 ≤ ns.length, ⟨none, ?_, by omega⟩, ?_, ?_⟩⟩
  · walk_at "sg"; exact w1
  · walk_at "sg"; exact w2
  · walk_at "sg"; exact w3
  · refine ⟨⟨⟨rfl, ⟨trivial, rfl⟩, hsq, rfl, ?_⟩, trivial⟩, s1⟩
    show (atI (elems r) (-1)).isSome = true
    rw [hel, al]
    rfl
  · exact ⟨⟨trivial, trivial⟩, s1⟩
  · show [_, _, _, some (PV.int (p * v)), some (PV.int (u * q)), some (PV.int (q * v)), some (PV.list [itAt (elems r) (-1)]), some (PV.list [PV.int 1]), _, _, _] = _
    rw [hel, il, List.drop_eq_getElem_cons (show ns.length - (0 + 1) < ns.length by omega), show ns.length - (0 + 1) + 1 = ns.length by omega, List.drop_length, trn, List.getD_eq_getElem?_getD, List.getElem?_eq_getElem (by omega)]
    rfl
  · rintro j w ρ hj ⟨x, rfl, _⟩
    obtain ⟨h1, rfl⟩ := rngD_get hj
    have h1 : j + 2 ≤ ns.length := by
      have h2 : j < (((elems r).length : Int) - 2 - -1).toNat := h1
      rw [hlen] at h2
      omega
    have ei : ((elems r).length : Int) - 2 - (j : Int) = ((ns.length - (j + 2) : Nat) : Int) := by rw [hlen]; omega
    show (pSeq (pSet 7 (eLc 9 (iSq (eCall 2 s_joined (aC (eV 7) (aC (eLst (aC (eI 1) (aC (eI 1) a0))) a0)))) c0 (eMul (eV 5) (eV 9)))) (pSeq (pSet 6 (eCall 2 s_joined (aC (eV 6) (aC (eLst (aC (eV 3) (aC (eV 4) a0))) a0)))) (pSet 6 (eLc 10 (iR1 (eLen (eV 6))) c0 (eAdd (eIx (eV 6) (eV 10)) (eMul (eIx (eV 0) (eV 8)) (eIx (eV 7) (eV 10)))))))) _
      [some r, some (.tup [.int p, .int q]), some (.tup [.int u, .int v]), some (.int (p * v)), some (.int (u * q)), some (.int (q * v)), some (iL (trn (ns.drop (ns.length - (j + 1))) (p * v) (u * q) (q * v))), some (iL (pwl (q * v) j)), some (.int (((elems r).length : Int) - 2 - (j : Int))), none, none]
    rw [ei]
    generalize hT : trn (ns.drop (ns.length - (j + 1))) (p * v) (u * q) (q * v) = T
    have lT : T.length = j + 1 := by rw [← hT, trn_len, List.length_drop]; omega
    have sT : ∀ c ∈ T, Sz (A + 1 + (2 * B + 3) * (j + 1)) c := by
      have := trn_sz (A := A) sb se sh (ns.drop (ns.length - (j + 1))) fun c h => hA c (List.mem_of_mem_drop h)
      rw [hT, List.length_drop, show ns.length - (ns.length - (j + 1)) = j + 1 by omega] at this
      exact this
    have bd : (2 * B + 4) * (j + 2) + (2 * B + 4) * 2 ≤ (2 * B + 4) * (ns.length + 2) := by rw [← Nat.mul_add]; exact Nat.mul_le_mul_left _ (by omega)
    have bd2 : (2 * B + 3) * (j + 1) ≤ (2 * B + 4) * (j + 2) := Nat.mul_le_mul (by omega) (by omega)
    have bd3 : (2 * B + 2) * (j + 1) ≤ (2 * B + 4) * (j + 2) := Nat.mul_le_mul (by omega) (by omega)
    have lP := pwl_len (q * v) j
    have sP := pwl_sz sh j
    have bd4 : (2 * B + 2) * j ≤ (2 * B + 4) * (j + 2) := Nat.mul_le_mul (by omega) (by omega)
    have gP : s_joined.g [iL (pwl (q * v) j), .list [.int 1, .int 1]] := ⟨_, 1, 1, _, 1, rfl, by omega, sP, Sz.one, Sz.one, by omega⟩
    have gT : s_joined.g [iL T, .list [.int (p * v), .int (u * q)]] := ⟨T, p * v, u * q, _, 2 * B, rfl, by omega, sT, sb, se, by omega⟩
    have fP : s_joined.f [iL (pwl (q * v) j), .list [.int 1, .int 1]] = iL (jn (pwl (q * v) j) 1 1) := by
      show iL (jn (toIs ((pwl (q * v) j).map PV.int)) 1 1) = _
      rw [toIs_map]
    have fT : s_joined.f [iL T, .list [.int (p * v), .int (u * q)]] = iL (jn T (p * v) (u * q)) := by
      show iL (jn (toIs (T.map PV.int)) (p * v) (u * q)) = _
      rw [toIs_map]
    have s2 : 2 ≤ sizeLine := sl2
    have sJ := jn_sz sP Sz.one Sz.one
    refine ⟨⟨⟨⟨⟨rfl, ⟨⟨trivial, trivial, trivial⟩, s2⟩, trivial⟩, rfl, gP⟩, ?_⟩, ?_, ?_⟩, ⟨⟨rfl, ⟨⟨rfl, rfl, trivial⟩, s2⟩, trivial⟩, rfl, gT⟩, ?_⟩
    · show isSq (s_joined.f [iL (pwl (q * v) j), .list [.int 1, .int 1]]) = true
      rw [fP]
      rfl
    · show (elems (s_joined.f [iL (pwl (q * v) j), .list [.int 1, .int 1]])).length ≤ _
      rw [fP]
      show (List.map PV.int (jn (pwl (q * v) j) 1 1)).length ≤ _
      rw [len_iL, jn_len]
      exact sl (by omega)
    · intro w hw
      have hw : w ∈ elems (s_joined.f [iL (pwl (q * v) j), .list [.int 1, .int 1]]) := hw
      rw [fP] at hw
      obtain ⟨c, hc, rfl⟩ := List.mem_map.mp (show w ∈ (jn (pwl (q * v) j) 1 1).map PV.int from hw)
      exact ⟨trivial, fun _ => ⟨rfl, rfl, rfl, rfl, sh.W (sJ c hc) (by omega)⟩⟩
    have e7 : cmp 9 c0.c (eMul (eV 5) (eV 9)).f [some r, some (.tup [.int p, .int q]), some (.tup [.int u, .int v]), some (.int (p * v)), some (.int (u * q)), some (.int (q * v)), some (iL T), some (iL (pwl (q * v) j)), some (.int ((ns.length - (j + 2) : Nat) : Int)), none, none] (elems (s_joined.f [iL (pwl (q * v) j), .list [.int 1, .int 1]])) = (pwl (q * v) (j + 1)).map PV.int := by
      rw [fP]
      refine (cmp_all _ _ _ _).trans ?_
      show List.map _ ((jn (pwl (q * v) j) 1 1).map PV.int) = (((jn (pwl (q * v) j) 1 1).map fun x => q * v * x).map PV.int)
      rw [List.map_map, List.map_map]
      rfl
    show (pSet 6 (eLc 10 (iR1 (eLen (eV 6))) c0 (eAdd (eIx (eV 6) (eV 10)) (eMul (eIx (eV 0) (eV 8)) (eIx (eV 7) (eV 10)))))) _
      [some r, some (.tup [.int p, .int q]), some (.tup [.int u, .int v]), some (.int (p * v)), some (.int (u * q)), some (.int (q * v)), some (s_joined.f [iL T, .list [.int (p * v), .int (u * q)]]), some (PV.list (cmp 9 c0.c (eMul (eV 5) (eV 9)).f [some r, some (.tup [.int p, .int q]), some (.tup [.int u, .int v]), some (.int (p * v)), some (.int (u * q)), some (.int (q * v)), some (iL T), some (iL (pwl (q * v) j)), some (.int ((ns.length - (j + 2) : Nat) : Int)), none, none] (elems (s_joined.f [iL (pwl (q * v) j), .list [.int 1, .int 1]])))), some (.int ((ns.length - (j + 2) : Nat) : Int)), none, none]
    rw [e7, fT]
    have lJ : (jn T (p * v) (u * q)).length = j + 2 := by rw [jn_len, lT]
    have lQ := pwl_len (q * v) (j + 1)
    have sQ := pwl_sz sh (j + 1)
    have ir : itAt (elems r) ((ns.length - (j + 2) : Nat) : Int) = .int (ns.getD (ns.length - (j + 2)) 0) := by rw [hel]; exact it_iL (by omega)
    have ar : atI (elems r) ((ns.length - (j + 2) : Nat) : Int) = some (.int (ns.getD (ns.length - (j + 2)) 0)) := by rw [hel]; exact at_iL (by omega)
    have e6 : (rng 0 ((((jn T (p * v) (u * q)).map PV.int).length : Nat) : Int).toNat) = rng 0 (j + 2) := by rw [len_iL, lJ, Int.toNat_natCast]
    refine ⟨⟨⟨⟨rfl, rfl⟩, rfl, ?_⟩, ?_, ?_⟩, some (.int ((ns.length - (j + 2) : Nat) : Int)), ?_, by omega⟩
    · show inR ((((jn T (p * v) (u * q)).map PV.int).length : Nat) : Int)
      rw [len_iL, lJ]
      exact inR_nat (by omega)
    · show (rng 0 ((((jn T (p * v) (u * q)).map PV.int).length : Nat) : Int).toNat).length ≤ _
      rw [e6, rng_len]
      exact sl (by omega)
    · intro w hw
      have hw : w ∈ rng 0 ((((jn T (p * v) (u * q)).map PV.int).length : Nat) : Int).toNat := hw
      rw [e6] at hw
      obtain ⟨i, hi, rfl⟩ := List.mem_iff_getElem.mp hw
      obtain ⟨hi2, ei2⟩ := rng_get (List.getElem?_eq_getElem hi)
      rw [ei2, Int.zero_add]
      have q1 := at_iL (xs := jn T (p * v) (u * q)) (j := i) (by omega)
      have q2 := at_iL (xs := pwl (q * v) (j + 1)) (j := i) (by omega)
      have q3 := it_iL (xs := jn T (p * v) (u * q)) (j := i) (by omega)
      have q4 := it_iL (xs := pwl (q * v) (j + 1)) (j := i) (by omega)
      have wq : CMulW (ns.getD (ns.length - (j + 2)) 0) ((pwl (q * v) (j + 1)).getD i 0) := (getD_sz hA _).W (getD_sz sQ i) (by omega)
      walk_at "nf"
      simp only [q1, q2, q3, q4, ar, ir, hsq, Option.isSome_some, toI_int, isI_int, and_true, true_and, forall_const]
      exact wq
    · show [_, _, _, _, _, _, some (PV.list (cmp 10 c0.c (eAdd (eIx (eV 6) (eV 10)) (eMul (eIx (eV 0) (eV 8)) (eIx (eV 7) (eV 10)))).f [some r, some (.tup [.int p, .int q]), some (.tup [.int u, .int v]), some (.int (p * v)), some (.int (u * q)), some (.int (q * v)), some (iL (jn T (p * v) (u * q))), some (iL (pwl (q * v) (j + 1))), some (.int ((ns.length - (j + 2) : Nat) : Int)), none, none] (rng 0 ((((jn T (p * v) (u * q)).map PV.int).length : Nat) : Int).toNat))), _, _, _, _] = _
      rw [e6, drop_trn h1, hT]
      congr 1
      congr 1
      congr 1
      congr 1
      congr 1
      congr 1
      congr 1
      congr 1
      show PV.list (cmp 10 (fun _ => true) _ _ _) = _
      rw [cmp_all]
      congr 1
      refine List.ext_getElem (by rw [List.length_map, rng_len, len_iL, addL_len (by rw [lJ, List.length_map, lQ]), lJ]) fun i hi1 hi2 => ?_
      rw [List.length_map, rng_len] at hi1
      have q3 := it_iL (xs := jn T (p * v) (u * q)) (j := i) (by omega)
      have q4 := it_iL (xs := pwl (q * v) (j + 1)) (j := i) (by omega)
      rw [List.getElem_map, List.getElem_map]
      have er : (rng 0 (j + 2))[i]'(by rw [rng_len]; exact hi1) = .int (i : Int) := by
        have := (rng_get (List.getElem?_eq_getElem (show i < (rng 0 (j + 2)).length by rw [rng_len]; exact hi1))).2
        rw [this, Int.zero_add]
      rw [er]
      show PV.int (toI (itAt ((jn T (p * v) (u * q)).map PV.int) (i : Int)) + toI (itAt (elems r) ((ns.length - (j + 2) : Nat) : Int)) * toI (itAt ((pwl (q * v) (j + 1)).map PV.int) (i : Int))) = _
      rw [q3, q4, ir]
      congr 1
      have ea := addL_get (xs := jn T (p * v) (u * q)) (ys := (pwl (q * v) (j + 1)).map fun x => ns.getD (ns.length - (j + 2)) 0 * x) (i := i) (by omega) (by rw [List.length_map]; omega)
      have eb := List.getElem?_eq_getElem (l := addL (jn T (p * v) (u * q)) ((pwl (q * v) (j + 1)).map fun x => ns.getD (ns.length - (j + 2)) 0 * x)) (i := i) (by rw [addL_len (by rw [lJ, List.length_map, lQ])]; omega)
      rw [eb] at ea
      have ec := Option.some.inj ea
      refine Eq.trans ?_ ec.symm
      rw [List.getElem_map, List.getD_eq_getElem?_getD, List.getElem?_eq_getElem (show i < (jn T (p * v) (u * q)).length by omega), List.getD_eq_getElem?_getD (l := pwl (q * v) (j + 1)), List.getElem?_eq_getElem (show i < (pwl (q * v) (j + 1)).length by omega)]
      rfl
  · rintro ρ ⟨x, rfl, hle⟩
    have e1 : (rngD (((elems r).length : Int) - 2) (((elems r).length : Int) - 2 - -1).toNat).length = ns.length - 1 := by
      rw [rngD_len, hlen]
      omega
    refine ⟨rfl, ?_⟩
    show iL (trn (ns.drop (ns.length - ((rngD (((elems r).length : Int) - 2) (((elems r).length : Int) - 2 - -1).toNat).length + 1))) (p * v) (u * q) (q * v)) = iL (trn (toIs (elems r)) (p * v) (u * q) (q * v))
    rw [e1, show ns.length - (ns.length - 1 + 1) = 0 by omega, List.drop_zero, hel, toIs_map]

def s_turns : FS := ⟨s_turned.g, fun as => match as with
  | [r, .tup [.int p, .int q], .tup [.int u, .int v]] => .int (sv (trn (toIs (elems r)) (p * v) (u * q) (q * v)))
  | _ => .non⟩
theorem cmp_sgns (i : Nat) (ρ : PEnv) (hi : i < ρ.length) : ∀ T : List Int, cmp i (cNeI (eV i) (eI 0)).c (eCall 1 s_sign_of (aC (eV i) a0)).f ρ (T.map PV.int) = (sgns T).map PV.int
  | [] => rfl
  | x :: T => by
    have ih := cmp_sgns i ρ hi T
    have e : gv (ρ.set i (some (.int x))) i = .int x := by
      unfold gv
      rw [List.getElem?_set_self hi]
    show cmp i _ _ ρ (PV.int x :: T.map PV.int) = _
    unfold cmp
    show (if decide (toI (gv (ρ.set i (some (.int x))) i) ≠ 0) = true then s_sign_of.f [gv (ρ.set i (some (.int x))) i] :: cmp i _ _ ρ (T.map PV.int) else cmp i _ _ ρ (T.map PV.int)) = _
    rw [e, ih]
    by_cases hx : x = 0
    · subst hx
      rw [sgns_zero]
      rfl
    · rw [sgns_cons hx, if_pos (show decide (toI (PV.int x) ≠ 0) = true from decide_eq_true hx)]
      rfl
theorem p_turns : ∀ as, as.length = 3 → s_turns.g as → phi_turns s_turned s_sign_of ⟨fun _ => False, fun v => v = s_turns.f as⟩ (st0 N_turns as) := by
  rintro as - hg
  obtain ⟨r, ns, p, q, u, v, A, B, rfl, hr, hne, hl, hA, hp, hq, hu, hv, hs⟩ := id hg
  have hel := hr.el
  have ef : s_turned.f [r, .tup [.int p, .int q], .tup [.int u, .int v]] = iL (trn ns (p * v) (u * q) (q * v)) := by
    show iL (trn (toIs (elems r)) (p * v) (u * q) (q * v)) = _
    rw [hel, toIs_map]
  generalize hT : trn ns (p * v) (u * q) (q * v) = T at ef
  have lT : T.length = ns.length := by rw [← hT, trn_len]
  have ec : cmp 4 (cNeI (eV 4) (eI 0)).c (eCall 1 s_sign_of (aC (eV 4) a0)).f [some r, some (.tup [.int p, .int q]), some (.tup [.int u, .int v]), none, none, none] (elems (s_turned.f [r, .tup [.int p, .int q], .tup [.int u, .int v]])) = (sgns T).map PV.int := by
    rw [ef]
    exact cmp_sgns 4 _ (by simp) T
  have lS : (sgns T).length ≤ T.length := by
    unfold sgns
    rw [List.length_map]
    exact List.length_filter_le _ _
  refine ⟨⟨⟨⟨⟨rfl, rfl, rfl, trivial⟩, rfl, hg⟩, ?_⟩, ?_, fun w hw => ?_⟩, ?_⟩
  · show isSq (s_turned.f [r, .tup [.int p, .int q], .tup [.int u, .int v]]) = true
    rw [ef]
    rfl
  · show (elems (s_turned.f [r, .tup [.int p, .int q], .tup [.int u, .int v]])).length ≤ _
    rw [ef]
    show (T.map PV.int).length ≤ _
    rw [len_iL]
    exact sl (by omega)
  · have hw : w ∈ elems (s_turned.f [r, .tup [.int p, .int q], .tup [.int u, .int v]]) := hw
    rw [ef] at hw
    obtain ⟨c, hc, rfl⟩ := List.mem_map.mp (show w ∈ T.map PV.int from hw)
    exact ⟨⟨rfl, trivial, rfl, rfl⟩, fun _ => ⟨⟨rfl, trivial⟩, rfl, c, rfl⟩⟩
  · show (pRet (eSum (eLc 5 (iR2 (eI 1) (eLen (eV 3))) (cNe (eIx (eV 3) (eV 5)) (eIx (eV 3) (eSub (eV 5) (eI 1)))) (eI 1)))) _ [some r, some (.tup [.int p, .int q]), some (.tup [.int u, .int v]), some (PV.list (cmp 4 (cNeI (eV 4) (eI 0)).c (eCall 1 s_sign_of (aC (eV 4) a0)).f [some r, some (.tup [.int p, .int q]), some (.tup [.int u, .int v]), none, none, none] (elems (s_turned.f [r, .tup [.int p, .int q], .tup [.int u, .int v]])))), none, none]
    rw [ec]
    have er : (rng 1 (((((sgns T).map PV.int).length : Nat) : Int) - 1).toNat) = rng 1 ((sgns T).length - 1) := by
      rw [len_iL]
      congr 1
      omega
    have at1 : ∀ {k : Nat}, k < (sgns T).length - 1 → atI ((sgns T).map PV.int) (1 + (k : Int)) = some (.int ((sgns T).getD (k + 1) 0)) := fun {k} h => by
      rw [show (1 : Int) + (k : Int) = ((k + 1 : Nat) : Int) by omega]
      exact at_iL (by omega)
    have at2 : ∀ {k : Nat}, k < (sgns T).length - 1 → atI ((sgns T).map PV.int) (1 + (k : Int) - 1) = some (.int ((sgns T).getD k 0)) := fun {k} h => by
      rw [show (1 : Int) + (k : Int) - 1 = (k : Int) by omega]
      exact at_iL (by omega)
    have cnt := cmp_ones 5 (cNe (eIx (eV 3) (eV 5)) (eIx (eV 3) (eSub (eV 5) (eI 1)))).c [some r, some (.tup [.int p, .int q]), some (.tup [.int u, .int v]), some (iL (sgns T)), none, none] 1 (fun k => decide ((sgns T).getD (k + 1) 0 ≠ (sgns T).getD k 0)) ((sgns T).length - 1) fun k hk => by
      show (!eqP (itAt ((sgns T).map PV.int) (1 + (k : Int))) (itAt ((sgns T).map PV.int) (1 + (k : Int) - 1))) = _
      unfold itAt
      rw [at1 hk, at2 hk]
      show (!((sgns T).getD (k + 1) 0 == (sgns T).getD k 0)) = _
      rw [Bool.beq_eq_decide_eq, ← decide_not]
    refine ⟨⟨⟨⟨trivial, ⟨rfl, rfl⟩, rfl, rfl, inR1, ?_⟩, ?_, fun w hw => ?_⟩, rfl, ?_⟩, ?_⟩
    · show inR ((((sgns T).map PV.int).length : Nat) : Int)
      rw [len_iL]
      exact inR_nat (by omega)
    · show (rng 1 (((((sgns T).map PV.int).length : Nat) : Int) - 1).toNat).length ≤ _
      rw [er, rng_len]
      exact sl (by omega)
    · have hw : w ∈ rng 1 (((((sgns T).map PV.int).length : Nat) : Int) - 1).toNat := hw
      rw [er] at hw
      obtain ⟨i, hi, rfl⟩ := List.mem_iff_getElem.mp hw
      obtain ⟨hi2, ei2⟩ := rng_get (List.getElem?_eq_getElem hi)
      rw [ei2]
      refine ⟨?_, fun _ => trivial⟩
      have q1 := at1 hi2
      have q2 := at2 hi2
      have q3 : itAt ((sgns T).map PV.int) (1 + (i : Int)) = .int ((sgns T).getD (i + 1) 0) := by unfold itAt; rw [q1]; rfl
      have q4 : itAt ((sgns T).map PV.int) (1 + (i : Int) - 1) = .int ((sgns T).getD i 0) := by unfold itAt; rw [q2]; rfl
      walk_at "nf"
      simp only [q1, q2, q3, q4, Option.isSome_some, true_and]
      exact ⟨rfl, rfl⟩
    · show allI (cmp 5 _ _ _ (rng 1 (((((sgns T).map PV.int).length : Nat) : Int) - 1).toNat)) = true
      rw [er]
      exact cnt.2
    · show PV.int (toIs (cmp 5 _ _ _ (rng 1 (((((sgns T).map PV.int).length : Nat) : Int) - 1).toNat))).sum = .int (sv (trn (toIs (elems r)) (p * v) (u * q) (q * v)))
      rw [er, hel, toIs_map, hT, sv_chg, chg_sm]
      congr 1
      refine cnt.1.trans ?_
      congr 1
      funext k
      by_cases h : (sgns T).getD (k + 1) 0 = (sgns T).getD k 0 <;> simp [h]

def s_law_whole : FS := ⟨fun as => match as with
  | [v] => noE v
  | _ => True, fun as => match as with
  | [v] => .bl (inTy "int" v && !inTy "bool" v)
  | _ => .non⟩
theorem p_law_whole : ∀ as, as.length = 1 → s_law_whole.g as → phi_law_whole ⟨fun _ => False, fun v => v = s_law_whole.f as⟩ (st0 N_law_whole as) := by
  intro as hl hg
  match as, hl, hg with
  | [v], _, hg => exact ⟨⟨⟨rfl, hg⟩, rfl, fun _ => ⟨⟨⟨rfl, hg⟩, rfl⟩, rfl⟩⟩, rfl⟩

def cellAt (ns : List Int) (k : Nat) : Int := ns.getD k 0
def s_law_cell_at : FS := ⟨fun as => ∃ ns k, as = [.scr ns, .int k] ∧ 0 ≤ k, fun as => match as with
  | [.scr ns, .int k] => .int (cellAt ns k.toNat)
  | _ => .non⟩
theorem p_law_cell_at : ∀ as, as.length = 2 → s_law_cell_at.g as → phi_law_cell_at ⟨fun _ => False, fun v => v = s_law_cell_at.f as⟩ (st0 N_law_cell_at as) := by
  rintro as - ⟨ns, k, rfl, hk⟩
  obtain ⟨j, rfl⟩ : ∃ j : Nat, k = (j : Int) := ⟨k.toNat, by omega⟩
  refine ⟨⟨rfl, ⟨rfl, rfl⟩, rfl, rfl⟩, fun hc => ?_, fun hc => ⟨trivial, ?_⟩⟩
  · have h1 : (j : Int) < ((ns.map PV.int).length : Int) := of_decide_eq_true hc
    rw [List.length_map] at h1
    have h2 : j < ns.length := by omega
    have e : atI (ns.map PV.int) (j : Int) = some (.int ns[j]) := atI_nat (by rw [List.getElem?_map, List.getElem?_eq_getElem h2]; rfl)
    refine ⟨⟨rfl, rfl, rfl, rfl, ?_⟩, ?_⟩
    · show (atI (ns.map PV.int) (j : Int)).isSome = true
      rw [e]
      rfl
    · show (atI (ns.map PV.int) (j : Int)).getD .non = PV.int (cellAt ns ((j : Int)).toNat)
      rw [e, Int.toNat_natCast, cellAt, List.getD_eq_getElem?_getD, List.getElem?_eq_getElem h2]
      rfl
  · have h1 : ¬ (j : Int) < ((ns.map PV.int).length : Int) := of_decide_eq_false hc
    rw [List.length_map] at h1
    show PV.int 0 = PV.int (cellAt ns ((j : Int)).toNat)
    rw [Int.toNat_natCast, cellAt, List.getD_eq_getElem?_getD, List.getElem?_eq_none (by omega)]
    rfl

def s_smallest : FS := ⟨fun as => ∃ (r : PV) (ns : List Int), as = [r] ∧ RowV r ns ∧ ns ≠ [] ∧ lastD ns ≠ 0 ∧ Sz 8900 (lastD ns) ∧ ns.length ≤ 999, fun as => match as with
  | [r] => iL (sml (toIs (elems r)))
  | _ => .non⟩
theorem s_smallest_f {r : PV} {ns : List Int} (h : RowV r ns) : s_smallest.f [r] = iL (sml ns) := by
  show iL (sml (toIs (elems r))) = _
  rw [h.el, toIs_map]
theorem p_law_smallest : ∀ as, as.length = 1 → s_smallest.g as → phi_law_smallest s_divisor ⟨fun _ => False, fun v => v = s_smallest.f as⟩ (st0 N_law_smallest as) := by
  rintro as - ⟨r, ns, rfl, hr, hne, hl, sl', hlen⟩
  rw [s_smallest_f hr]
  have hel := hr.el
  have hpos := gcdF_pos hne hl
  have al : atI (ns.map PV.int) (-1) = some (.int (lastD ns)) := at_last hne
  have il : itAt (ns.map PV.int) (-1) = .int (lastD ns) := it_last hne
  have sg : Sz 8900 (gcdF 0 ns) := sl'.le (by
    have d := (gcdF_dvd (xs := ns) (g := 0)).2 _ (lastD_mem hne)
    exact Nat.le_of_dvd (by omega) (Int.natAbs_dvd_natAbs.mpr d))
  refine ⟨trivial, ⟨rfl, hr.sq⟩, fun k ρ => ∃ x, ρ = [some r, some (.int (gcdF 0 (ns.take k))), x] ∧ k ≤ ns.length, ⟨none, rfl, Nat.zero_le _⟩, ?_, ?_⟩
  · rintro k v ρ hk ⟨x, rfl, _⟩
    have hk : (elems r)[k]? = some v := hk
    rw [hel, List.getElem?_map] at hk
    cases hq : ns[k]? with
    | none => rw [hq] at hk; cases hk
    | some c =>
      rw [hq] at hk
      cases hk
      have hlt := (List.getElem?_eq_some_iff.mp hq).1
      refine ⟨⟨⟨rfl, rfl, trivial⟩, rfl, _, c, rfl⟩, some (.int c), ?_, hlt⟩
      rw [List.take_add_one, hq, gcdF_app]
      rfl
  · rintro ρ ⟨x, rfl, _⟩
    have en : (elems r).length = ns.length := hr.len
    have e1 : gcdF 0 (ns.take (elems r).length) = gcdF 0 ns := by rw [en, List.take_length]
    have tail : ∀ by' : Int, by' = byS ns → ∀ x, (pRet (eLc 2 (iSq (eV 0)) c0 (eDiv (eV 2) (eV 1)))) ⟨fun _ => False, fun v => v = iL (sml ns)⟩ [some r, some (.int by'), x] := by
      rintro _ rfl x
      have sb : Sz 8900 (byS ns) := by
        unfold byS
        split
        · rw [Int.zero_sub]; exact sg.neg
        · exact sg
      refine ⟨⟨⟨rfl, hr.sq⟩, by show (elems r).length ≤ _; rw [en]; exact sl (by omega), fun v hv => ⟨trivial, fun _ => ?_⟩⟩, ?_⟩
      · have hv : v ∈ elems r := hv
        rw [hel] at hv
        obtain ⟨c, hc, rfl⟩ := List.mem_map.mp hv
        exact ⟨rfl, rfl, rfl, rfl, sb.D (byS_ne hne hl) (by decide)⟩
      · show PV.list (cmp 2 (fun _ => true) _ _ (elems r)) = _
        rw [cmp_all, hel, iL, sml, List.map_map, List.map_map]
        rfl
    refine ⟨⟨⟨rfl, ⟨trivial, rfl⟩, hr.sq, rfl, ?_⟩, trivial, ?_, rfl⟩, fun hc => ?_, fun hc => ?_⟩
    · show (atI (elems r) (-1)).isSome = true
      rw [hel, al]
      rfl
    · show isI (itAt (elems r) (-1)) = true
      rw [hel, il]
      rfl
    · have hc : toI (itAt (elems r) (-1)) < 0 := of_decide_eq_true hc
      rw [hel, il] at hc
      refine ⟨⟨trivial, rfl, rfl, rfl⟩, tail _ ?_ x⟩
      show 0 - gcdF 0 (ns.take (elems r).length) = _
      rw [e1, byS, if_pos (show lastD ns < 0 from hc)]
    · have hc : ¬ toI (itAt (elems r) (-1)) < 0 := of_decide_eq_false hc
      rw [hel, il] at hc
      refine tail _ ?_ x
      show gcdF 0 (ns.take (elems r).length) = _
      rw [e1, byS, if_neg (show ¬ lastD ns < 0 from hc)]

theorem p_smallest : ∀ as, as.length = 1 → s_smallest.g as → phi_smallest s_divisor ⟨fun _ => False, fun v => v = s_smallest.f as⟩ (st0 N_smallest as) := p_law_smallest

/-- what sign_at and turns ask of a row and two ends -/
structure OkR (r : PV) (ns : List Int) (a b c d : Int) (A B : Nat) : Prop where
  r : RowV r ns
  ne : ns ≠ []
  len : ns.length ≤ 999
  hA : ∀ x ∈ ns, Sz A x
  a : Sz B a
  b : Sz B b
  c : Sz B c
  d : Sz B d
  s : A + (2 * B + 4) * (ns.length + 2) ≤ 400000
theorem OkR.l {r : PV} {ns : List Int} {a b c d : Int} {A B : Nat} (h : OkR r ns a b c d A B) : s_sign_at.g [r, pv a b] := ⟨r, ns, a, b, A, B, rfl, h.r, h.hA, h.a, h.b, by have := h.len; omega, by
  have := h.s
  have : (B + 1) * (ns.length + 1) ≤ (2 * B + 4) * (ns.length + 2) := Nat.mul_le_mul (by omega) (by omega)
  omega⟩
theorem OkR.h {r : PV} {ns : List Int} {a b c d : Int} {A B : Nat} (h : OkR r ns a b c d A B) : s_sign_at.g [r, pv c d] := ⟨r, ns, c, d, A, B, rfl, h.r, h.hA, h.c, h.d, by have := h.len; omega, by
  have := h.s
  have : (B + 1) * (ns.length + 1) ≤ (2 * B + 4) * (ns.length + 2) := Nat.mul_le_mul (by omega) (by omega)
  omega⟩
theorem OkR.t {r : PV} {ns : List Int} {a b c d : Int} {A B : Nat} (h : OkR r ns a b c d A B) : s_turns.g [r, pv a b, pv c d] := ⟨r, ns, a, b, c, d, A, B, rfl, h.r, h.ne, h.len, h.hA, h.a, h.b, h.c, h.d, h.s⟩
def alone (ns : List Int) (a b c d : Int) : Bool := decide (hv ns a b ≠ 0) && (decide (hv ns c d ≠ 0) && decide (vr ns a b c d = 1))
def s_is_alone : FS := ⟨fun as => ∃ r ns a b c d A B, as = [r, pv a b, pv c d] ∧ OkR r ns a b c d A B, fun as => match as with
  | [r, .tup [.int a, .int b], .tup [.int c, .int d]] => .bl (alone (toIs (elems r)) a b c d)
  | _ => .non⟩
theorem s_is_alone_f {r : PV} {ns : List Int} (h : RowV r ns) (a b c d : Int) : s_is_alone.f [r, pv a b, pv c d] = .bl (alone ns a b c d) := by
  show PV.bl (alone (toIs (elems r)) a b c d) = _
  rw [h.el, toIs_map]
theorem s_sign_at_f {r : PV} {ns : List Int} (h : RowV r ns) (a b : Int) : s_sign_at.f [r, pv a b] = .int (hv ns a b).sign := by
  show PV.int (hv (toIs (elems r)) a b).sign = _
  rw [h.el, toIs_map]
theorem s_turns_f {r : PV} {ns : List Int} (h : RowV r ns) (a b c d : Int) : s_turns.f [r, pv a b, pv c d] = .int (vr ns a b c d) := by
  show PV.int (sv (trn (toIs (elems r)) _ _ _)) = _
  rw [h.el, toIs_map]
  rfl
theorem p_is_alone : ∀ as, as.length = 3 → s_is_alone.g as → phi_is_alone s_turns s_sign_at ⟨fun _ => False, fun v => v = s_is_alone.f as⟩ (st0 N_is_alone as) := by
  rintro as - ⟨r, ns, a, b, c, d, A, B, rfl, h⟩
  rw [s_is_alone_f h.r]
  have f1 := s_sign_at_f h.r a b
  have f2 := s_sign_at_f h.r c d
  have f3 := s_turns_f h.r a b c d
  refine ⟨⟨⟨⟨⟨rfl, rfl, trivial⟩, rfl, h.l⟩, trivial, congrArg isI f1, rfl⟩, rfl, fun _ => ⟨⟨⟨⟨⟨rfl, rfl, trivial⟩, rfl, h.h⟩, trivial, congrArg isI f2, rfl⟩, rfl, fun _ => ⟨⟨⟨⟨rfl, rfl, rfl, trivial⟩, rfl, h.t⟩, trivial, congrArg isI f3, rfl⟩, rfl⟩⟩, rfl⟩⟩, ?_⟩
  show PV.bl (decide (toI (s_sign_at.f [r, pv a b]) ≠ 0) && (decide (toI (s_sign_at.f [r, pv c d]) ≠ 0) && decide (toI (s_turns.f [r, pv a b, pv c d]) = 1))) = .bl (alone ns a b c d)
  rw [f1, f2, f3]
  unfold alone
  congr 1
  show (decide ((hv ns a b).sign ≠ 0) && (decide ((hv ns c d).sign ≠ 0) && decide (((vr ns a b c d : Nat) : Int) = 1))) = _
  rw [decide_eq_decide.mpr (sign_ne0 (x := hv ns a b)), decide_eq_decide.mpr (sign_ne0 (x := hv ns c d)), decide_eq_decide.mpr (show ((vr ns a b c d : Nat) : Int) = 1 ↔ vr ns a b c d = 1 by omega)]

/-- which of the three refusals, none at all where it is a peg -/
def pegE (ns : List Int) (a b c d : Int) : Option Str := if ns.length < 2 ∨ lastD ns = 0 then some "NoRow" else if ¬ a * d < c * b then some "NoStretch" else if alone ns a b c d = false then some "NotAlone" else none
def sX_peg : FS := ⟨fun as => ∃ r ns a b c d A B, as = [r, pv a b, pv c d] ∧ RowV r ns ∧ (ns ≠ [] → OkR r ns a b c d A B) ∧ A ≤ 8900 ∧ B ≤ 8900, fun as => match as with
  | [r, .tup [.int a, .int b], .tup [.int c, .int d]] => match pegE (toIs (elems r)) a b c d with
    | some x => .exc x
    | none => pgv (sml (toIs (elems r))) a b c d
  | _ => .non⟩
theorem sX_peg_f {r : PV} {ns : List Int} (h : RowV r ns) (a b c d : Int) : sX_peg.f [r, pv a b, pv c d] = match pegE ns a b c d with
    | some x => .exc x
    | none => pgv (sml ns) a b c d := by
  show (match pegE (toIs (elems r)) a b c d with
    | some x => PV.exc x
    | none => pgv (sml (toIs (elems r))) a b c d) = _
  rw [h.el, toIs_map]
theorem pX_peg : ∀ as, as.length = 3 → sX_peg.g as → phiX_peg s_below s_is_alone s_smallest ⟨fun _ => False, fun v => v = sX_peg.f as⟩ (st0 N_peg as) := by
  rintro as - ⟨r, ns, a, b, c, d, A, B, rfl, hr, hO, hA, hB⟩
  rw [sX_peg_f hr]
  have hsq := hr.sq
  have hlen := hr.len
  have hel := hr.el
  have two : ∀ {x y : Prop}, x ∨ y → x ∨ y := id
  have e : pegE ns a b c d = if ns.length < 2 ∨ lastD ns = 0 then _ else _ := rfl
  refine ⟨⟨⟨⟨rfl, hsq⟩, trivial, rfl, rfl⟩, fun h2 => ?_⟩, fun hc => ?_, fun hc => ?_⟩
  · have h2 : decide (((elems r).length : Int) < 2) = false := h2
    have h2 := of_decide_eq_false h2
    rw [hlen] at h2
    have hne : ns ≠ [] := fun z => by
      rw [z] at h2
      exact h2 (by decide)
    have al : atI (ns.map PV.int) (-1) = some (.int (lastD ns)) := at_last hne
    have il : itAt (ns.map PV.int) (-1) = .int (lastD ns) := it_last hne
    refine ⟨⟨rfl, ⟨trivial, rfl⟩, hsq, rfl, ?_⟩, trivial, ?_, rfl⟩
    · show (atI (elems r) (-1)).isSome = true
      rw [hel, al]; rfl
    · show isI (itAt (elems r) (-1)) = true
      rw [hel, il]; rfl
  · have hc : (decide (((elems r).length : Int) < 2) || decide (toI (itAt (elems r) (-1)) = 0)) = true := hc
    have h : ns.length < 2 ∨ lastD ns = 0 := by
      rw [Bool.or_eq_true] at hc
      by_cases h2 : ns.length < 2
      · exact .inl h2
      · rcases hc with hc | hc
        · have := of_decide_eq_true hc
          rw [hlen] at this
          omega
        · have := of_decide_eq_true hc
          have hne : ns ≠ [] := fun z => by
            rw [z] at h2
            exact h2 (by decide)
          rw [hel, show itAt (ns.map PV.int) (-1) = .int (lastD ns) from it_last hne] at this
          exact .inr this
    show PV.exc "NoRow" = _
    rw [e, if_pos h]
  · have hc : (decide (((elems r).length : Int) < 2) || decide (toI (itAt (elems r) (-1)) = 0)) = false := hc
    rw [Bool.or_eq_false_iff] at hc
    have h2 := of_decide_eq_false hc.1
    rw [hlen] at h2
    have hne : ns ≠ [] := fun z => by
      rw [z] at h2
      exact h2 (by decide)
    have h3 := of_decide_eq_false hc.2
    rw [hel, show itAt (ns.map PV.int) (-1) = .int (lastD ns) from it_last hne] at h3
    have h3 : lastD ns ≠ 0 := h3
    have h : ¬ (ns.length < 2 ∨ lastD ns = 0) := fun z => z.elim (by omega) h3
    rw [e, if_neg h]
    have O := hO hne
    have w1 : CMulW a d := O.a.W O.d (by omega)
    have w2 : CMulW c b := O.c.W O.b (by omega)
    refine ⟨⟨⟨⟨rfl, rfl, trivial⟩, rfl, a, b, c, d, rfl, w1, w2⟩, rfl⟩, fun hc => ?_, fun hc => ?_⟩
    · have hc : (!decide (a * d < c * b)) = true := hc
      rw [if_pos (by simpa using hc)]
    · have hc : (!decide (a * d < c * b)) = false := hc
      rw [if_neg (by simpa using hc)]
      have fa := s_is_alone_f O.r a b c d
      refine ⟨⟨⟨⟨rfl, rfl, rfl, trivial⟩, rfl, r, ns, a, b, c, d, A, B, rfl, O⟩, congrArg isB fa⟩, fun hc => ?_, fun hc => ?_⟩
      · have hc : (!toB (s_is_alone.f [r, pv a b, pv c d])) = true := hc
        rw [fa] at hc
        have hc : (!alone ns a b c d) = true := hc
        rw [if_pos (by simpa using hc)]
      · have hc : (!toB (s_is_alone.f [r, pv a b, pv c d])) = false := hc
        rw [fa] at hc
        have hc : (!alone ns a b c d) = false := hc
        rw [if_neg (by simpa using hc)]
        have fs : s_smallest.f [r] = iL (sml ns) := s_smallest_f hr
        refine ⟨⟨⟨⟨⟨⟨rfl, trivial⟩, rfl, r, ns, rfl, hr, hne, h3, (O.hA _ (lastD_mem hne)).mono hA, O.len⟩, congrArg isSq fs⟩, rfl, rfl, trivial⟩, by show 3 ≤ sizeLine; decide⟩, ?_⟩
        show PV.tup [.tup (elems (s_smallest.f [r])), pv a b, pv c d] = pgv (sml ns) a b c d
        rw [fs]
        rfl

def s_of_part : FS := ⟨fun as => ∃ a b, as = [pv a b] ∧ b ≠ 0 ∧ Sz 4000 a ∧ Sz 4000 b, fun as => match as with
  | [.tup [.int a, .int b]] => pgv [-a, b] (prt (a * 1 + -1 * b) (b * 1)).1 (prt (a * 1 + -1 * b) (b * 1)).2 (prt (a * 1 + 1 * b) (b * 1)).1 (prt (a * 1 + 1 * b) (b * 1)).2
  | _ => .non⟩
theorem p_of_part : ∀ as, as.length = 1 → s_of_part.g as → phi_of_part s_part_sum ⟨fun _ => False, fun v => v = s_of_part.f as⟩ (st0 N_of_part as) := by
  rintro as - ⟨a, b, rfl, hb, sa, sb⟩
  have w1 : CMulW a 1 := sa.W Sz.one (by decide)
  have w2 : CMulW b 1 := sb.W Sz.one (by decide)
  have w3 : CMulW 1 b := Sz.one.W sb (by decide)
  have w4 : CMulW (-1) b := Sz.one.neg.W sb (by decide)
  have h5 : b * 1 ≠ 0 := by rw [Int.mul_one]; exact hb
  have h6 : Sz 8900 (b * 1) := by rw [Int.mul_one]; exact sb.mono (by decide)
  refine ⟨⟨⟨⟨⟨⟨trivial, ⟨rfl, trivial, rfl, rfl, rfl⟩, rfl, rfl⟩, ⟨rfl, trivial, rfl, rfl, rfl⟩, trivial⟩, sl2⟩, ⟨⟨rfl, ⟨⟨⟨trivial, rfl⟩, trivial, trivial⟩, sl2⟩, trivial⟩, rfl, a, b, -1, 1, rfl, w1, w4, w2, h5, h6⟩, ⟨⟨rfl, ⟨⟨trivial, trivial, trivial⟩, sl2⟩, trivial⟩, rfl, a, b, 1, 1, rfl, w1, w3, w2, h5, h6⟩, trivial⟩, by show 3 ≤ sizeLine; decide⟩, ?_⟩
  show PV.tup [.tup [.int (0 - a), .int b], _, _] = _
  rw [Int.zero_sub]
  rfl

def s_law_value : FS := ⟨fun as => ∃ (r : PV) (ns : List Int) (p q : Int) (A B : Nat), as = [r, .tup [.int p, .int q]] ∧ RowV r ns ∧ (∀ c ∈ ns, Sz A c) ∧ Sz B p ∧ Sz B q ∧ ns.length ≤ 1000 ∧ A + (B + 1) * (ns.length + 1) ≤ 400000, fun as => match as with
  | [r, .tup [.int p, .int q]] => .int (hv (toIs (elems r)) p q)
  | _ => .non⟩
theorem p_law_value : ∀ as, as.length = 2 → s_law_value.g as → phi_law_value ⟨fun _ => False, fun v => v = s_law_value.f as⟩ (st0 N_law_value as) := by
  rintro as - ⟨r, ns, p, q, A, B, rfl, hr, hA, hp, hq, hl, hs⟩
  have hlen := hr.len
  have inr : ∀ {n : Nat}, n ≤ 1000 → inR ((n : Int) - 1) := fun {n} h => ⟨by omega, by omega⟩
  refine ⟨trivial, trivial, ⟨⟨⟨⟨rfl, hr.sq⟩, trivial, rfl, rfl⟩, ⟨trivial, rfl⟩, ⟨trivial, rfl⟩, rfl, rfl, rfl, ?_, ?_⟩, ?_⟩⟩
  · show inR (((elems r).length : Int) - 1)
    rw [hlen]
    exact inr hl
  · show inR (-1)
    exact ⟨by decide, by decide⟩
  refine ⟨fun j ρ => ∃ k, ρ = [some r, some (.tup [.int p, .int q]), some (.int (hv (ns.drop (ns.length - j)) p q)), some (.int (q ^ j)), k] ∧ j ≤ ns.length, ⟨none, ?_, Nat.zero_le _⟩, ?_, ?_⟩
  · rw [Nat.sub_zero, List.drop_length, Int.pow_zero]
    rfl
  · rintro j v ρ hj ⟨k, rfl, _⟩
    have hj := rngD_get hj
    obtain ⟨h1, rfl⟩ := hj
    have e1 : (((elems r).length : Int) - 1 - -1).toNat = ns.length := by rw [hlen]; omega
    have h1 : j < ns.length := by
      have h2 : j < (((elems r).length : Int) - 1 - -1).toNat := h1
      omega
    have ei : ((elems r).length : Int) - 1 - (j : Int) = ((ns.length - 1 - j : Nat) : Int) := by rw [hlen]; omega
    have hix : ns.length - 1 - j < ns.length := by omega
    have hat := hr.at hix
    have ed : ns.drop (ns.length - (j + 1)) = ns[ns.length - 1 - j] :: ns.drop (ns.length - j) := by
      have e2 : ns.length - (j + 1) = ns.length - 1 - j := by omega
      have e3 : ns.length - j = (ns.length - 1 - j) + 1 := by omega
      rw [e2, e3]
      exact List.drop_eq_getElem_cons hix
    have ln : (ns.drop (ns.length - j)).length = j := by rw [List.length_drop]; omega
    have sd : Sz (A + (B + 1) * j) (hv (ns.drop (ns.length - j)) p q) := by
      have := hv_sz (ns.drop (ns.length - j)) (fun c hc => hA c (List.mem_of_mem_drop hc)) hp hq
      rwa [ln] at this
    have sc : Sz A ns[ns.length - 1 - j] := hA _ (List.getElem_mem hix)
    have sq := hq.pow j
    have bd : A + (B + 1) * j + (B + 1) ≤ 400000 := by
      have : (B + 1) * (j + 1) ≤ (B + 1) * (ns.length + 1) := Nat.mul_le_mul_left _ (by omega)
      rw [Nat.mul_succ] at this
      omega
    have bq : B * j ≤ (B + 1) * j := Nat.mul_le_mul_right _ (Nat.le_succ B)
    have hk0 : (atI (elems r) (((elems r).length : Int) - 1 - (j : Int))) = some (.int ns[ns.length - 1 - j]) := by rw [ei]; exact hat
    have hit : itAt (elems r) (((elems r).length : Int) - 1 - (j : Int)) = .int ns[ns.length - 1 - j] := by unfold itAt; rw [hk0]; rfl
    refine ⟨⟨⟨rfl, ⟨rfl, trivial, rfl, rfl, rfl⟩, rfl, rfl, sd.W hp (by omega)⟩, ⟨⟨rfl, rfl, hr.sq, rfl, ?_⟩, rfl, ?_, rfl, ?_⟩, rfl, rfl⟩, ⟨rfl, ⟨rfl, trivial, rfl, rfl, rfl⟩, rfl, rfl, sq.W hq (by omega)⟩, ?_⟩
    · show (atI (elems r) (((elems r).length : Int) - 1 - (j : Int))).isSome = true
      rw [hk0]
      rfl
    · show isI (itAt (elems r) (((elems r).length : Int) - 1 - (j : Int))) = true
      rw [hit]
      rfl
    · show CMulW (toI (itAt (elems r) (((elems r).length : Int) - 1 - (j : Int)))) (q ^ j)
      rw [hit]
      exact sc.W sq (by omega)
    · refine ⟨some (.int (((elems r).length : Int) - 1 - (j : Int))), ?_, h1⟩
      show [some r, some (.tup [.int p, .int q]), some (.int (hv (ns.drop (ns.length - j)) p q * p + toI (itAt (elems r) (((elems r).length : Int) - 1 - (j : Int))) * q ^ j)), some (.int (q ^ j * q)), some (.int (((elems r).length : Int) - 1 - (j : Int)))] = _
      rw [hit, ed, hv, ln, Int.pow_succ, Int.mul_comm p, Int.add_comm (_ * p)]
      rfl
  · rintro ρ ⟨k, rfl, _⟩
    have e1 : (rngD (toI (.int (((elems r).length : Int) - 1))) (toI (.int (((elems r).length : Int) - 1)) - toI (.int (-1))).toNat).length = ns.length := by
      rw [rngD_len]
      show (((elems r).length : Int) - 1 - -1).toNat = ns.length
      rw [hlen]
      omega
    refine ⟨rfl, ?_⟩
    show PV.int (hv (ns.drop (ns.length - (rngD (toI (.int (((elems r).length : Int) - 1))) (toI (.int (((elems r).length : Int) - 1)) - toI (.int (-1))).toNat).length)) p q) = PV.int (hv (toIs (elems r)) p q)
    rw [e1, Nat.sub_self, List.drop_zero, hr.el, toIs_map]

def s_law_by : FS := ⟨fun as => ∃ (xs ys : List Int) (A B : Nat), as = [iL xs, iL ys] ∧ xs ≠ [] ∧ ys ≠ [] ∧ xs.length ≤ 400 ∧ ys.length ≤ 400 ∧ (∀ c ∈ xs, Sz A c) ∧ (∀ c ∈ ys, Sz B c) ∧ A + B ≤ 900000, fun as => match as with
  | [.list xs, .list ys] => iL (pmul (toIs xs) (toIs ys))
  | _ => .non⟩
theorem p_law_by : ∀ as, as.length = 2 → s_law_by.g as → phi_law_by ⟨fun _ => False, fun v => v = s_law_by.f as⟩ (st0 N_law_by as) := by
  rintro as - ⟨xs, ys, A, B, rfl, hx, hy, lx, ly, hA, hB, hs⟩
  have px : 0 < xs.length := List.length_pos_iff.mpr hx
  have py : 0 < ys.length := List.length_pos_iff.mpr hy
  have en : ((((xs.map PV.int).length : Nat) : Int) + (((ys.map PV.int).length : Nat) : Int) - 1).toNat = xs.length + ys.length - 1 := by
    rw [len_iL, len_iL]
    omega
  have e0 : cmp 3 c0.c (eI 0).f (st0 N_law_by [iL xs, iL ys]) (rng 0 ((((xs.map PV.int).length : Nat) : Int) + (((ys.map PV.int).length : Nat) : Int) - 1).toNat) = (List.replicate (xs.length + ys.length - 1) 0).map PV.int := by
    rw [en]
    refine (cmp_all 3 _ _ _).trans ?_
    show (rng 0 (xs.length + ys.length - 1)).map (fun _ => PV.int 0) = _
    rw [List.map_const', rng_len, List.map_replicate]
  have rx : (rng 0 (((xs.map PV.int).length : Nat) : Int).toNat) = rng 0 xs.length := by rw [len_iL, Int.toNat_natCast]
  have ry : (rng 0 (((ys.map PV.int).length : Nat) : Int).toNat) = rng 0 ys.length := by rw [len_iL, Int.toNat_natCast]
  refine ⟨⟨⟨⟨⟨⟨rfl, rfl⟩, ⟨rfl, rfl⟩, rfl, rfl⟩, trivial, rfl, rfl⟩, rfl, ?_⟩, ?_, fun v hv => ⟨trivial, fun _ => trivial⟩⟩, ⟨⟨rfl, rfl⟩, rfl, ?_⟩,
    fun k ρ => ∃ F x y, ρ = [some (iL xs), some (iL ys), some (iL F), x, y] ∧ F.length = xs.length + ys.length - 1 ∧ (∀ t, ev F t = ev (xs.take k) t * ev ys t) ∧ k ≤ xs.length, ⟨List.replicate (xs.length + ys.length - 1) 0, none, none, ?_, by simp, fun t => ?_, Nat.zero_le _⟩, ?_, ?_⟩
  · show inR ((((xs.map PV.int).length : Nat) : Int) + (((ys.map PV.int).length : Nat) : Int) - 1)
    rw [len_iL, len_iL]
    exact ⟨by omega, by omega⟩
  · show (rng 0 ((((xs.map PV.int).length : Nat) : Int) + (((ys.map PV.int).length : Nat) : Int) - 1).toNat).length ≤ _
    rw [en, rng_len]
    exact sl (by omega)
  · show inR (((xs.map PV.int).length : Nat) : Int)
    rw [len_iL]
    exact inR_nat (by omega)
  · show [_, _, some (PV.list (cmp 3 c0.c (eI 0).f (st0 N_law_by [iL xs, iL ys]) (rng 0 ((((xs.map PV.int).length : Nat) : Int) + (((ys.map PV.int).length : Nat) : Int) - 1).toNat))), _, _] = _
    rw [e0]
  · rw [ev_zero, List.take_zero]
    simp [ev]
  · rintro k v ρ hk ⟨F, x, y, rfl, hF, hev, _⟩
    have hk : (rng 0 (((xs.map PV.int).length : Nat) : Int).toNat)[k]? = some v := hk
    rw [rx] at hk
    obtain ⟨h1, rfl⟩ := rng_get hk
    rw [Int.zero_add]
    refine ⟨⟨⟨rfl, rfl⟩, rfl, ?_⟩, fun j ρ => ∃ F y, ρ = [some (iL xs), some (iL ys), some (iL F), some (.int (k : Int)), y] ∧ F.length = xs.length + ys.length - 1 ∧ (∀ t, ev F t = ev (xs.take k) t * ev ys t + xs.getD k 0 * t ^ k * ev (ys.take j) t) ∧ j ≤ ys.length, ⟨F, y, rfl, hF, fun t => ?_, Nat.zero_le _⟩, ?_, ?_⟩
    · show inR (((ys.map PV.int).length : Nat) : Int)
      rw [len_iL]
      exact inR_nat (by omega)
    · rw [hev, List.take_zero]
      simp [ev]
    · rintro j v ρ hj ⟨F, y, rfl, hF, hev, _⟩
      have hj : (rng 0 (((ys.map PV.int).length : Nat) : Int).toNat)[j]? = some v := hj
      rw [ry] at hj
      obtain ⟨h2, rfl⟩ := rng_get hj
      rw [Int.zero_add]
      have f1 : itAt (F.map PV.int) ((k : Int) + (j : Int)) = .int (F.getD (k + j) 0) := by rw [← Int.natCast_add]; exact it_iL (by omega)
      have f2 : atI (F.map PV.int) ((k : Int) + (j : Int)) = some (.int (F.getD (k + j) 0)) := by rw [← Int.natCast_add]; exact at_iL (by omega)
      have f3 : ixN (F.map PV.int).length ((k : Int) + (j : Int)) = some (k + j) := by rw [← Int.natCast_add]; exact ix_nat (by rw [len_iL]; omega)
      have f4 := it_iL h1
      have f5 := at_iL h1
      have f6 := it_iL h2
      have f7 := at_iL h2
      have w := (getD_sz hA k).W (getD_sz hB j) (by omega)
      walk_at "nf"
      simp only [f1, f2, f3, f4, f5, f6, f7, Option.isSome_some, Option.getD_some, PL.toI_int, PL.isI_int, set_iL, true_and, and_true]
      refine ⟨w, _, _, rfl, by rw [List.length_set, hF], fun t => ?_, h2⟩
      rw [ev_setD t _ (by omega), hev, ev_takeD t h2, Int.pow_add]
      grind
    · rintro ρ ⟨F, y, rfl, hF, hev, _⟩
      refine ⟨F, _, _, rfl, hF, fun t => ?_, h1⟩
      rw [hev]
      show _ + _ * ev (ys.take (rng 0 (((ys.map PV.int).length : Nat) : Int).toNat).length) t = _
      rw [ry, rng_len, List.take_length, ev_takeD t h1]
      grind
  · rintro ρ ⟨F, x, y, rfl, hF, hev, _⟩
    refine ⟨rfl, ?_⟩
    show iL F = iL (pmul (toIs (xs.map PV.int)) (toIs (ys.map PV.int)))
    rw [toIs_map, toIs_map]
    congr 2
    refine ev_ext (by rw [hF, pmul_len hx hy]) 0 fun t _ => ?_
    rw [ev_pmul _ hx hy, hev]
    show ev (xs.take (rng 0 (((xs.map PV.int).length : Nat) : Int).toNat).length) _ * _ = _
    rw [rx, rng_len, List.take_length]

def s_law_seen : FS := ⟨fun as => ∃ (ns : List Int) (p q u v : Int) (A B : Nat), as = [iL ns, .tup [.int p, .int q], .tup [.int u, .int v]] ∧ ns ≠ [] ∧ ns.length ≤ 300 ∧ (∀ c ∈ ns, Sz A c) ∧ Sz B p ∧ Sz B q ∧ Sz B u ∧ Sz B v ∧ A + (2 * B + 4) * (ns.length + 2) ≤ 400000, fun as => match as with
  | [.list xs, .tup [.int p, .int q], .tup [.int u, .int v]] => iL (trn (toIs xs) (p * v) (u * q) (q * v))
  | _ => .non⟩
theorem cmp_add {i a b : Nat} {ρ : PEnv} {F M : List Int} {n : Nat} (hF : F.length = n) (hM : M.length = n) (ha : ∀ x, gv (ρ.set i x) a = iL F) (hb : ∀ x, gv (ρ.set i x) b = iL M) (hi : ∀ x, gv (ρ.set i (some x)) i = x) :
    cmp i c0.c (eAdd (eIx (eV a) (eV i)) (eIx (eV b) (eV i))).f ρ (rng 0 n) = (addL F M).map PV.int := by
  refine (cmp_all _ _ _ _).trans ?_
  refine List.ext_getElem (by rw [List.length_map, rng_len, len_iL, addL_len (by omega), hF]) fun k h1 h2 => ?_
  rw [List.length_map, rng_len] at h1
  have er : (rng 0 n)[k]'(by rw [rng_len]; exact h1) = .int (k : Int) := by
    have := (rng_get (List.getElem?_eq_getElem (show k < (rng 0 n).length by rw [rng_len]; exact h1))).2
    rw [this, Int.zero_add]
  rw [List.getElem_map, List.getElem_map, er]
  show PV.int (toI (itAt (elems (gv (ρ.set i (some (.int (k : Int)))) a)) (toI (gv (ρ.set i (some (.int (k : Int)))) i))) + toI (itAt (elems (gv (ρ.set i (some (.int (k : Int)))) b)) (toI (gv (ρ.set i (some (.int (k : Int)))) i)))) = _
  rw [ha, hb, hi]
  show PV.int (toI (itAt (F.map PV.int) (k : Int)) + toI (itAt (M.map PV.int) (k : Int))) = _
  rw [it_iL (by omega), it_iL (by omega)]
  congr 1
  have ea := addL_get (xs := F) (ys := M) (i := k) (by omega) (by omega)
  have eb := List.getElem?_eq_getElem (l := addL F M) (i := k) (by rw [addL_len (by omega)]; omega)
  rw [eb] at ea
  refine Eq.trans ?_ (Option.some.inj ea).symm
  rw [List.getD_eq_getElem?_getD, List.getElem?_eq_getElem (show k < F.length by omega), List.getD_eq_getElem?_getD, List.getElem?_eq_getElem (show k < M.length by omega)]
  rfl
theorem p_law_seen : ∀ as, as.length = 3 → s_law_seen.g as → phi_law_seen s_law_by ⟨fun _ => False, fun v => v = s_law_seen.f as⟩ (st0 N_law_seen as) := by
  rintro as - ⟨ns, p, q, u, v, A, B, rfl, hne, hl, hA, hp, hq, hu, hv, hs⟩
  have hpos : 0 < ns.length := List.length_pos_iff.mpr hne
  have sb : Sz (2 * B) (p * v) := (hp.mul hv).mono (by omega)
  have se : Sz (2 * B) (u * q) := (hu.mul hq).mono (by omega)
  have sh : Sz (2 * B) (q * v) := (hq.mul hv).mono (by omega)
  have bB : 2 * (2 * B + 4) ≤ (2 * B + 4) * (ns.length + 2) := by rw [Nat.mul_comm 2]; exact Nat.mul_le_mul_left _ (by omega)
  have w1 : CMulW p v := hp.W hv (by omega)
  have w2 : CMulW u q := hu.W hq (by omega)
  have w3 : CMulW q v := hq.W hv (by omega)
  have e0 : cmp 7 c0.c (eI 0).f (st0 N_law_seen [iL ns, .tup [.int p, .int q], .tup [.int u, .int v]]) (ns.map PV.int) = (List.replicate ns.length 0).map PV.int := (cmp_all 7 _ _ _).trans (map0 ns)
  have rx : (rng 0 (((ns.map PV.int).length : Nat) : Int).toNat) = rng 0 ns.length := by rw [len_iL, Int.toNat_natCast]
  have ry : (rng 0 ((((ns.map PV.int).length : Nat) : Int) - 1).toNat) = rng 0 (ns.length - 1) := by
    rw [len_iL]
    congr 1
    omega
  have s1 := sl1
  have s2 := sl2
  have iR : inR (((ns.map PV.int).length : Nat) : Int) := by rw [len_iL]; exact inR_nat (by omega)
  have iR2 : inR ((((ns.map PV.int).length : Nat) : Int) - 1) := by rw [len_iL]; exact ⟨by omega, by omega⟩
  refine ⟨⟨⟨rfl, rfl⟩, ?_, fun v hv => ⟨trivial, fun _ => trivial⟩⟩, ⟨⟨rfl, rfl⟩, rfl, iR⟩,
    fun k ρ => ∃ F x y z w, ρ = [some (iL ns), some (.tup [.int p, .int q]), some (.tup [.int u, .int v]), some (iL F), x, y, z, w] ∧ F.length = ns.length ∧ (∀ t, ev F t = due ns (p * v + u * q * t) (q * v + q * v * t) k) ∧ k ≤ ns.length, ⟨List.replicate ns.length 0, none, none, none, none, ?_, by simp, fun t => ?_, Nat.zero_le _⟩, ?_, ?_⟩
  · show (ns.map PV.int).length ≤ _
    rw [len_iL]
    exact sl (by omega)
  · show [_, _, _, some (PV.list (cmp 7 c0.c (eI 0).f (st0 N_law_seen [iL ns, .tup [.int p, .int q], .tup [.int u, .int v]]) (ns.map PV.int))), _, _, _, _] = _
    rw [e0]
  · rw [ev_zero]
    rfl
  · rintro k w ρ hk ⟨F, x, y, z, w', rfl, hF, hev, _⟩
    have hk : (rng 0 (((ns.map PV.int).length : Nat) : Int).toNat)[k]? = some w := hk
    rw [rx] at hk
    obtain ⟨h1, rfl⟩ := rng_get hk
    rw [Int.zero_add]
    have f1 := at_iL h1
    have f2 := it_iL h1
    refine ⟨⟨⟨⟨rfl, rfl, rfl, rfl, ?_⟩, trivial⟩, s1⟩, ⟨⟨⟨rfl, rfl⟩, trivial, rfl, rfl⟩, rfl, iR2⟩, fun j ρ => ∃ M z, ρ = [some (iL ns), some (.tup [.int p, .int q]), some (.tup [.int u, .int v]), some (iL F), some (.int (k : Int)), some (iL M), z, w'] ∧ M.length = j + 1 ∧ (∀ t, ev M t = pw1 (p * v + u * q * t) (q * v + q * v * t) k j (ns.getD k 0)) ∧ (∀ c ∈ M, Sz (A + (2 * B + 1) * j) c) ∧ j ≤ ns.length - 1,
      ⟨[ns.getD k 0], z, ?_, rfl, fun t => ?_, fun c hc => ?_, Nat.zero_le _⟩, ?_, ?_⟩
    · show (atI (ns.map PV.int) (k : Int)).isSome = true
      rw [f1]
      rfl
    · show [_, _, _, _, _, some (PV.list [itAt (ns.map PV.int) (k : Int)]), _, _] = _
      rw [f2]
      rfl
    · show ns.getD k 0 + t * 0 = ns.getD k 0
      omega
    · have : c = ns.getD k 0 := by simpa using hc
      subst this
      exact (getD_sz hA k).mono (by omega)
    · rintro j w ρ hj ⟨M, z, rfl, hM, hev2, sM, _⟩
      have hj : (rng 0 ((((ns.map PV.int).length : Nat) : Int) - 1).toNat)[j]? = some w := hj
      rw [ry] at hj
      obtain ⟨h2, rfl⟩ := rng_get hj
      rw [Int.zero_add]
      have hMn : M ≠ [] := fun z => by rw [z] at hM; cases hM
      have bj : (2 * B + 1) * (j + 1) ≤ (2 * B + 4) * (ns.length + 2) := Nat.mul_le_mul (by omega) (by omega)
      rw [Nat.mul_succ] at bj
      have gg : ∀ a b : Int, Sz (2 * B) a → Sz (2 * B) b → s_law_by.g [iL M, iL [a, b]] := fun a b ha hb => ⟨M, [a, b], _, 2 * B, rfl, hMn, by simp, by omega, by simp, sM, fun c hc => by
        rcases List.mem_cons.mp hc with rfl | hc
        · exact ha
        · have : c = b := by simpa using hc
          subst this
          exact hb, by omega⟩
      have ff : ∀ a b : Int, s_law_by.f [iL M, iL [a, b]] = iL (jn M a b) := fun a b => by
        show iL (pmul (toIs (M.map PV.int)) (toIs ([a, b].map PV.int))) = _
        rw [toIs_map, toIs_map, jn_pmul a b hMn]
      have nx : ∀ (a b : Int), Sz (2 * B) a → Sz (2 * B) b → (∀ t, pw1 (p * v + u * q * t) (q * v + q * v * t) k (j + 1) (ns.getD k 0) = pw1 (p * v + u * q * t) (q * v + q * v * t) k j (ns.getD k 0) * (a + b * t)) →
          (jn M a b).length = j + 1 + 1 ∧ (∀ t, ev (jn M a b) t = pw1 (p * v + u * q * t) (q * v + q * v * t) k (j + 1) (ns.getD k 0)) ∧ (∀ c ∈ jn M a b, Sz (A + (2 * B + 1) * (j + 1)) c) := fun a b ha hb h => ⟨by rw [jn_len, hM], fun t => by rw [ev_jn, hev2, h], fun c hc => (jn_sz sM ha hb c hc).mono (by rw [Nat.mul_succ]; omega)⟩
      refine ⟨⟨rfl, rfl, rfl, rfl⟩, fun hc => ?_, fun hc => ?_⟩
      · have hc : (j : Int) < (k : Int) := of_decide_eq_true hc
        refine ⟨⟨⟨rfl, ⟨⟨⟨⟨rfl, trivial, rfl, rfl, rfl⟩, ⟨rfl, trivial, rfl, rfl, rfl⟩, rfl, rfl, w1⟩, ⟨⟨rfl, trivial, rfl, rfl, rfl⟩, ⟨rfl, trivial, rfl, rfl, rfl⟩, rfl, rfl, w2⟩, trivial⟩, s2⟩, trivial⟩, rfl, gg _ _ sb se⟩, ?_⟩
        obtain ⟨n1, n2, n3⟩ := nx (p * v) (u * q) sb se fun t => by rw [pw1, if_pos (by omega)]
        refine ⟨jn M (p * v) (u * q), some (.int (j : Int)), ?_, n1, n2, n3, h2⟩
        show [_, _, _, _, _, some (s_law_by.f [iL M, iL [p * v, u * q]]), _, _] = _
        rw [ff]
      · have hc : ¬ (j : Int) < (k : Int) := of_decide_eq_false hc
        refine ⟨⟨⟨rfl, ⟨⟨⟨⟨rfl, trivial, rfl, rfl, rfl⟩, ⟨rfl, trivial, rfl, rfl, rfl⟩, rfl, rfl, w3⟩, ⟨⟨rfl, trivial, rfl, rfl, rfl⟩, ⟨rfl, trivial, rfl, rfl, rfl⟩, rfl, rfl, w3⟩, trivial⟩, s2⟩, trivial⟩, rfl, gg _ _ sh sh⟩, ?_⟩
        obtain ⟨n1, n2, n3⟩ := nx (q * v) (q * v) sh sh fun t => by rw [pw1, if_neg (by omega)]
        refine ⟨jn M (q * v) (q * v), some (.int (j : Int)), ?_, n1, n2, n3, h2⟩
        show [_, _, _, _, _, some (s_law_by.f [iL M, iL [q * v, q * v]]), _, _] = _
        rw [ff]
    · rintro ρ ⟨M, z, rfl, hM, hev2, sM, _⟩
      have hM : M.length = (rng 0 ((((ns.map PV.int).length : Nat) : Int) - 1).toNat).length + 1 := hM
      have hev2 : ∀ t, ev M t = pw1 (p * v + u * q * t) (q * v + q * v * t) k (rng 0 ((((ns.map PV.int).length : Nat) : Int) - 1).toNat).length (ns.getD k 0) := hev2
      rw [ry, rng_len] at hM
      rw [ry, rng_len] at hev2
      have lM : M.length = ns.length := by omega
      have ec := cmp_add (i := 6) (a := 3) (b := 5) (ρ := [some (iL ns), some (.tup [.int p, .int q]), some (.tup [.int u, .int v]), some (iL F), some (.int (k : Int)), some (iL M), z, w']) hF lM (fun _ => rfl) (fun _ => rfl) (fun _ => rfl)
      refine ⟨⟨⟨⟨rfl, rfl⟩, rfl, iR⟩, ?_, fun w hw => ?_⟩, addL F M, some (.int (k : Int)), some (iL M), z, w', ?_, by rw [addL_len (by omega), hF], fun t => ?_, h1⟩
      · show (rng 0 (((ns.map PV.int).length : Nat) : Int).toNat).length ≤ _
        rw [rx, rng_len]
        exact sl (by omega)
      · have hw : w ∈ rng 0 (((ns.map PV.int).length : Nat) : Int).toNat := hw
        rw [rx] at hw
        obtain ⟨i, hi, rfl⟩ := List.mem_iff_getElem.mp hw
        obtain ⟨hi2, ei2⟩ := rng_get (List.getElem?_eq_getElem hi)
        rw [ei2, Int.zero_add]
        have q1 := at_iL (xs := F) (j := i) (by omega)
        have q2 := at_iL (xs := M) (j := i) (by omega)
        have q3 := it_iL (xs := F) (j := i) (by omega)
        have q4 := it_iL (xs := M) (j := i) (by omega)
        walk_at "nf"
        simp only [q1, q2, q3, q4, Option.isSome_some, isI_int, and_self, forall_const]
      · show [_, _, _, some (PV.list (cmp 6 c0.c (eAdd (eIx (eV 3) (eV 6)) (eIx (eV 5) (eV 6))).f [some (iL ns), some (.tup [.int p, .int q]), some (.tup [.int u, .int v]), some (iL F), some (.int (k : Int)), some (iL M), z, w'] (rng 0 (((ns.map PV.int).length : Nat) : Int).toNat))), _, _, _, _] = _
        rw [rx, ec]
      · rw [ev_addL t (by omega), hev, hev2, due]
  · rintro ρ ⟨F, x, y, z, w, rfl, hF, hev, _⟩
    have hev : ∀ t, ev F t = due ns (p * v + u * q * t) (q * v + q * v * t) (rng 0 (((ns.map PV.int).length : Nat) : Int).toNat).length := hev
    rw [rx, rng_len] at hev
    refine ⟨rfl, ?_⟩
    show iL F = iL (trn (toIs (ns.map PV.int)) (p * v) (u * q) (q * v))
    rw [toIs_map]
    congr 2
    refine ev_ext (by rw [hF, trn_len]) 0 fun t _ => ?_
    rw [hev, due_all, ev_trn]

def s_law_turns : FS := ⟨s_law_seen.g, fun as => match as with
  | [.list xs, .tup [.int p, .int q], .tup [.int u, .int v]] => .int (sv (trn (toIs xs) (p * v) (u * q) (q * v)))
  | _ => .non⟩
theorem p_law_turns : ∀ as, as.length = 3 → s_law_turns.g as → phi_law_turns s_law_seen ⟨fun _ => False, fun v => v = s_law_turns.f as⟩ (st0 N_law_turns as) := by
  rintro as - hg
  obtain ⟨ns, p, q, u, v, A, B, rfl, hne, hl, hA, hp, hq, hu, hv, hs⟩ := id hg
  have ef : s_law_seen.f [iL ns, .tup [.int p, .int q], .tup [.int u, .int v]] = iL (trn ns (p * v) (u * q) (q * v)) := by
    show iL (trn (toIs (ns.map PV.int)) (p * v) (u * q) (q * v)) = _
    rw [toIs_map]
  have sT : ∀ c ∈ trn ns (p * v) (u * q) (q * v), Sz 410000 c := fun c hc => (trn_sz (A := A) (B := 2 * B) ((hp.mul hv).mono (by omega)) ((hu.mul hq).mono (by omega)) ((hq.mul hv).mono (by omega)) ns hA c hc).mono (by
    have : (2 * B + 3) * ns.length ≤ (2 * B + 4) * (ns.length + 2) := Nat.mul_le_mul (by omega) (by omega)
    omega)
  generalize hT : trn ns (p * v) (u * q) (q * v) = T at ef sT
  refine ⟨trivial, trivial, ⟨⟨⟨rfl, rfl, rfl, trivial⟩, rfl, hg⟩, ?_⟩, fun k ρ => ∃ (c l : Int) (x : Option PV), ρ = [some (iL ns), some (.tup [.int p, .int q]), some (.tup [.int u, .int v]), some (.int c), some (.int l), x] ∧ c + (svl l (T.drop k) : Int) = sv T ∧ Sz 410000 l, ⟨0, 0, none, rfl, ?_, Sz.zero _⟩, ?_, ?_⟩
  · show isSq (s_law_seen.f [iL ns, .tup [.int p, .int q], .tup [.int u, .int v]]) = true
    rw [ef]
    rfl
  · rw [List.drop_zero, Int.zero_add]
    rfl
  · rintro k w ρ hk ⟨c, l, x, rfl, hc, sl⟩
    have hk : (elems (s_law_seen.f [iL ns, .tup [.int p, .int q], .tup [.int u, .int v]]))[k]? = some w := hk
    rw [ef] at hk
    have hk : (T.map PV.int)[k]? = some w := hk
    rw [List.getElem?_map] at hk
    cases hq2 : T[k]? with
    | none => rw [hq2] at hk; cases hk
    | some a =>
      rw [hq2] at hk
      cases hk
      obtain ⟨hlt, ha⟩ := List.getElem?_eq_some_iff.mp hq2
      have ed : T.drop k = a :: T.drop (k + 1) := by rw [List.drop_eq_getElem_cons hlt, ha]
      have sa : Sz 410000 a := sT a (List.mem_of_getElem? hq2)
      rw [ed] at hc
      have key : ∀ c' l', c' = (if a * l < 0 then c + 1 else c) → l' = (if a ≠ 0 then a else l) → c' + (svl l' (T.drop (k + 1)) : Int) = sv T ∧ Sz 410000 l' := fun c' l' e1 e2 => by
        subst e1 e2
        by_cases ha0 : a = 0
        · subst ha0
          rw [svl, if_pos rfl] at hc
          rw [if_neg (by omega), if_neg (by simp)]
          exact ⟨hc, sl⟩
        · rw [svl, if_neg ha0] at hc
          rw [if_pos ha0]
          refine ⟨?_, sa⟩
          split at hc <;> rename_i h
          · rw [if_pos h]
            omega
          · rw [if_neg h]
            omega
      refine ⟨⟨⟨rfl, rfl, rfl, rfl, sa.W sl (by omega)⟩, trivial, rfl, rfl⟩, fun h1 => ⟨⟨rfl, trivial, rfl, rfl⟩, ⟨rfl, trivial, rfl, rfl⟩, fun h2 => ⟨rfl, ?_⟩, fun h2 => ?_⟩, fun h1 => ⟨⟨rfl, trivial, rfl, rfl⟩, fun h2 => ⟨rfl, ?_⟩, fun h2 => ?_⟩⟩
      · have h1 : a * l < 0 := of_decide_eq_true h1
        have h2 : a ≠ 0 := of_decide_eq_true h2
        obtain ⟨k1, k2⟩ := key (c + 1) a (by rw [if_pos h1]) (by rw [if_pos h2])
        exact ⟨c + 1, a, _, rfl, k1, k2⟩
      · have h1 : a * l < 0 := of_decide_eq_true h1
        have h2 : ¬ a ≠ 0 := of_decide_eq_false h2
        obtain ⟨k1, k2⟩ := key (c + 1) l (by rw [if_pos h1]) (by rw [if_neg h2])
        exact ⟨c + 1, l, _, rfl, k1, k2⟩
      · have h1 : ¬ a * l < 0 := of_decide_eq_false h1
        have h2 : a ≠ 0 := of_decide_eq_true h2
        obtain ⟨k1, k2⟩ := key c a (by rw [if_neg h1]) (by rw [if_pos h2])
        exact ⟨c, a, _, rfl, k1, k2⟩
      · have h1 : ¬ a * l < 0 := of_decide_eq_false h1
        have h2 : ¬ a ≠ 0 := of_decide_eq_false h2
        obtain ⟨k1, k2⟩ := key c l (by rw [if_neg h1]) (by rw [if_neg h2])
        exact ⟨c, l, _, rfl, k1, k2⟩
  · rintro ρ ⟨c, l, x, rfl, hc, sl⟩
    have hc : c + (svl l (T.drop (elems (s_law_seen.f [iL ns, .tup [.int p, .int q], .tup [.int u, .int v]])).length) : Int) = sv T := hc
    rw [ef, show (elems (iL T)).length = T.length from len_iL T, List.drop_length] at hc
    refine ⟨rfl, ?_⟩
    show PV.int c = .int (sv (trn (toIs (ns.map PV.int)) (p * v) (u * q) (q * v)))
    rw [toIs_map, hT, ← hc]
    congr 1
    show c = c + 0
    omega

def s_law_is_part : FS := ⟨fun as => ∃ a b, as = [pv a b] ∧ IsPart a b ∧ Sz 8900 b, fun _ => .bl true⟩
theorem p_law_is_part : ∀ as, as.length = 1 → s_law_is_part.g as → phi_law_is_part s_law_whole s_part ⟨fun _ => False, fun v => v = s_law_is_part.f as⟩ (st0 N_law_is_part as) := by
  rintro as - ⟨a, b, rfl, hp, sb⟩
  have hb := hp.pos
  have e : s_part.f [.int a, .int b] = pv a b := by
    show pv (prt a b).1 (prt a b).2 = _
    rw [prt_self hp]
  refine ⟨⟨⟨⟨rfl, trivial⟩, rfl⟩, fun _ => ⟨⟨⟨rfl, rfl⟩, trivial, rfl, rfl⟩, fun _ => ⟨by walk_at "sg", fun _ => by walk_at "sg"⟩⟩⟩, fun hc => absurd (show (false || (decide ((2 : Int) ≠ 2) || (!(true && !false) || !(true && !false)))) = true from hc) (by decide), fun _ => ⟨⟨by walk_at "sg", rfl, fun _ => ⟨⟨⟨⟨by walk_at "sg", by walk_at "sg", trivial⟩, rfl, a, b, rfl, Int.ne_of_gt hb, sb⟩, rfl, ?_, shP_pv a b⟩, rfl⟩⟩, ?_⟩⟩
  · show shP (s_part.f [.int a, .int b]) = true
    rw [e]
    exact shP_pv a b
  · show PV.bl (decide (0 < b) && eqP (s_part.f [.int a, .int b]) (pv a b)) = .bl true
    rw [e, eqP_self rfl, decide_eq_true hb]
    rfl

/-- a row and a stretch that the law takes for a peg -/
structure IsPeg (ns : List Int) (s : Sx) : Prop where
  p : PegX ns s
  q : Prts s
  r : Prim ns
  len : 2 ≤ ns.length
theorem cmp_none {i : Nat} {c : PEnv → Bool} {f : PEnv → PV} {ρ : PEnv} : ∀ {its : List PV}, (∀ v ∈ its, c (ρ.set i (some v)) = false) → cmp i c f ρ its = []
  | [], _ => rfl
  | v :: vs, h => by
    unfold cmp
    rw [h v (by simp), if_neg Bool.false_ne_true]
    exact cmp_none fun w hw => h w (List.mem_cons_of_mem _ hw)
def s_law_is_peg : FS := ⟨fun as => ∃ (ns : List Int) (s : Sx) (A : Nat), as = [pgx ns s] ∧ IsPeg ns s ∧ Sz 1900 s.a ∧ Sz 1900 s.b ∧ Sz 1900 s.c ∧ Sz 1900 s.d ∧ (∀ c ∈ ns, Sz A c) ∧ ns.length ≤ 50 ∧ A ≤ 8900, fun _ => .bl true⟩
theorem p_law_is_peg : ∀ as, as.length = 1 → s_law_is_peg.g as → phi_law_is_peg s_law_whole s_law_is_part s_smallest s_law_value s_law_turns ⟨fun _ => False, fun v => v = s_law_is_peg.f as⟩ (st0 N_law_is_peg as) := by
  rintro as - ⟨ns, s, A, rfl, I, sa, sb, sc, sd, hA, hl, hA2⟩
  have hne := I.r.ne
  have hll := I.r.last
  have h2 := I.len
  have al : atI (ns.map PV.int) (-1) = some (.int (lastD ns)) := at_last hne
  have il : itAt (ns.map PV.int) (-1) = .int (lastD ns) := it_last hne
  have gs : s_smallest.g [iL ns] := ⟨_, ns, rfl, .inl rfl, hne, by omega, (hA _ (lastD_mem hne)).mono hA2, by omega⟩
  have fs : s_smallest.f [iL ns] = iL ns := by rw [s_smallest_f (.inl rfl), I.r.self]
  have b39 : ∀ {x : Int}, Sz 1900 x → Sz 8900 x := fun h => h.mono (by decide)
  have gv1 : s_law_value.g [iL ns, pv s.a s.b] := ⟨_, ns, s.a, s.b, A, 1900, rfl, .inl rfl, hA, sa, sb, by omega, by
    have : (1900 + 1) * (ns.length + 1) ≤ (1900 + 1) * 51 := Nat.mul_le_mul_left _ (by omega)
    omega⟩
  have gv2 : s_law_value.g [iL ns, pv s.c s.d] := ⟨_, ns, s.c, s.d, A, 1900, rfl, .inl rfl, hA, sc, sd, by omega, by
    have : (1900 + 1) * (ns.length + 1) ≤ (1900 + 1) * 51 := Nat.mul_le_mul_left _ (by omega)
    omega⟩
  have fv : ∀ p q, s_law_value.f [iL ns, pv p q] = .int (hv ns p q) := fun p q => by
    show PV.int (hv (toIs (ns.map PV.int)) p q) = _
    rw [toIs_map]
  have gt : s_law_turns.g [iL ns, pv s.a s.b, pv s.c s.d] := ⟨ns, s.a, s.b, s.c, s.d, A, 1900, rfl, hne, by omega, hA, sa, sb, sc, sd, by
    have : (2 * 1900 + 4) * (ns.length + 2) ≤ (2 * 1900 + 4) * 52 := Nat.mul_le_mul_left _ (by omega)
    omega⟩
  have ft : s_law_turns.f [iL ns, pv s.a s.b, pv s.c s.d] = .int (vr ns s.a s.b s.c s.d) := by
    show PV.int (sv (trn (toIs (ns.map PV.int)) _ _ _)) = _
    rw [toIs_map]
    rfl
  have P := I.p
  refine ⟨⟨⟨⟨rfl, trivial⟩, rfl⟩, fun _ => ⟨⟨⟨rfl, rfl⟩, trivial, rfl, rfl⟩, fun _ => ⟨⟨⟨rfl, trivial, rfl, rfl, rfl⟩, trivial⟩, rfl⟩⟩⟩, fun hc => absurd (show (false || (decide ((3 : Int) ≠ 3) || !true)) = true from hc) (by decide), fun _ => ⟨⟨⟨rfl, trivial, rfl, rfl, rfl⟩, rfl⟩, ?_⟩⟩
  have ec : cmp 4 (cNot (cVal (eCall 1 s_law_whole (aC (eV 4) a0)))).c (eV 4).f [some (pgx ns s), some (iL ns), none, none, none] (ns.map PV.int) = [] := cmp_none fun v hv => by
    obtain ⟨c, hc, rfl⟩ := List.mem_map.mp hv
    rfl
  refine ⟨⟨⟨⟨rfl, rfl⟩, trivial, rfl, rfl⟩, fun _ => ⟨⟨⟨⟨⟨rfl, rfl⟩, ?_, fun v hv => ?_⟩, rfl⟩, trivial, rfl, rfl⟩, fun _ => ⟨⟨rfl, ⟨trivial, rfl⟩, rfl, rfl, ?_⟩, trivial, ?_, rfl⟩⟩⟩, fun hc => ?_, fun _ => ?_⟩
  · show (ns.map PV.int).length ≤ sizeLine
    rw [len_iL]
    exact sl (by omega)
  · obtain ⟨c, hc, rfl⟩ := List.mem_map.mp (show v ∈ ns.map PV.int from hv)
    exact ⟨⟨⟨⟨rfl, trivial⟩, rfl, trivial⟩, rfl⟩, fun _ => rfl⟩
  · show (atI (ns.map PV.int) (-1)).isSome = true
    rw [al]
    rfl
  · show isI (itAt (ns.map PV.int) (-1)) = true
    rw [il]
    rfl
  · have hc : (decide ((((ns.map PV.int).length : Nat) : Int) < 2) || (decide (0 < (((cmp 4 (cNot (cVal (eCall 1 s_law_whole (aC (eV 4) a0)))).c (eV 4).f [some (pgx ns s), some (iL ns), none, none, none] (ns.map PV.int)).length : Nat) : Int)) || decide (toI (itAt (ns.map PV.int) (-1)) < 1))) = true := hc
    rw [ec, il, len_iL, decide_eq_false (by omega), decide_eq_false (by simp), decide_eq_false (by show ¬ lastD ns < 1; omega)] at hc
    cases hc
  refine ⟨⟨⟨⟨⟨rfl, trivial⟩, rfl, gs⟩, rfl, ?_, shP_iL ns⟩, fun _ => ⟨⟨⟨⟨⟨rfl, trivial, rfl, rfl, rfl⟩, trivial⟩, rfl, s.a, s.b, rfl, I.q.l, b39 sb⟩, rfl⟩, fun _ => ⟨⟨⟨⟨rfl, trivial, rfl, rfl, rfl⟩, trivial⟩, rfl, s.c, s.d, rfl, I.q.h, b39 sd⟩, rfl⟩⟩⟩, fun hc => ?_, fun _ => ?_⟩
  · show shP (s_smallest.f [iL ns]) = true
    rw [fs]
    exact shP_iL ns
  · have hc : (!eqP (s_smallest.f [iL ns]) (iL ns) || (!true || !true)) = true := hc
    rw [fs, eqP_self (v := iL ns) (plains_int ns)] at hc
    cases hc
  refine ⟨⟨⟨rfl, ⟨rfl, trivial, rfl, rfl, rfl⟩, trivial⟩, rfl, gv1⟩, ⟨⟨rfl, ⟨rfl, trivial, rfl, rfl, rfl⟩, trivial⟩, rfl, gv2⟩, ?_⟩
  show (pSeq _ _) _ [some (pgx ns s), some (iL ns), some (s_law_value.f [iL ns, pv s.a s.b]), some (s_law_value.f [iL ns, pv s.c s.d]), none]
  rw [fv, fv]
  refine ⟨⟨by walk_at "sg" <;> first | exact sa.W sd (by decide) | exact sc.W sb (by decide), fun _ => ⟨⟨rfl, trivial, rfl, rfl⟩, fun _ => ⟨rfl, trivial, rfl, rfl⟩⟩⟩, fun hc => ?_, fun _ => ⟨⟨⟨⟨rfl, ⟨rfl, trivial, rfl, rfl, rfl⟩, ⟨rfl, trivial, rfl, rfl, rfl⟩, trivial⟩, rfl, gt⟩, trivial, congrArg isI ft, rfl⟩, ?_⟩⟩
  · have hc : (decide (s.c * s.b ≤ s.a * s.d) || (decide (hv ns s.a s.b = 0) || decide (hv ns s.c s.d = 0))) = true := hc
    rw [decide_eq_false (by have := P.lt; omega), decide_eq_false P.l, decide_eq_false P.h] at hc
    cases hc
  · show PV.bl (decide (toI (s_law_turns.f [iL ns, pv s.a s.b, pv s.c s.d]) = 1)) = .bl true
    rw [ft, show vr ns s.a s.b s.c s.d = 1 from P.v]
    rfl

def lcut (ns : List Int) (i j : Int) : List Int := (ns.drop (HT.sIx ns.length 0 (some i))).take (HT.sIx ns.length ns.length (some j) - HT.sIx ns.length 0 (some i))
theorem lcut_eq (ns : List Int) (i j : Int) : cutP (ns.map PV.int) (some i) (some j) = (lcut ns i j).map PV.int := by
  unfold cutP lcut
  rw [List.length_map, List.map_take, List.map_drop]
theorem lcut_len (ns : List Int) {i j : Int} (h0 : 0 ≤ i) (h1 : i ≤ j) : (lcut ns i j).length ≤ (j - i).toNat := by
  obtain ⟨p, rfl⟩ : ∃ p : Nat, i = (p : Int) := ⟨i.toNat, by omega⟩
  obtain ⟨q, rfl⟩ : ∃ q : Nat, j = (q : Int) := ⟨j.toNat, by omega⟩
  unfold lcut
  rw [HT.sIx_nat, HT.sIx_nat, List.length_take]
  omega

theorem cut_ints (ns : List Int) (a b : Option Int) : cutP (ns.map PV.int) a b = ((ns.drop (HT.sIx ns.length 0 a)).take (HT.sIx ns.length ns.length b - HT.sIx ns.length 0 a)).map PV.int := by
  unfold cutP
  rw [List.length_map, List.map_take, List.map_drop]
def lrow1 (ns : List Int) (k m : Int) : List Int := (ns.drop (HT.sIx ns.length 0 (some k))).take (HT.sIx ns.length ns.length (some (k + m)) - HT.sIx ns.length 0 (some k))
def lrow (ns : List Int) (k m : Int) : List Int := (lrow1 ns k m).map fun c => if (cellAt ns 1).fmod 4 = 1 then c.fmod (2 * 10 ^ 20) - 10 ^ 20 else c.fmod 19 - 9
theorem lrow1_len (ns : List Int) {k m : Int} (hk : 0 ≤ k) (hm : 0 ≤ m) : (lrow1 ns k m).length ≤ m.toNat := by
  obtain ⟨k, rfl⟩ : ∃ j : Nat, k = (j : Int) := ⟨k.toNat, by omega⟩
  obtain ⟨m, rfl⟩ : ∃ j : Nat, m = (j : Int) := ⟨m.toNat, by omega⟩
  unfold lrow1
  rw [← Int.natCast_add, HT.sIx_nat, HT.sIx_nat, List.length_take]
  omega
theorem lrow_len (ns : List Int) {k m : Int} (hk : 0 ≤ k) (hm : 0 ≤ m) : (lrow ns k m).length ≤ m.toNat := by
  unfold lrow
  rw [List.length_map]
  exact lrow1_len ns hk hm
theorem lrow_sz (ns : List Int) (k m : Int) : ∀ c ∈ lrow ns k m, Sz 70 c := by
  intro c hc
  unfold lrow at hc
  obtain ⟨x, _, rfl⟩ := List.mem_map.mp hc
  split
  · exact ((fmod_sz (n := 68) (by decide) (by decide)).sub (Sz.of (n := 68) (by decide) (by decide))).mono (by decide)
  · exact ((fmod_sz (n := 68) (by decide) (by decide)).sub (Sz.of (n := 68) (by decide) (by decide))).mono (by decide)
def s_law_row : FS := ⟨fun as => ∃ ns k m, as = [.scr ns, .int k, .int m] ∧ 0 ≤ k ∧ 0 ≤ m ∧ m ≤ 100, fun as => match as with
  | [.scr ns, .int k, .int m] => iL (lrow ns k m)
  | _ => .non⟩
theorem p_law_row : ∀ as, as.length = 3 → s_law_row.g as → phi_law_row s_law_cell_at ⟨fun _ => False, fun v => v = s_law_row.f as⟩ (st0 N_law_row as) := by
  rintro as - ⟨ns, k, m, rfl, hk, hm, hm2⟩
  have eits : cutP (ns.map PV.int) (some k) (some (k + m)) = (lrow1 ns k m).map PV.int := cut_ints _ _ _
  have hlen := lrow1_len ns hk hm
  refine ⟨⟨trivial, Nat.zero_le _⟩, ⟨⟨rfl, ⟨rfl, rfl⟩, ⟨⟨rfl, rfl, rfl, rfl⟩, rfl⟩, rfl⟩, rfl⟩, fun j ρ => ∃ x, ρ = [some (.scr ns), some (.int k), some (.int m), some (iL ((lrow ns k m).take j)), x], ⟨none, rfl⟩, ?_, ?_⟩
  · rintro j v ρ hj ⟨x, rfl⟩
    have hj : (cutP (ns.map PV.int) (some k) (some (k + m)))[j]? = some v := hj
    rw [eits, List.getElem?_map] at hj
    cases hq : (lrow1 ns k m)[j]? with
    | none => rw [hq] at hj; cases hj
    | some c =>
      rw [hq] at hj
      cases hj
      have hlt := (List.getElem?_eq_some_iff.mp hq).1
      have etake : (lrow ns k m).take (j + 1) = (lrow ns k m).take j ++ [if (cellAt ns 1).fmod 4 = 1 then c.fmod (2 * 10 ^ 20) - 10 ^ 20 else c.fmod 19 - 9] := by
        rw [List.take_add_one, lrow, List.getElem?_map, hq]
        rfl
      have lt : (((lrow ns k m).take j).map PV.int).length < sizeLine := by
        rw [List.length_map, List.length_take]
        have := lrow_len ns hk hm
        exact small1000 (by omega)
      refine ⟨by walk_at "sg", fun ht => ?_, fun ht => ?_⟩
      · have ht : (cellAt ns 1).fmod 4 = 1 := of_decide_eq_true ht
        refine ⟨rfl, by walk_at "sg" <;> exact W20, lt, some (.int c), ?_⟩
        rw [etake, if_pos ht, app_iL]
        rfl
      · have ht : ¬ (cellAt ns 1).fmod 4 = 1 := of_decide_eq_false ht
        refine ⟨rfl, by walk_at "sg", lt, some (.int c), ?_⟩
        rw [etake, if_neg ht, app_iL]
        rfl
  · rintro ρ ⟨x, rfl⟩
    refine ⟨rfl, ?_⟩
    show iL ((lrow ns k m).take (cutP (ns.map PV.int) (some k) (some (k + m))).length) = iL (lrow ns k m)
    rw [eits, len_iL, show (lrow1 ns k m).length = (lrow ns k m).length by unfold lrow; rw [List.length_map], List.take_length]
def lend (c m : Int) : Int × Int := if m.fmod 5 = 1 then prt (c.fmod (2 * 10 ^ 12) - 10 ^ 12) (1 + (m.fdiv 5).fmod (10 ^ 12)) else prt (c.fmod 41 - 20) (1 + (m.fdiv 5).fmod 9)
theorem lend_sz (c m : Int) : Sz 45 (lend c m).1 ∧ Sz 45 (lend c m).2 ∧ IsPart (lend c m).1 (lend c m).2 := by
  unfold lend
  split
  · exact ⟨prt_sz1 _ (((fmod_sz (n := 42) (by decide) (by decide)).sub (Sz.of (n := 42) (by decide) (by decide))).mono (by decide)), prt_sz2 _ (((Sz.one.mono (by decide)).add (fmod_sz (n := 42) (by decide) (by decide))).mono (by decide)), prt_part (fm1 (by decide))⟩
  · exact ⟨prt_sz1 _ (((fmod_sz (n := 42) (by decide) (by decide)).sub (Sz.of (n := 42) (by decide) (by decide))).mono (by decide)), prt_sz2 _ (((Sz.one.mono (by decide)).add (fmod_sz (n := 42) (by decide) (by decide))).mono (by decide)), prt_part (fm1 (by decide))⟩
def s_law_end : FS := ⟨fun as => ∃ c m, as = [.int c, .int m], fun as => match as with
  | [.int c, .int m] => .tup [.int (lend c m).1, .int (lend c m).2]
  | _ => .non⟩
theorem p_law_end : ∀ as, as.length = 2 → s_law_end.g as → phi_law_end s_part ⟨fun _ => False, fun v => v = s_law_end.f as⟩ (st0 N_law_end as) := by
  rintro as - ⟨c, m, rfl⟩
  refine ⟨by walk_at "sg", fun ht => ⟨?_, ?_⟩, fun ht => ⟨?_, ?_⟩⟩
  · have s1 : Sz 45 (1 + (m.fdiv 5).fmod (10 ^ 12)) := ((Sz.one.mono (by decide)).add (fmod_sz (n := 42) (by decide) (by decide))).mono (by decide)
    have n1 : 1 + (m.fdiv 5).fmod (10 ^ 12) ≠ 0 := fm1 (by decide)
    walk_at "sg" <;> first | exact W12 | exact n1 | exact s1.mono (by decide)
  · have ht : m.fmod 5 = 1 := of_decide_eq_true ht
    show _ = PV.tup [.int (lend c m).1, .int (lend c m).2]
    rw [show lend c m = _ from if_pos ht]
    rfl
  · have s1 : Sz 45 (1 + (m.fdiv 5).fmod 9) := ((Sz.one.mono (by decide)).add (fmod_sz (n := 42) (by decide) (by decide))).mono (by decide)
    have n1 : 1 + (m.fdiv 5).fmod 9 ≠ 0 := fm1 (by decide)
    walk_at "sg" <;> first | exact n1 | exact s1.mono (by decide)
  · have ht : ¬ m.fmod 5 = 1 := of_decide_eq_false ht
    show _ = PV.tup [.int (lend c m).1, .int (lend c m).2]
    rw [show lend c m = _ from if_neg ht]
    rfl
theorem plain_list (ns : List Int) : plain (iL ns) = true := plains_int ns
theorem shP_list (ns : List Int) : shP (iL ns) = true := shP_of (plain_list ns) (by show deps (ns.map PV.int) + 1 ≤ 64; rw [deps_int]; decide)

theorem plain_pair (p q : Int) : plain (.tup [.int p, .int q]) = true := rfl
def wd6 (c : Str) : Str := if c = "NoRow" then "row" else if c = "NoStretch" then "stretch" else "alone"
theorem p_law_word : ∀ a c, c ∈ (["NoRow", "NoStretch", "NotAlone"] : List Str) → phi_law_word a c ⟨fun _ => False, fun v => v = .str (wd6 c)⟩ (st0 N_law_word [.exo a]) := by
  intro a c hc
  have hc : c = "NoRow" ∨ c = "NoStretch" ∨ c = "NotAlone" := by simpa using hc
  rcases hc with rfl | rfl | rfl
  · refine ⟨⟨⟨⟨⟨trivial, trivial⟩, sl1⟩, ⟨⟨rfl, rfl⟩, rfl⟩, rfl, rfl, of_decide_eq_true rfl, of_decide_eq_true rfl, of_decide_eq_true rfl⟩, ⟨⟨⟨trivial, trivial⟩, sl1⟩, ⟨⟨rfl, rfl⟩, rfl⟩, rfl, rfl, of_decide_eq_true rfl, of_decide_eq_true rfl, of_decide_eq_true rfl⟩, rfl, rfl, of_decide_eq_true rfl⟩, ⟨rfl, ⟨⟨⟨trivial, trivial⟩, sl1⟩, ⟨⟨rfl, rfl⟩, rfl⟩, rfl, rfl, of_decide_eq_true rfl, of_decide_eq_true rfl, of_decide_eq_true rfl⟩, rfl, rfl, of_decide_eq_true rfl⟩, ⟨⟨⟨rfl, rfl⟩, trivial, rfl, rfl⟩, fun _ => ⟨⟨⟨rfl, rfl⟩, rfl⟩, fun _ => ⟨⟨rfl, rfl⟩, rfl⟩⟩⟩, fun hc => absurd (show false = true from hc) (by decide), fun _ => ⟨⟨rfl, trivial, rfl, rfl, rfl⟩, rfl⟩⟩
  · refine ⟨⟨⟨⟨⟨trivial, trivial⟩, sl1⟩, ⟨⟨rfl, rfl⟩, rfl⟩, rfl, rfl, of_decide_eq_true rfl, of_decide_eq_true rfl, of_decide_eq_true rfl⟩, ⟨⟨⟨trivial, trivial⟩, sl1⟩, ⟨⟨rfl, rfl⟩, rfl⟩, rfl, rfl, of_decide_eq_true rfl, of_decide_eq_true rfl, of_decide_eq_true rfl⟩, rfl, rfl, of_decide_eq_true rfl⟩, ⟨rfl, ⟨⟨⟨trivial, trivial⟩, sl1⟩, ⟨⟨rfl, rfl⟩, rfl⟩, rfl, rfl, of_decide_eq_true rfl, of_decide_eq_true rfl, of_decide_eq_true rfl⟩, rfl, rfl, of_decide_eq_true rfl⟩, ⟨⟨⟨rfl, rfl⟩, trivial, rfl, rfl⟩, fun _ => ⟨⟨⟨rfl, rfl⟩, rfl⟩, fun _ => ⟨⟨rfl, rfl⟩, rfl⟩⟩⟩, fun hc => absurd (show false = true from hc) (by decide), fun _ => ⟨⟨rfl, trivial, rfl, rfl, rfl⟩, rfl⟩⟩
  · refine ⟨⟨⟨⟨⟨trivial, trivial⟩, sl1⟩, ⟨⟨rfl, rfl⟩, rfl⟩, rfl, rfl, of_decide_eq_true rfl, of_decide_eq_true rfl, of_decide_eq_true rfl⟩, ⟨⟨⟨trivial, trivial⟩, sl1⟩, ⟨⟨rfl, rfl⟩, rfl⟩, rfl, rfl, of_decide_eq_true rfl, of_decide_eq_true rfl, of_decide_eq_true rfl⟩, rfl, rfl, of_decide_eq_true rfl⟩, ⟨rfl, ⟨⟨⟨trivial, trivial⟩, sl1⟩, ⟨⟨rfl, rfl⟩, rfl⟩, rfl, rfl, of_decide_eq_true rfl, of_decide_eq_true rfl, of_decide_eq_true rfl⟩, rfl, rfl, of_decide_eq_true rfl⟩, ⟨⟨⟨rfl, rfl⟩, trivial, rfl, rfl⟩, fun _ => ⟨⟨⟨rfl, rfl⟩, rfl⟩, fun _ => ⟨⟨rfl, rfl⟩, rfl⟩⟩⟩, fun hc => absurd (show false = true from hc) (by decide), fun _ => ⟨⟨rfl, trivial, rfl, rfl, rfl⟩, rfl⟩⟩
theorem pegE_in {ns : List Int} {a b c d : Int} {x : Str} (h : pegE ns a b c d = some x) : x ∈ (["NoRow", "NoStretch", "NotAlone"] : List Str) := by
  unfold pegE at h
  split at h
  · cases h; simp
  split at h
  · cases h; simp
  split at h
  · cases h; simp
  · cases h
/-- told: the word and the peg -/
def told (ns : List Int) (a b c d : Int) : PV := match pegE ns a b c d with
  | some x => .tup [.str (wd6 x), .non]
  | none => .tup [.str "", pgv (sml ns) a b c d]
def s_law_told : FS := ⟨sX_peg.g, fun as => match as with
  | [r, .tup [.int a, .int b], .tup [.int c, .int d]] => told (toIs (elems r)) a b c d
  | _ => .non⟩
theorem s_law_told_f {r : PV} {ns : List Int} (h : RowV r ns) (a b c d : Int) : s_law_told.f [r, pv a b, pv c d] = told ns a b c d := by
  show told (toIs (elems r)) a b c d = _
  rw [h.el, toIs_map]
theorem p_law_told : ∀ as, as.length = 3 → s_law_told.g as → phi_law_told sX_peg wd6 ⟨fun _ => False, fun v => v = s_law_told.f as⟩ (st0 N_law_told as) := by
  rintro as - ⟨r, ns, a, b, c, d, A, B, rfl, hr, hO, hA, hB⟩
  have fp := sX_peg_f hr a b c d
  rw [s_law_told_f hr]
  refine ⟨by show 4 < 5; decide, ⟨rfl, rfl, rfl, trivial⟩, rfl, ⟨r, ns, a, b, c, d, A, B, rfl, hr, hO, hA, hB⟩, fun x hx => ?_, fun hx => ?_⟩
  · have hx : sX_peg.f [r, pv a b, pv c d] = .exc x := hx
    rw [fp] at hx
    unfold told
    cases q : pegE ns a b c d with
    | none => rw [q] at hx; cases hx
    | some y =>
      rw [q] at hx
      cases hx
      exact ⟨pegE_in q, rfl⟩
  · have hx : ∀ x, sX_peg.f [r, pv a b, pv c d] ≠ .exc x := hx
    show (pRet (eTup (aC (eS "") (aC (eV 3) a0)))) _ [some r, some (pv a b), some (pv c d), some (sX_peg.f [r, pv a b, pv c d]), none]
    rw [fp] at hx ⊢
    unfold told
    cases q : pegE ns a b c d with
    | some y =>
      rw [q] at hx
      exact absurd rfl (hx y)
    | none => exact ⟨⟨⟨trivial, rfl, trivial⟩, sl2⟩, rfl⟩
def dueW (ns : List Int) (a b c d : Int) : Str := match pegE ns a b c d with
  | some x => wd6 x
  | none => ""
def s_law_due : FS := ⟨fun as => ∃ (ns : List Int) (a b c d : Int), as = [iL ns, pv a b, pv c d] ∧ (∀ x ∈ ns, Sz 150 x) ∧ Sz 150 a ∧ Sz 150 b ∧ Sz 150 c ∧ Sz 150 d ∧ ns.length ≤ 100, fun as => match as with
  | [.list xs, .tup [.int a, .int b], .tup [.int c, .int d]] => .str (dueW (toIs xs) a b c d)
  | _ => .non⟩
theorem s_law_due_f (ns : List Int) (a b c d : Int) : s_law_due.f [iL ns, pv a b, pv c d] = .str (dueW ns a b c d) := by
  show PV.str (dueW (toIs (ns.map PV.int)) a b c d) = _
  rw [toIs_map]
theorem p_law_due : ∀ as, as.length = 3 → s_law_due.g as → phi_law_due s_law_turns s_law_value ⟨fun _ => False, fun v => v = s_law_due.f as⟩ (st0 N_law_due as) := by
  rintro as - ⟨ns, a, b, c, d, rfl, hA, sa, sb, sc, sd, hl⟩
  rw [s_law_due_f]
  unfold dueW
  have e : pegE ns a b c d = if ns.length < 2 ∨ lastD ns = 0 then _ else _ := rfl
  have gv1 : ∀ {p q : Int}, Sz 150 p → Sz 150 q → s_law_value.g [iL ns, pv p q] := fun {p q} hp hq => ⟨_, ns, p, q, 150, 150, rfl, .inl rfl, hA, hp, hq, by omega, by
    have : (150 + 1) * (ns.length + 1) ≤ (150 + 1) * 101 := Nat.mul_le_mul_left _ (by omega)
    omega⟩
  have fv : ∀ p q, s_law_value.f [iL ns, pv p q] = .int (hv ns p q) := fun p q => by
    show PV.int (hv (toIs (ns.map PV.int)) p q) = _
    rw [toIs_map]
  have ft : s_law_turns.f [iL ns, pv a b, pv c d] = .int (vr ns a b c d) := by
    show PV.int (sv (trn (toIs (ns.map PV.int)) _ _ _)) = _
    rw [toIs_map]
    rfl
  refine ⟨⟨⟨⟨rfl, rfl⟩, trivial, rfl, rfl⟩, fun h2 => ?_⟩, fun hc => ⟨trivial, ?_⟩, fun hc => ?_⟩
  · have h2 : decide (((ns.map PV.int).length : Int) < 2) = false := h2
    have h2 := of_decide_eq_false h2
    rw [len_iL] at h2
    have hne : ns ≠ [] := fun z => by
      rw [z] at h2
      exact h2 (by decide)
    have al : atI (ns.map PV.int) (-1) = some (.int (lastD ns)) := at_last hne
    have il : itAt (ns.map PV.int) (-1) = .int (lastD ns) := it_last hne
    refine ⟨⟨rfl, ⟨trivial, rfl⟩, rfl, rfl, ?_⟩, trivial, ?_, rfl⟩
    · show (atI (ns.map PV.int) (-1)).isSome = true
      rw [al]; rfl
    · show isI (itAt (ns.map PV.int) (-1)) = true
      rw [il]; rfl
  · have hc : (decide (((ns.map PV.int).length : Int) < 2) || decide (toI (itAt (ns.map PV.int) (-1)) = 0)) = true := hc
    have h : ns.length < 2 ∨ lastD ns = 0 := by
      rw [Bool.or_eq_true] at hc
      by_cases h2 : ns.length < 2
      · exact .inl h2
      · rcases hc with hc | hc
        · have := of_decide_eq_true hc
          rw [len_iL] at this
          omega
        · have := of_decide_eq_true hc
          have hne : ns ≠ [] := fun z => by
            rw [z] at h2
            exact h2 (by decide)
          rw [show itAt (ns.map PV.int) (-1) = .int (lastD ns) from it_last hne] at this
          exact .inr this
    rw [e, if_pos h]
    rfl
  · have hc : (decide (((ns.map PV.int).length : Int) < 2) || decide (toI (itAt (ns.map PV.int) (-1)) = 0)) = false := hc
    rw [Bool.or_eq_false_iff] at hc
    have h2 := of_decide_eq_false hc.1
    rw [len_iL] at h2
    have hne : ns ≠ [] := fun z => by
      rw [z] at h2
      exact h2 (by decide)
    have h3 := of_decide_eq_false hc.2
    rw [show itAt (ns.map PV.int) (-1) = .int (lastD ns) from it_last hne] at h3
    have h3 : lastD ns ≠ 0 := h3
    have h : ¬ (ns.length < 2 ∨ lastD ns = 0) := fun z => z.elim (by omega) h3
    rw [e, if_neg h]
    have gt : s_law_turns.g [iL ns, pv a b, pv c d] := ⟨ns, a, b, c, d, 150, 150, rfl, hne, by omega, hA, sa, sb, sc, sd, by
      have : (2 * 150 + 4) * (ns.length + 2) ≤ (2 * 150 + 4) * 102 := Nat.mul_le_mul_left _ (by omega)
      omega⟩
    refine ⟨⟨⟨⟨rfl, trivial, rfl, rfl, rfl⟩, ⟨rfl, trivial, rfl, rfl, rfl⟩, rfl, rfl, sa.W sd (by decide)⟩, ⟨⟨rfl, trivial, rfl, rfl, rfl⟩, ⟨rfl, trivial, rfl, rfl, rfl⟩, rfl, rfl, sc.W sb (by decide)⟩, rfl, rfl⟩, fun hc => ⟨trivial, ?_⟩, fun hc => ?_⟩
    · have hc : c * b ≤ a * d := of_decide_eq_true hc
      rw [if_pos (by omega)]
      rfl
    · have hc : ¬ c * b ≤ a * d := of_decide_eq_false hc
      rw [if_neg (by omega)]
      have ea : (decide (hv ns a b = 0) || (decide (hv ns c d = 0) || decide (((vr ns a b c d : Nat) : Int) ≠ 1))) = !alone ns a b c d := by
        unfold alone
        have e1 : (decide (hv ns a b ≠ 0)) = !decide (hv ns a b = 0) := by simp
        have e2 : (decide (hv ns c d ≠ 0)) = !decide (hv ns c d = 0) := by simp
        have e3 : (decide (((vr ns a b c d : Nat) : Int) ≠ 1)) = !decide (vr ns a b c d = 1) := by
          rw [decide_eq_decide.mpr (show ((vr ns a b c d : Nat) : Int) ≠ 1 ↔ ¬ vr ns a b c d = 1 by omega), decide_not]
        rw [e1, e2, e3]
        cases decide (hv ns a b = 0) <;> cases decide (hv ns c d = 0) <;> rfl
      refine ⟨⟨⟨⟨⟨rfl, rfl, trivial⟩, rfl, gv1 sa sb⟩, trivial, congrArg isI (fv a b), rfl⟩, fun _ => ⟨⟨⟨⟨rfl, rfl, trivial⟩, rfl, gv1 sc sd⟩, trivial, congrArg isI (fv c d), rfl⟩, fun _ => ⟨⟨⟨rfl, rfl, rfl, trivial⟩, rfl, gt⟩, trivial, congrArg isI ft, rfl⟩⟩⟩, fun hc => ⟨trivial, ?_⟩, fun hc => ⟨trivial, ?_⟩⟩
      · have hc : (decide (toI (s_law_value.f [iL ns, pv a b]) = 0) || (decide (toI (s_law_value.f [iL ns, pv c d]) = 0) || decide (toI (s_law_turns.f [iL ns, pv a b, pv c d]) ≠ 1))) = true := hc
        rw [fv, fv, ft] at hc
        have hc : (decide (hv ns a b = 0) || (decide (hv ns c d = 0) || decide (((vr ns a b c d : Nat) : Int) ≠ 1))) = true := hc
        rw [ea] at hc
        rw [if_pos (by simpa using hc)]
        rfl
      · have hc : (decide (toI (s_law_value.f [iL ns, pv a b]) = 0) || (decide (toI (s_law_value.f [iL ns, pv c d]) = 0) || decide (toI (s_law_turns.f [iL ns, pv a b, pv c d]) ≠ 1))) = false := hc
        rw [fv, fv, ft] at hc
        have hc : (decide (hv ns a b = 0) || (decide (hv ns c d = 0) || decide (((vr ns a b c d : Nat) : Int) ≠ 1))) = false := hc
        rw [ea] at hc
        rw [if_neg (by simpa using hc)]
def k06_t2 : Phi := (pSeq (pSet 6 (eCall 1 s_of_part (aC (eV 2) a0))) (pSeq (pIf (cOr (cNot (cVal (eCall 1 s_law_is_peg (aC (eV 6) a0)))) (cNe (eIx (eV 6) (eI 0)) (eTup (aC (eSub (eI 0) (eIx (eV 2) (eI 0))) (aC (eIx (eV 2) (eI 1)) a0))))) (pRet (eB false)) pNil) (pRet (eEq (eCutT (eV 6) (oC (eI 1)) o0) (eTup (aC (eCall 2 s_part (aC (eSub (eIx (eV 2) (eI 0)) (eIx (eV 2) (eI 1))) (aC (eIx (eV 2) (eI 1)) a0))) (aC (eCall 2 s_part (aC (eAdd (eIx (eV 2) (eI 0)) (eIx (eV 2) (eI 1))) (aC (eIx (eV 2) (eI 1)) a0))) a0)))))))
def k06_t1 : Phi := (pSeq (pIf (cAnd (cEq (eIx (eV 5) (eI 0)) (eS "")) (cNot (cVal (eCall 1 s_law_is_peg (aC (eIx (eV 5) (eI 1)) a0))))) (pRet (eB false)) pNil) (pSeq (pIf (cAnd (cEq (eIx (eV 5) (eI 0)) (eS "")) (cNe (eIx (eV 5) (eI 1)) (eTup (aC (eTuple (eCall 1 s_smallest (aC (eV 1) a0))) (aC (eV 2) (aC (eV 3) a0)))))) (pRet (eB false)) pNil) k06_t2))
def k06_tail : Phi := (pSeq (pSet 4 (eList (eV 1))) (pSeq (pSet 5 (eCall 3 s_law_told (aC (eV 4) (aC (eV 2) (aC (eV 3) a0))))) (pSeq (pIf (cOr (cNe (eIx (eV 5) (eI 0)) (eCall 3 s_law_due (aC (eV 1) (aC (eV 2) (aC (eV 3) a0))))) (cOr (cNe (eV 4) (eV 1)) (cNe (eCall 3 s_law_told (aC (eTuple (eV 1)) (aC (eV 2) (aC (eV 3) a0)))) (eV 5)))) (pRet (eB false)) pNil) k06_t1)))

theorem strOk_wd (x : Str) : PyData.strOk (wd6 x) = true := by
  unfold wd6
  split
  · decide +kernel
  split <;> decide +kernel
theorem strOk_e : PyData.strOk "" = true := by decide +kernel
theorem told_str (ns : List Int) (a b c d : Int) : ∃ r, told ns a b c d = .tup [.str (dueW ns a b c d), r] ∧ plain (told ns a b c d) = true ∧ shP (told ns a b c d) = true ∧ plain (.str (dueW ns a b c d)) = true := by
  unfold told dueW
  cases pegE ns a b c d with
  | none =>
    have h : plain (.tup [.str "", pgv (sml ns) a b c d]) = true := by
      have e := plain_pgv (sml ns) a b c d
      show (PyData.strOk "" && (plain (pgv (sml ns) a b c d) && true)) = true
      rw [e, strOk_e]
      rfl
    exact ⟨_, rfl, h, shP_of h (by simp [dep, deps, deps_int]), strOk_e⟩
  | some x =>
    have h : plain (.tup [.str (wd6 x), .non]) = true := by
      show (PyData.strOk (wd6 x) && (true && true)) = true
      rw [strOk_wd]
      rfl
    exact ⟨_, rfl, h, shP_of h (by simp [dep, deps]), strOk_wd x⟩
theorem shP_strT {x : Str} (h : plain (.str x) = true) : shP (.str x) = true := shP_of h (by simp [dep])
theorem k06_t2_ok (x0 x3 x4 x5 x6 : Option PV) (L : PV) (a b : Int) (hp : IsPart a b) (sa : Sz 150 a) (sb : Sz 150 b) :
    k06_t2 ⟨fun _ => False, fun v => v = .bl true⟩ [x0, some L, some (pv a b), x3, x4, x5, x6] := by
  have hb := hp.pos
  have hb1 : b * 1 ≠ 0 := by omega
  obtain ⟨P, Q⟩ := part_peg hp
  have I : IsPeg [-a, b] ⟨(prt (a * 1 + -1 * b) (b * 1)).1, (prt (a * 1 + -1 * b) (b * 1)).2, (prt (a * 1 + 1 * b) (b * 1)).1, (prt (a * 1 + 1 * b) (b * 1)).2⟩ := ⟨P, Q, part_prim hp, by show 2 ≤ 2; decide⟩
  have s1 : Sz 400 (a * 1 + -1 * b) := ((sa.mul Sz.one).add (Sz.one.neg.mul sb)).mono (by decide) |> fun h => h
  have s2 : Sz 400 (a * 1 + 1 * b) := by
    have := ((sa.mul Sz.one).mono (show 150 + 1 ≤ 300 by decide)).add ((Sz.one.mul sb).mono (show 1 + 150 ≤ 300 by decide))
    exact this.mono (by decide)
  have s3 : Sz 400 (b * 1) := (sb.mul Sz.one).mono (by decide)
  have hA : ∀ c ∈ [-a, b], Sz 150 c := by
    intro c hc
    rcases List.mem_cons.mp hc with rfl | hc
    · exact sa.neg
    · have : c = b := by simpa using hc
      subst this
      exact sb
  have go6 : s_of_part.f [pv a b] = pgx [-a, b] ⟨(prt (a * 1 + -1 * b) (b * 1)).1, (prt (a * 1 + -1 * b) (b * 1)).2, (prt (a * 1 + 1 * b) (b * 1)).1, (prt (a * 1 + 1 * b) (b * 1)).2⟩ := rfl
  have up : ∀ {x : Int}, Sz 400 x → Sz 1900 x := fun h => h.mono (by decide)
  have gp : s_law_is_peg.g [pgx [-a, b] ⟨(prt (a * 1 + -1 * b) (b * 1)).1, (prt (a * 1 + -1 * b) (b * 1)).2, (prt (a * 1 + 1 * b) (b * 1)).1, (prt (a * 1 + 1 * b) (b * 1)).2⟩] :=
    ⟨_, _, 150, rfl, I, up (prt_sz1 _ s1), up (prt_sz2 _ s3), up (prt_sz1 _ s2), up (prt_sz2 _ s3), hA, by show 2 ≤ 50; decide, by decide⟩
  refine ⟨⟨⟨rfl, trivial⟩, rfl, a, b, rfl, Int.ne_of_gt hb, sa.mono (by decide), sb.mono (by decide)⟩, ?_⟩
  show (pSeq _ _) _ [x0, some L, some (pv a b), x3, x4, x5, some (s_of_part.f [pv a b])]
  rw [go6]
  have e1 : a - b = a * 1 + -1 * b := by omega
  have e2 : a + b = a * 1 + 1 * b := by omega
  have e3 : b = b * 1 := by omega
  refine ⟨⟨⟨⟨⟨rfl, trivial⟩, rfl, gp⟩, rfl⟩, fun _ => ⟨⟨rfl, trivial, rfl, rfl, rfl⟩, ⟨⟨⟨trivial, ⟨rfl, trivial, rfl, rfl, rfl⟩, rfl, rfl⟩, ⟨rfl, trivial, rfl, rfl, rfl⟩, trivial⟩, sl2⟩, shP_row _, shP_row [0 - a, b]⟩⟩, fun hc => ?_, fun _ => ⟨⟨⟨rfl, ⟨trivial, rfl⟩, trivial, rfl, ?_⟩, ⟨⟨⟨⟨⟨⟨rfl, trivial, rfl, rfl, rfl⟩, ⟨rfl, trivial, rfl, rfl, rfl⟩, rfl, rfl⟩, ⟨rfl, trivial, rfl, rfl, rfl⟩, trivial⟩, rfl, a - b, b, rfl, Int.ne_of_gt hb, sb.mono (by decide)⟩, ⟨⟨⟨⟨rfl, trivial, rfl, rfl, rfl⟩, ⟨rfl, trivial, rfl, rfl, rfl⟩, rfl, rfl⟩, ⟨rfl, trivial, rfl, rfl, rfl⟩, trivial⟩, rfl, a + b, b, rfl, Int.ne_of_gt hb, sb.mono (by decide)⟩, trivial⟩, sl2⟩, ?_, ?_⟩, ?_⟩⟩
  · have hc : (!true || !eqP (.tup ([-a, b].map PV.int)) (.tup [.int (0 - a), .int b])) = true := hc
    rw [Int.zero_sub] at hc
    have hc : (!true || !eqP (.tup [.int (-a), .int b]) (.tup [.int (-a), .int b])) = true := hc
    rw [eqP_self rfl] at hc
    cases hc
  · show ¬ (HT.sIx 3 0 (some ((1 : Nat) : Int)) = 0 ∧ HT.sIx 3 3 none = 3)
    rw [HT.sIx_nat]
    exact fun z => absurd z.1 (by decide)
  · exact shP_of (v := .tup [pv _ _, pv _ _]) rfl (by simp [dep, deps])
  · exact shP_of (v := .tup [pv _ _, pv _ _]) rfl (by simp [dep, deps])
  · show PV.bl (eqP (.tup (cutP [.tup _, pv _ _, pv _ _] (some ((1 : Nat) : Int)) none)) (.tup [pv (prt (a - b) b).1 (prt (a - b) b).2, pv (prt (a + b) b).1 (prt (a + b) b).2])) = .bl true
    have ec : ∀ x y z : PV, cutP [x, y, z] (some ((1 : Nat) : Int)) none = [y, z] := fun x y z => by
      show ([x, y, z].drop (HT.sIx 3 0 (some ((1 : Nat) : Int)))).take (HT.sIx 3 3 none - HT.sIx 3 0 (some ((1 : Nat) : Int))) = _
      rw [HT.sIx_nat, HT.sIx_none]
      rfl
    rw [ec]
    have f1 : prt (a - b) b = prt (a * 1 + -1 * b) (b * 1) := by rw [e1, ← e3]
    have f2 : prt (a + b) b = prt (a * 1 + 1 * b) (b * 1) := by rw [e2, ← e3]
    rw [f1, f2, eqP_self rfl]
theorem k06_tail_ok (x0 : Option PV) (L : List Int) (a b c d : Int) (hL : ∀ x ∈ L, Sz 150 x) (hl : L.length ≤ 50) (hp : IsPart a b) (hq : IsPart c d) (sa : Sz 150 a) (sb : Sz 150 b) (sc : Sz 150 c) (sd : Sz 150 d) :
    k06_tail ⟨fun _ => False, fun v => v = .bl true⟩ [x0, some (iL L), some (pv a b), some (pv c d), none, none, none] := by
  have gO : ∀ r, RowV r L → sX_peg.g [r, pv a b, pv c d] := fun r hr => ⟨r, L, a, b, c, d, 150, 150, rfl, hr, fun hne => ⟨hr, hne, by omega, hL, sa, sb, sc, sd, by
    have : (2 * 150 + 4) * (L.length + 2) ≤ (2 * 150 + 4) * 52 := Nat.mul_le_mul_left _ (by omega)
    omega⟩, by decide, by decide⟩
  have f1 : s_law_told.f [iL L, pv a b, pv c d] = told L a b c d := s_law_told_f (.inl rfl) a b c d
  have f2 : s_law_told.f [.tup (L.map PV.int), pv a b, pv c d] = told L a b c d := s_law_told_f (.inr rfl) a b c d
  have fd := s_law_due_f L a b c d
  obtain ⟨r, hr, h2, h3, h4⟩ := told_str L a b c d
  have i0 : itAt (elems (told L a b c d)) 0 = .str (dueW L a b c d) := by rw [hr]; rfl
  have q0 : isSq (told L a b c d) = true := by rw [hr]; rfl
  have a0' : (atI (elems (told L a b c d)) 0).isSome = true := by rw [hr]; rfl
  have a1' : (atI (elems (told L a b c d)) 1).isSome = true := by rw [hr]; rfl
  refine ⟨⟨rfl, rfl⟩, ⟨⟨rfl, rfl, rfl, trivial⟩, rfl, gO _ (.inl rfl)⟩, ?_⟩
  show (pSeq _ _) _ [x0, some (iL L), some (pv a b), some (pv c d), some (iL L), some (s_law_told.f [iL L, pv a b, pv c d]), none]
  rw [f1]
  refine ⟨⟨⟨⟨rfl, trivial, q0, rfl, a0'⟩, ⟨⟨rfl, rfl, rfl, trivial⟩, rfl, L, a, b, c, d, rfl, hL, sa, sb, sc, sd, by omega⟩, ?_, ?_⟩, fun _ => ⟨⟨rfl, rfl, shP_iL L, shP_iL L⟩, fun _ => ⟨⟨⟨⟨rfl, rfl⟩, rfl, rfl, trivial⟩, rfl, gO _ (.inr rfl)⟩, rfl, ?_, h3⟩⟩⟩, fun hc => ?_, fun _ => ?_⟩
  · show shP (itAt (elems (told L a b c d)) 0) = true
    rw [i0]
    exact shP_strT h4
  · show shP (s_law_due.f [iL L, pv a b, pv c d]) = true
    rw [fd]
    exact shP_strT h4
  · show shP (s_law_told.f [.tup (L.map PV.int), pv a b, pv c d]) = true
    rw [f2]
    exact h3
  · have hc : (!eqP (itAt (elems (told L a b c d)) 0) (s_law_due.f [iL L, pv a b, pv c d]) || (!eqP (iL L) (iL L) || !eqP (s_law_told.f [.tup (L.map PV.int), pv a b, pv c d]) (told L a b c d))) = true := hc
    rw [i0, fd, f2, eqP_self h4, eqP_self (v := iL L) (plains_int L), eqP_self h2] at hc
    cases hc
  have last := k06_t2_ok x0 (some (pv c d)) (some (iL L)) (some (told L a b c d)) none (iL L) a b hp sa sb
  have sE : shP (.str "") = true := shP_strT strOk_e
  cases q : pegE L a b c d with
  | some x =>
    have hw : dueW L a b c d = wd6 x := by unfold dueW; rw [q]
    have ne : eqP (itAt (elems (told L a b c d)) 0) (.str "") = false := by
      rw [i0]
      refine eqP_ne h4 strOk_e fun z => ?_
      rw [hw] at z
      unfold wd6 at z
      split at z
      · exact absurd (PV.str.inj z) (by decide)
      split at z
      · exact absurd (PV.str.inj z) (by decide)
      · exact absurd (PV.str.inj z) (by decide)
    have s0 : shP (itAt (elems (told L a b c d)) 0) = true := by rw [i0]; exact shP_strT h4
    have kill : ∀ {y : Bool} {P : Prop}, (eqP (itAt (elems (told L a b c d)) 0) (.str "") && y) = true → P := fun {y P} h => by
      rw [ne, Bool.false_and] at h
      cases h
    refine ⟨⟨⟨⟨rfl, trivial, q0, rfl, a0'⟩, trivial, s0, sE⟩, fun hc => ?_⟩, fun hc => kill hc, fun _ => ⟨⟨⟨⟨rfl, trivial, q0, rfl, a0'⟩, trivial, s0, sE⟩, fun hc => ?_⟩, fun hc => kill hc, fun _ => last⟩⟩
    · have hc : eqP (itAt (elems (told L a b c d)) 0) (.str "") = true := hc
      rw [ne] at hc
      cases hc
    · have hc : eqP (itAt (elems (told L a b c d)) 0) (.str "") = true := hc
      rw [ne] at hc
      cases hc
  | none =>
    have et : told L a b c d = .tup [.str "", pgv (sml L) a b c d] := by unfold told; rw [q]
    have hk : ¬ (L.length < 2 ∨ lastD L = 0) ∧ a * d < c * b ∧ alone L a b c d = true := by
      unfold pegE at q
      split at q
      · cases q
      rename_i k1
      split at q
      · cases q
      rename_i k2
      split at q
      · cases q
      rename_i k3
      exact ⟨k1, by omega, by simpa using k3⟩
    obtain ⟨k1, k2, k3⟩ := hk
    have k1a : 2 ≤ L.length := by omega
    have k1b : lastD L ≠ 0 := fun z => k1 (.inr z)
    have hne : L ≠ [] := fun z => by rw [z] at k1a; exact absurd k1a (by decide)
    have k4 : hv L a b ≠ 0 ∧ hv L c d ≠ 0 ∧ vr L a b c d = 1 := by
      unfold alone at k3
      simpa using k3
    have hm := fun p q => hv_sml L p q
    have P : Peg (sml L) a b c d := ⟨sml_ne hne, hp.pos, hq.pos, k2, fun z => k4.1 (by rw [← hm, z, Int.mul_zero]), fun z => k4.2.1 (by rw [← hm, z, Int.mul_zero]), by rw [vr_sml hne k1b]; exact k4.2.2⟩
    have I : IsPeg (sml L) ⟨a, b, c, d⟩ := ⟨P, ⟨hp, hq⟩, sml_prim hne k1b, by rw [sml_len]; exact k1a⟩
    have gp : s_law_is_peg.g [pgx (sml L) ⟨a, b, c, d⟩] := ⟨_, _, 150, rfl, I, sa.mono (by decide), sb.mono (by decide), sc.mono (by decide), sd.mono (by decide), sml_sz hL, by rw [sml_len]; exact hl, by decide⟩
    rw [et] at last ⊢
    have fs : s_smallest.f [iL L] = iL (sml L) := s_smallest_f (.inl rfl)
    refine ⟨⟨⟨⟨rfl, trivial, rfl, rfl, rfl⟩, trivial, sE, sE⟩, fun _ => ⟨⟨⟨⟨rfl, trivial, rfl, rfl, rfl⟩, trivial⟩, rfl, gp⟩, rfl⟩⟩, fun hc => ?_, fun _ => ⟨⟨⟨⟨rfl, trivial, rfl, rfl, rfl⟩, trivial, sE, sE⟩, fun _ => ⟨⟨rfl, trivial, rfl, rfl, rfl⟩, ⟨⟨⟨⟨⟨rfl, trivial⟩, rfl, iL L, L, rfl, .inl rfl, hne, k1b, (hL _ (lastD_mem hne)).mono (by decide), by omega⟩, congrArg isSq fs⟩, rfl, rfl, trivial⟩, by show 3 ≤ sizeLine; decide⟩, shP_pgv _ _ _ _ _, ?_⟩⟩, fun hc => ?_, fun _ => last⟩⟩
    · have hc : (eqP (.str "") (.str "") && !true) = true := hc
      rw [Bool.not_true, Bool.and_false] at hc
      cases hc
    · show shP (.tup [.tup (elems (s_smallest.f [iL L])), pv a b, pv c d]) = true
      rw [fs]
      exact shP_pgv _ _ _ _ _
    · have hc : (eqP (.str "") (.str "") && !eqP (pgv (sml L) a b c d) (.tup [.tup (elems (s_smallest.f [iL L])), pv a b, pv c d])) = true := hc
      rw [fs] at hc
      have hc : (eqP (.str "") (.str "") && !eqP (pgv (sml L) a b c d) (pgv (sml L) a b c d)) = true := hc
      rw [eqP_self (plain_pgv _ _ _ _ _), Bool.not_true, Bool.and_false] at hc
      cases hc
def k06_h2 : Phi := (pSeq (pIf (cEqI (eMod (eDiv (eCall 2 s_law_cell_at (aC (eV 0) (aC (eI 1) a0))) (eI 4)) (eI 2)) (eI 1)) (pSet 3 (eCall 2 s_part (aC (eAdd (eMul (eIx (eV 2) (eI 0)) (eIx (eV 3) (eI 1))) (eIx (eV 2) (eI 1))) (aC (eMul (eIx (eV 2) (eI 1)) (eIx (eV 3) (eI 1))) a0)))) pNil) k06_tail)
def k06_h1 : Phi := (pSeq (pSet 2 (eCall 2 s_law_end (aC (eCall 2 s_law_cell_at (aC (eV 0) (aC (eI 2) a0))) (aC (eCall 2 s_law_cell_at (aC (eV 0) (aC (eI 3) a0))) a0)))) (pSeq (pSet 3 (eCall 2 s_law_end (aC (eCall 2 s_law_cell_at (aC (eV 0) (aC (eI 4) a0))) (aC (eCall 2 s_law_cell_at (aC (eV 0) (aC (eI 5) a0))) a0)))) k06_h2))
def k06_h0b : Phi := (pSeq (pIf (cAnd (cEqI (eMod (eDiv (eCall 2 s_law_cell_at (aC (eV 0) (aC (eI 0) a0))) (eI 7)) (eI 2)) (eI 1)) (cNe (eV 1) (eLst a0))) (pSet 1 (eCall 2 s_law_by (aC (eV 1) (aC (eLst (aC (eSub (eMod (eCall 2 s_law_cell_at (aC (eV 0) (aC (eI 6) a0))) (eI 41)) (eI 20)) (aC (eAdd (eI 1) (eMod (eCall 2 s_law_cell_at (aC (eV 0) (aC (eI 7) a0))) (eI 9))) a0))) a0)))) pNil) k06_h1)
def k06_h0 : Phi := (pSeq (pSet 1 (eCall 3 s_law_row (aC (eV 0) (aC (eI 8) (aC (eMod (eCall 2 s_law_cell_at (aC (eV 0) (aC (eI 0) a0))) (eI 7)) a0))))) k06_h0b)
theorem k06_h2_ok (sc L : List Int) (a b c d : Int) (hL : ∀ x ∈ L, Sz 150 x) (hl : L.length ≤ 50) (hp : IsPart a b) (hq : IsPart c d) (sa : Sz 45 a) (sb : Sz 45 b) (s3 : Sz 45 c) (sd : Sz 45 d) :
    k06_h2 ⟨fun _ => False, fun v => v = .bl true⟩ [some (.scr sc), some (iL L), some (pv a b), some (pv c d), none, none, none] := by
  have b0 : b * d ≠ 0 := Int.mul_ne_zero (Int.ne_of_gt hp.pos) (Int.ne_of_gt hq.pos)
  have up : ∀ {x : Int}, Sz 45 x → Sz 150 x := fun h => h.mono (by decide)
  have s1 : Sz 150 (a * d + b) := (((sa.mul sd).mono (show 45 + 45 ≤ 100 by decide)).add (sb.mono (by decide))).mono (by decide)
  have s2 : Sz 150 (b * d) := (sb.mul sd).mono (by decide)
  refine ⟨by walk_at "sg", fun _ => ⟨⟨⟨⟨⟨⟨rfl, trivial, rfl, rfl, rfl⟩, ⟨rfl, trivial, rfl, rfl, rfl⟩, rfl, rfl, sa.W sd (by decide)⟩, ⟨rfl, trivial, rfl, rfl, rfl⟩, rfl, rfl⟩, ⟨⟨rfl, trivial, rfl, rfl, rfl⟩, ⟨rfl, trivial, rfl, rfl, rfl⟩, rfl, rfl, sb.W sd (by decide)⟩, trivial⟩, rfl, a * d + b, b * d, rfl, b0, s2.mono (by decide)⟩, ?_⟩, fun _ => ?_⟩
  · exact k06_tail_ok _ L a b (prt (a * d + b) (b * d)).1 (prt (a * d + b) (b * d)).2 hL hl hp (prt_part b0) (up sa) (up sb) (prt_sz1 _ s1) (prt_sz2 _ s2)
  · exact k06_tail_ok _ L a b c d hL hl hp hq (up sa) (up sb) (up s3) (up sd)
theorem k06_h1_ok (sc L : List Int) (hL : ∀ x ∈ L, Sz 150 x) (hl : L.length ≤ 50) :
    k06_h1 ⟨fun _ => False, fun v => v = .bl true⟩ [some (.scr sc), some (iL L), none, none, none, none, none] := by
  obtain ⟨a1, a2, a3⟩ := lend_sz (cellAt sc 2) (cellAt sc 3)
  obtain ⟨b1, b2, b3⟩ := lend_sz (cellAt sc 4) (cellAt sc 5)
  refine ⟨by walk_at "sg", by walk_at "sg", ?_⟩
  exact k06_h2_ok sc L _ _ _ _ hL hl a3 b3 a1 a2 b1 b2
def s_law : FS := ⟨fun as => ∃ ns, as = [.scr ns], fun _ => .bl true⟩
theorem p_law : ∀ as, as.length = 1 → s_law.g as → phi_law s_law_row s_law_cell_at s_law_by s_law_end s_part s_law_told s_law_due s_law_is_peg s_smallest s_of_part ⟨fun _ => False, fun v => v = s_law.f as⟩ (st0 N_law as) := by
  rintro as - ⟨sc, rfl⟩
  have hm := fmod_bd (a := cellAt sc 0) (b := 7) (by decide)
  have h1 := lrow_len sc (k := 8) (m := (cellAt sc 0).fmod 7) (by decide) (by omega)
  have h2 := lrow_sz sc 8 ((cellAt sc 0).fmod 7)
  have gr : s_law_row.g [.scr sc, .int 8, .int ((cellAt sc 0).fmod 7)] := ⟨sc, 8, (cellAt sc 0).fmod 7, rfl, by decide, by omega, by omega⟩
  show k06_h0 _ [some (.scr sc), none, none, none, none, none, none]
  refine ⟨⟨⟨rfl, trivial, ⟨⟨⟨rfl, trivial, trivial⟩, rfl, sc, 0, rfl, by decide⟩, trivial, rfl, rfl, of_decide_eq_true rfl⟩, trivial⟩, rfl, gr⟩, ?_⟩
  show k06_h0b _ [some (.scr sc), some (iL (lrow sc 8 ((cellAt sc 0).fmod 7))), none, none, none, none, none]
  generalize lrow sc 8 ((cellAt sc 0).fmod 7) = L at h1 h2
  have l7 : L.length ≤ 7 := by omega
  have c1 := fmod_sz (x := cellAt sc 6) (b := 41) (n := 8) (by decide) (by decide)
  have c2 := fmod_sz (x := cellAt sc 7) (b := 9) (n := 8) (by decide) (by decide)
  have t1 : Sz 10 ((cellAt sc 6).fmod 41 - 20) := (c1.sub (SzL (by decide))).mono (by decide)
  have t2 : Sz 10 (1 + (cellAt sc 7).fmod 9) := ((SzL (n := 8) (by decide)).add c2).mono (by decide)
  have hB : ∀ x ∈ [(cellAt sc 6).fmod 41 - 20, 1 + (cellAt sc 7).fmod 9], Sz 10 x := by
    intro x hx
    rcases List.mem_cons.mp hx with rfl | hx
    · exact t1
    · have : x = 1 + (cellAt sc 7).fmod 9 := by simpa using hx
      subst this
      exact t2
  refine ⟨⟨by walk_at "sg", fun _ => ⟨rfl, ⟨trivial, Nat.zero_le _⟩, shP_iL L, shP_iL []⟩⟩, fun hc => ?_, fun hc => ?_⟩
  · have hc : (decide (((cellAt sc 0).fdiv 7).fmod 2 = 1) && !eqP (iL L) (iL [])) = true := hc
    have hne : L ≠ [] := fun z => by
      rw [z, eqP_self (v := iL []) (plains_int []), Bool.not_true, Bool.and_false] at hc
      cases hc
    refine ⟨⟨⟨rfl, ⟨by walk_at "sg", sl2⟩, trivial⟩, rfl, L, [(cellAt sc 6).fmod 41 - 20, 1 + (cellAt sc 7).fmod 9], 70, 10, rfl, hne, by simp, by omega, by show 2 ≤ 400; decide, h2, hB, by decide⟩, ?_⟩
    show k06_h1 _ [some (.scr sc), some (iL (pmul (toIs (L.map PV.int)) (toIs ([(cellAt sc 6).fmod 41 - 20, 1 + (cellAt sc 7).fmod 9].map PV.int)))), none, none, none, none, none]
    rw [toIs_map, toIs_map]
    refine k06_h1_ok sc _ (fun x hx => (pmul_sz h2 hB x hx).mono (by omega)) ?_
    rw [pmul_len hne (by simp)]
    show L.length + 2 - 1 ≤ 50
    omega
  · exact k06_h1_ok sc L (fun x hx => (h2 x hx).mono (by decide)) (by omega)
def s_peg : FS := ⟨fun _ => False, fun _ => .non⟩
theorem p_peg : ∀ as, as.length = 3 → s_peg.g as → phi_peg s_below s_is_alone s_smallest ⟨fun _ => False, fun v => v = s_peg.f as⟩ (st0 N_peg as) := fun _ _ h => h.elim

def topS (i : Nat) : Stmt := PySem.Challenge.pw_rootpeg_k06_pegs_made.main.body.getD i (.Pass ⟨0, 0, 0, 0⟩)
theorem sc_divisor : FnScope N_divisor ["one", "other"] (defScope (topS 8)) := ⟨rfl, rfl, rfl, by decide +kernel, rfl, by decide +kernel, by decide +kernel⟩
theorem d_divisor {P : Program} {w : World} {K : PySem.W.Frag} {mg : Str → Option Value} {base : Heap} (B : Blt mg) {me : FS} (T : Top K mg "divisor" (topS 8) ["one", "other"])
    (pure : ∀ as, as.length = 2 → me.g as → phi_divisor ⟨fun _ => False, fun v => v = me.f as⟩ (st0 N_divisor as)) : Cal P w K mg base "divisor" 1 2 .S me.g me.f   :=
  mkCal (phi_divisor) pure T sc_divisor rfl fun fa cdv A outer s H E hr => ⟨_, [], (zf [] (zc (swhile PassesOwn.never (yneI (xv 1) xint) (zw (o2 := []) (z1 (spar 0 1 rfl sc_divisor.nd (xv 1) (xmod (xv 0) (xv 1)))))) (z1 (sret (xabs B.abs (xv 0)))))), by kernel_rfl⟩
theorem sc_part : FnScope N_part ["top", "bottom"] (defScope (topS 9)) := ⟨rfl, rfl, rfl, by decide +kernel, rfl, by decide +kernel, by decide +kernel⟩
theorem d_part {P : Program} {w : World} {K : PySem.W.Frag} {mg : Str → Option Value} {base : Heap} (B : Blt mg) {F_divisor : FS} (C_divisor : Cal P w K mg base "divisor" 1 2 .S F_divisor.g F_divisor.f) {me : FS} (T : Top K mg "part" (topS 9) ["top", "bottom"])
    (pure : ∀ as, as.length = 2 → me.g as → phi_part F_divisor ⟨fun _ => False, fun v => v = me.f as⟩ (st0 N_part as)) : Cal P w K mg base "part" 2 2 .S me.g me.f   :=
  mkCal (phi_part F_divisor) pure T sc_part rfl fun fa cdv A outer s H E hr => ⟨_, [], (zf [] (zc (sif (yeqI (xv 1) xint) (z1 snever) (zw (o2 := []) z0)) (zc (sset 2 (xcall C_divisor (hr.mono (by decide)) (xa (xv 0) (xa (xv 1) xa0))) sc_part.nd) (zf [] (zc (sif (ylt (xv 1) xint) (zw (o2 := []) (z1 (sset 2 (xsub xint (xv 2)) sc_part.nd))) (zw (o2 := []) z0)) (z1 (sret (xtup (xa (xdiv (xv 0) (xv 2)) (xa (xdiv (xv 1) (xv 2)) xa0)))))))))), by kernel_rfl⟩
theorem sc_below : FnScope N_below ["one", "other"] (defScope (topS 10)) := ⟨rfl, rfl, rfl, by decide +kernel, rfl, by decide +kernel, by decide +kernel⟩
theorem d_below {P : Program} {w : World} {K : PySem.W.Frag} {mg : Str → Option Value} {base : Heap} (B : Blt mg) {me : FS} (T : Top K mg "below" (topS 10) ["one", "other"])
    (pure : ∀ as, as.length = 2 → me.g as → phi_below ⟨fun _ => False, fun v => v = me.f as⟩ (st0 N_below as)) : Cal P w K mg base "below" 1 2 .S me.g me.f   :=
  mkCal (phi_below) pure T sc_below rfl fun fa cdv A outer s H E hr => ⟨_, [], (z1 (sret (xlt (xmul (xix (xv 0) xint) (xix (xv 1) xint)) (xmul (xix (xv 1) xint) (xix (xv 0) xint))))), by kernel_rfl⟩
theorem sc_part_sum : FnScope N_part_sum ["one", "other"] (defScope (topS 11)) := ⟨rfl, rfl, rfl, by decide +kernel, rfl, by decide +kernel, by decide +kernel⟩
theorem d_part_sum {P : Program} {w : World} {K : PySem.W.Frag} {mg : Str → Option Value} {base : Heap} (B : Blt mg) {F_part : FS} (C_part : Cal P w K mg base "part" 2 2 .S F_part.g F_part.f) {me : FS} (T : Top K mg "part_sum" (topS 11) ["one", "other"])
    (pure : ∀ as, as.length = 2 → me.g as → phi_part_sum F_part ⟨fun _ => False, fun v => v = me.f as⟩ (st0 N_part_sum as)) : Cal P w K mg base "part_sum" 3 2 .S me.g me.f   :=
  mkCal (phi_part_sum F_part) pure T sc_part_sum rfl fun fa cdv A outer s H E hr => ⟨_, [], (z1 (sret (xcall C_part (hr.mono (by decide)) (xa (xadd (xmul (xix (xv 0) xint) (xix (xv 1) xint)) (xmul (xix (xv 1) xint) (xix (xv 0) xint))) (xa (xmul (xix (xv 0) xint) (xix (xv 1) xint)) xa0))))), by kernel_rfl⟩
theorem sc_sign_of : FnScope N_sign_of ["number"] (defScope (topS 13)) := ⟨rfl, rfl, rfl, by decide +kernel, rfl, by decide +kernel, by decide +kernel⟩
theorem d_sign_of {P : Program} {w : World} {K : PySem.W.Frag} {mg : Str → Option Value} {base : Heap} (B : Blt mg) {me : FS} (T : Top K mg "sign_of" (topS 13) ["number"])
    (pure : ∀ as, as.length = 1 → me.g as → phi_sign_of ⟨fun _ => False, fun v => v = me.f as⟩ (st0 N_sign_of as)) : Cal P w K mg base "sign_of" 1 1 .S me.g me.f   :=
  mkCal (phi_sign_of) pure T sc_sign_of rfl fun fa cdv A outer s H E hr => ⟨_, [], (zf [] (zc (sif (ylt (xv 0) xint) (z1 (sret (xneg xint))) (zw (o2 := []) z0)) (z1 (sret (xmin2 rfl B.min (xv 0) xint))))), by kernel_rfl⟩
theorem sc_sign_at : FnScope N_sign_at ["row", "at"] (defScope (topS 14)) := ⟨rfl, rfl, rfl, by decide +kernel, rfl, by decide +kernel, by decide +kernel⟩
theorem d_sign_at {P : Program} {w : World} {K : PySem.W.Frag} {mg : Str → Option Value} {base : Heap} (B : Blt mg) {F_sign_of : FS} (C_sign_of : Cal P w K mg base "sign_of" 1 1 .S F_sign_of.g F_sign_of.f) {me : FS} (T : Top K mg "sign_at" (topS 14) ["row", "at"])
    (pure : ∀ as, as.length = 2 → me.g as → phi_sign_at F_sign_of ⟨fun _ => False, fun v => v = me.f as⟩ (st0 N_sign_at as)) : Cal P w K mg base "sign_at" 2 2 .S me.g me.f   :=
  mkCal (phi_sign_at F_sign_of) pure T sc_sign_at rfl fun fa cdv A outer s H E hr => ⟨_, [], (zc (sset 2 xint sc_sign_at.nd) (zc (sset 3 xint sc_sign_at.nd) (zf [] (zc (sfor 4 PassesOwn.never rfl sc_sign_at.nd (xr3 B.range (xsub (xlen B.len (xv 0)) xint) (xneg xint) (xneg xint)) (zw (o2 := []) (zc (sset 2 (xadd (xmul (xv 2) (xix (xv 1) xint)) (xmul (xix (xv 0) (xv 4)) (xv 3))) sc_sign_at.nd) (z1 (sset 3 (xmul (xv 3) (xix (xv 1) xint)) sc_sign_at.nd))))) (z1 (sret (xcall C_sign_of (hr.mono (by decide)) (xa (xv 2) xa0)))))))), by kernel_rfl⟩
theorem sc_smallest : FnScope N_smallest ["row"] (defScope (topS 15)) := ⟨rfl, rfl, rfl, by decide +kernel, rfl, by decide +kernel, by decide +kernel⟩
theorem d_smallest {P : Program} {w : World} {K : PySem.W.Frag} {mg : Str → Option Value} {base : Heap} (B : Blt mg) {F_divisor : FS} (C_divisor : Cal P w K mg base "divisor" 1 2 .S F_divisor.g F_divisor.f) {me : FS} (T : Top K mg "smallest" (topS 15) ["row"])
    (pure : ∀ as, as.length = 1 → me.g as → phi_smallest F_divisor ⟨fun _ => False, fun v => v = me.f as⟩ (st0 N_smallest as)) : Cal P w K mg base "smallest" 2 1 .F me.g me.f   :=
  mkCal (phi_smallest F_divisor) pure T sc_smallest rfl fun fa cdv A outer s H E hr => ⟨_, [], (zc (sset 1 xint sc_smallest.nd) (zf [] (zc (sfor 2 PassesOwn.never rfl sc_smallest.nd (xi (xv 0)) (zw (o2 := []) (z1 (sset 1 (xcall C_divisor (hr.mono (by decide)) (xa (xv 1) (xa (xv 2) xa0))) sc_smallest.nd)))) (zf [] (zc (sif (ylt (xix (xv 0) (xneg xint)) xint) (zw (o2 := []) (z1 (sset 1 (xsub xint (xv 1)) sc_smallest.nd))) (zw (o2 := []) z0)) (z1 (sretF (xlc 2 rfl sc_smallest.nd (xiW (xi (xv 0))) (by show blkC N_smallest (defScope (topS 15)) _ _ = true; decide +kernel) (fun _ _ _ _ _ => pg_name (i := 2) sc_smallest.nd rfl (Or.inl rfl)) (fun _ _ _ _ _ => ts0) (fun _ _ _ _ _ => (xdiv (xv 2) (xv 1))))))))))), by kernel_rfl⟩
theorem sc_joined : FnScope N_joined ["row", "pair"] (defScope (topS 18)) := ⟨rfl, rfl, rfl, by decide +kernel, rfl, by decide +kernel, by decide +kernel⟩
theorem d_joined {P : Program} {w : World} {K : PySem.W.Frag} {mg : Str → Option Value} {base : Heap} (B : Blt mg) {me : FS} (T : Top K mg "joined" (topS 18) ["row", "pair"])
    (pure : ∀ as, as.length = 2 → me.g as → phi_joined ⟨fun _ => False, fun v => v = me.f as⟩ (st0 N_joined as)) : Cal P w K mg base "joined" 1 2 .F me.g me.f   :=
  mkCal (phi_joined) pure T sc_joined rfl fun fa cdv A outer s H E hr => ⟨_, [], (zc (ssetF 2 (xcat (xlc 4 rfl sc_joined.nd (xiW (xi (xv 0))) (by show blkC N_joined (defScope (topS 18)) _ _ = true; decide +kernel) (fun _ _ _ _ _ => pg_name (i := 4) sc_joined.nd rfl (Or.inl rfl)) (fun _ _ _ _ _ => ts0) (fun _ _ _ _ _ => xint)) (xlst (xa xint xa0))) sc_joined.nd) (zf [2] (zc (sfor 3 PassesOwn.never rfl sc_joined.nd (xr1 B.range (xlen B.len (xv 0))) (zw (o2 := [2]) (zc (sput 2 (xadd (xix (xw 2) (xv 3)) (xmul (xix (xv 0) (xv 3)) (xix (xv 1) xint))) (xv 3)) (z1 (sput 2 (xadd (xix (xw 2) (xadd (xv 3) xint)) (xmul (xix (xv 0) (xv 3)) (xix (xv 1) xint))) (xadd (xv 3) xint)))))) (z1 (sretO 2))))), by kernel_rfl⟩
theorem sc_turned : FnScope N_turned ["row", "low", "high"] (defScope (topS 17)) := ⟨rfl, rfl, rfl, by decide +kernel, rfl, by decide +kernel, by decide +kernel⟩
theorem d_turned {P : Program} {w : World} {K : PySem.W.Frag} {mg : Str → Option Value} {base : Heap} (B : Blt mg) {F_joined : FS} (C_joined : Cal P w K mg base "joined" 1 2 .F F_joined.g F_joined.f) {me : FS} (T : Top K mg "turned" (topS 17) ["row", "low", "high"])
    (pure : ∀ as, as.length = 3 → me.g as → phi_turned F_joined ⟨fun _ => False, fun v => v = me.f as⟩ (st0 N_turned as)) : Cal P w K mg base "turned" 2 3 .F me.g me.f   :=
  mkCal (phi_turned F_joined) pure T sc_turned rfl fun fa cdv A outer s H E hr => ⟨_, [], (zc (sset 3 (xmul (xix (xv 1) xint) (xix (xv 2) xint)) sc_turned.nd) (zc (sset 4 (xmul (xix (xv 2) xint) (xix (xv 1) xint)) sc_turned.nd) (zc (sset 5 (xmul (xix (xv 1) xint) (xix (xv 2) xint)) sc_turned.nd) (zc (ssetF 6 (xlst (xa (xix (xv 0) (xneg xint)) xa0)) sc_turned.nd) (zc (ssetF 7 (xlst (xa xint xa0)) sc_turned.nd) (zf [7, 6] (zc (sfor 8 PassesOwn.never rfl sc_turned.nd (xr3 B.range (xsub (xlen B.len (xv 0)) xint) (xneg xint) (xneg xint)) (zw (o2 := [7, 6]) (zf [6] (zc (ssetF 7 (xlc 9 rfl sc_turned.nd (xiW (xi (xS (xcall C_joined (hr.mono (by decide)) (xa (xv 7) (xa (xS (xlst (xa xint (xa xint xa0)))) xa0)))))) (by show blkC N_turned (defScope (topS 17)) _ _ = true; decide +kernel) (fun _ _ _ _ _ => pg_name (i := 9) sc_turned.nd rfl (Or.inl rfl)) (fun _ _ _ _ _ => ts0) (fun _ _ _ _ _ => (xmul (xv 5) (xv 9)))) sc_turned.nd) (zf [7] (zc (ssetF 6 (xcall C_joined (hr.mono (by decide)) (xa (xv 6) (xa (xS (xlst (xa (xv 3) (xa (xv 4) xa0)))) xa0))) sc_turned.nd) (z1 (ssetF 6 (xlc 10 rfl sc_turned.nd (xiW (xr1 B.range (xlen B.len (xw 6)))) (by show blkC N_turned (defScope (topS 17)) _ _ = true; decide +kernel) (fun _ _ _ _ _ => pg_name (i := 10) sc_turned.nd rfl (Or.inl rfl)) (fun _ _ _ _ _ => ts0) (fun _ _ _ _ _ => (xadd (xix (xw 6) (xv 10)) (xmul (xix (xv 0) (xv 8)) (xix (xw 7) (xv 10)))))) sc_turned.nd)))))))) (z1 (sretO 6))))))))), by kernel_rfl⟩
theorem sc_turns : FnScope N_turns ["row", "low", "high"] (defScope (topS 19)) := ⟨rfl, rfl, rfl, by decide +kernel, rfl, by decide +kernel, by decide +kernel⟩
theorem d_turns {P : Program} {w : World} {K : PySem.W.Frag} {mg : Str → Option Value} {base : Heap} (B : Blt mg) {F_turned : FS} {F_sign_of : FS} (C_turned : Cal P w K mg base "turned" 2 3 .F F_turned.g F_turned.f) (C_sign_of : Cal P w K mg base "sign_of" 1 1 .S F_sign_of.g F_sign_of.f) {me : FS} (T : Top K mg "turns" (topS 19) ["row", "low", "high"])
    (pure : ∀ as, as.length = 3 → me.g as → phi_turns F_turned F_sign_of ⟨fun _ => False, fun v => v = me.f as⟩ (st0 N_turns as)) : Cal P w K mg base "turns" 3 3 .S me.g me.f   :=
  mkCal (phi_turns F_turned F_sign_of) pure T sc_turns rfl fun fa cdv A outer s H E hr => ⟨_, [], (zc (ssetF 3 (xlc 4 rfl sc_turns.nd (xiW (xi (xS (xcall C_turned (hr.mono (by decide)) (xa (xv 0) (xa (xv 1) (xa (xv 2) xa0))))))) (by show blkC N_turns (defScope (topS 19)) _ _ = true; decide +kernel) (fun _ _ _ _ _ => pg_name (i := 4) sc_turns.nd rfl (Or.inl rfl)) (fun _ _ _ _ _ => (ts1 (yneI (xv 4) xint))) (fun _ _ _ _ _ => (xcall C_sign_of (hr.mono (by decide)) (xa (xv 4) xa0)))) sc_turns.nd) (z1 (sret (xsum rfl B.sum (xlc 5 rfl sc_turns.nd (xiW (xr2 B.range xint (xlen B.len (xw 3)))) (by show blkC N_turns (defScope (topS 19)) _ _ = true; decide +kernel) (fun _ _ _ _ _ => pg_name (i := 5) sc_turns.nd rfl (Or.inl rfl)) (fun _ _ _ _ _ => (ts1 (yne hr.units (xix (xw 3) (xv 5)) (xix (xw 3) (xsub (xv 5) xint))))) (fun _ _ _ _ _ => xint)))))), by kernel_rfl⟩
theorem sc_is_alone : FnScope N_is_alone ["row", "low", "high"] (defScope (topS 21)) := ⟨rfl, rfl, rfl, by decide +kernel, rfl, by decide +kernel, by decide +kernel⟩
theorem d_is_alone {P : Program} {w : World} {K : PySem.W.Frag} {mg : Str → Option Value} {base : Heap} (B : Blt mg) {F_turns : FS} {F_sign_at : FS} (C_turns : Cal P w K mg base "turns" 3 3 .S F_turns.g F_turns.f) (C_sign_at : Cal P w K mg base "sign_at" 2 2 .S F_sign_at.g F_sign_at.f) {me : FS} (T : Top K mg "is_alone" (topS 21) ["row", "low", "high"])
    (pure : ∀ as, as.length = 3 → me.g as → phi_is_alone F_turns F_sign_at ⟨fun _ => False, fun v => v = me.f as⟩ (st0 N_is_alone as)) : Cal P w K mg base "is_alone" 4 3 .S me.g me.f   :=
  mkCal (phi_is_alone F_turns F_sign_at) pure T sc_is_alone rfl fun fa cdv A outer s H E hr => ⟨_, [], (z1 (sret (xand (xneI (xcall C_sign_at (hr.mono (by decide)) (xa (xv 0) (xa (xv 1) xa0))) xint) (xand (xneI (xcall C_sign_at (hr.mono (by decide)) (xa (xv 0) (xa (xv 2) xa0))) xint) (xone (xeqI (xcall C_turns (hr.mono (by decide)) (xa (xv 0) (xa (xv 1) (xa (xv 2) xa0)))) xint)))))), by kernel_rfl⟩
theorem sc_peg : FnScope N_peg ["row", "low", "high"] (defScope (topS 22)) := ⟨rfl, rfl, rfl, by decide +kernel, rfl, by decide +kernel, by decide +kernel⟩
theorem d_peg {P : Program} {w : World} {K : PySem.W.Frag} {mg : Str → Option Value} {base : Heap} (B : Blt mg) {F_below : FS} {F_is_alone : FS} {F_smallest : FS} (C_below : Cal P w K mg base "below" 1 2 .S F_below.g F_below.f) (C_is_alone : Cal P w K mg base "is_alone" 4 3 .S F_is_alone.g F_is_alone.f) (C_smallest : Cal P w K mg base "smallest" 2 1 .F F_smallest.g F_smallest.f) {me : FS} (T : Top K mg "peg" (topS 22) ["row", "low", "high"])
    (pure : ∀ as, as.length = 3 → me.g as → phi_peg F_below F_is_alone F_smallest ⟨fun _ => False, fun v => v = me.f as⟩ (st0 N_peg as)) : Cal P w K mg base "peg" 5 3 .S me.g me.f   :=
  mkCal (phi_peg F_below F_is_alone F_smallest) pure T sc_peg rfl fun fa cdv A outer s H E hr => ⟨_, [], (zf [] (zc (sif (yw (wor (ylt (xlen B.len (xv 0)) xint) (wone' (yeqI (xix (xv 0) (xneg xint)) xint)))) (z1 snever) (zw (o2 := []) z0)) (zf [] (zc (sif (ynot (yval (xcall C_below (hr.mono (by decide)) (xa (xv 1) (xa (xv 2) xa0))))) (z1 snever) (zw (o2 := []) z0)) (zf [] (zc (sif (ynot (yval (xcall C_is_alone (hr.mono (by decide)) (xa (xv 0) (xa (xv 1) (xa (xv 2) xa0)))))) (z1 snever) (zw (o2 := []) z0)) (z1 (sret (xtup (xa (xtuple B.tuple (xcall C_smallest (hr.mono (by decide)) (xa (xv 0) xa0))) (xa (xv 1) (xa (xv 2) xa0)))))))))))), by kernel_rfl⟩
theorem dX_peg {P : Program} {w : World} {K : PySem.W.Frag} {mg : Str → Option Value} {base : Heap} (B : Blt mg) {F_below : FS} {F_is_alone : FS} {F_smallest : FS} (C_below : Cal P w K mg base "below" 1 2 .S F_below.g F_below.f) (C_is_alone : Cal P w K mg base "is_alone" 4 3 .S F_is_alone.g F_is_alone.f) (C_smallest : Cal P w K mg base "smallest" 2 1 .F F_smallest.g F_smallest.f) {A_NoRow : Addr} (E_NoRow : ErrC K mg "NoRow" A_NoRow) {A_NoStretch : Addr} (E_NoStretch : ErrC K mg "NoStretch" A_NoStretch) {A_NotAlone : Addr} (E_NotAlone : ErrC K mg "NotAlone" A_NotAlone) {me : FS} (T : Top K mg "peg" (topS 22) ["row", "low", "high"])
    (pure : ∀ as, as.length = 3 → me.g as → phiX_peg F_below F_is_alone F_smallest ⟨fun _ => False, fun v => v = me.f as⟩ (st0 N_peg as)) : CalXN P w K mg base "peg" 5 3 .S me.g me.f   :=
  mkCalXN (phiX_peg F_below F_is_alone F_smallest) pure T sc_peg rfl fun fa cdv A outer s H E hr => ⟨_, [], (zf [] (zc (sif (yw (wor (ylt (xlen B.len (xv 0)) xint) (wone' (yeqI (xix (xv 0) (xneg xint)) xint)))) (z1 (sraiseN rfl (L2N.takes_of rfl rfl rfl rfl) E_NoRow (fun _ _ h => h _ E_NoRow.g))) (zw (o2 := []) z0)) (zf [] (zc (sif (ynot (yval (xcall C_below (hr.mono (by decide)) (xa (xv 1) (xa (xv 2) xa0))))) (z1 (sraiseN rfl (L2N.takes_of rfl rfl rfl rfl) E_NoStretch (fun _ _ h => h _ E_NoStretch.g))) (zw (o2 := []) z0)) (zf [] (zc (sif (ynot (yval (xcall C_is_alone (hr.mono (by decide)) (xa (xv 0) (xa (xv 1) (xa (xv 2) xa0)))))) (z1 (sraiseN rfl (L2N.takes_of rfl rfl rfl rfl) E_NotAlone (fun _ _ h => h _ E_NotAlone.g))) (zw (o2 := []) z0)) (z1 (sret (xtup (xa (xtuple B.tuple (xcall C_smallest (hr.mono (by decide)) (xa (xv 0) xa0))) (xa (xv 1) (xa (xv 2) xa0)))))))))))), by kernel_rfl⟩
theorem sc_of_part : FnScope N_of_part ["at"] (defScope (topS 23)) := ⟨rfl, rfl, rfl, by decide +kernel, rfl, by decide +kernel, by decide +kernel⟩
theorem d_of_part {P : Program} {w : World} {K : PySem.W.Frag} {mg : Str → Option Value} {base : Heap} (B : Blt mg) {F_part_sum : FS} (C_part_sum : Cal P w K mg base "part_sum" 3 2 .S F_part_sum.g F_part_sum.f) {me : FS} (T : Top K mg "of_part" (topS 23) ["at"])
    (pure : ∀ as, as.length = 1 → me.g as → phi_of_part F_part_sum ⟨fun _ => False, fun v => v = me.f as⟩ (st0 N_of_part as)) : Cal P w K mg base "of_part" 4 1 .S me.g me.f   :=
  mkCal (phi_of_part F_part_sum) pure T sc_of_part rfl fun fa cdv A outer s H E hr => ⟨_, [], (z1 (sret (xtup (xa (xtup (xa (xsub xint (xix (xv 0) xint)) (xa (xix (xv 0) xint) xa0))) (xa (xcall C_part_sum (hr.mono (by decide)) (xa (xv 0) (xa (xtup (xa (xneg xint) (xa xint xa0))) xa0))) (xa (xcall C_part_sum (hr.mono (by decide)) (xa (xv 0) (xa (xtup (xa xint (xa xint xa0))) xa0))) xa0)))))), by kernel_rfl⟩
theorem sc_law_whole : FnScope N_law_whole ["_law_found"] (defScope (topS 25)) := ⟨rfl, rfl, rfl, by decide +kernel, rfl, by decide +kernel, by decide +kernel⟩
theorem d_law_whole {P : Program} {w : World} {K : PySem.W.Frag} {mg : Str → Option Value} {base : Heap} (B : Blt mg) {me : FS} (T : Top K mg "_law_whole" (topS 25) ["_law_found"])
    (pure : ∀ as, as.length = 1 → me.g as → phi_law_whole ⟨fun _ => False, fun v => v = me.f as⟩ (st0 N_law_whole as)) : Cal P w K mg base "_law_whole" 1 1 .S me.g me.f   :=
  mkCal (phi_law_whole) pure T sc_law_whole rfl fun fa cdv A outer s H E hr => ⟨_, [], (z1 (sret (xand (xisi (T := "int") (T' := "int") B.isi B.int boot_int (xv 0) (by simp)) (xone (xnot (xisi (T := "bool") (T' := "bool") B.isi B.bool boot_bool (xv 0) (by simp))))))), by kernel_rfl⟩
theorem sc_law_cell_at : FnScope N_law_cell_at ["_law_script", "_law_k"] (defScope (topS 26)) := ⟨rfl, rfl, rfl, by decide +kernel, rfl, by decide +kernel, by decide +kernel⟩
theorem d_law_cell_at {P : Program} {w : World} {K : PySem.W.Frag} {mg : Str → Option Value} {base : Heap} (B : Blt mg) {me : FS} (T : Top K mg "_law_cell_at" (topS 26) ["_law_script", "_law_k"])
    (pure : ∀ as, as.length = 2 → me.g as → phi_law_cell_at ⟨fun _ => False, fun v => v = me.f as⟩ (st0 N_law_cell_at as)) : Cal P w K mg base "_law_cell_at" 1 2 .S me.g me.f   :=
  mkCal (phi_law_cell_at) pure T sc_law_cell_at rfl fun fa cdv A outer s H E hr => ⟨_, [], (zf [] (zc (sif (ylt (xv 1) (xlen B.len (xv 0))) (z1 (sret (xix (xv 0) (xv 1)))) (zw (o2 := []) z0)) (z1 (sret xint)))), by kernel_rfl⟩
theorem sc_law_divisor : FnScope N_law_divisor ["_law_one", "_law_other"] (defScope (topS 27)) := ⟨rfl, rfl, rfl, by decide +kernel, rfl, by decide +kernel, by decide +kernel⟩
theorem d_law_divisor {P : Program} {w : World} {K : PySem.W.Frag} {mg : Str → Option Value} {base : Heap} (B : Blt mg) {me : FS} (T : Top K mg "_law_divisor" (topS 27) ["_law_one", "_law_other"])
    (pure : ∀ as, as.length = 2 → me.g as → phi_law_divisor ⟨fun _ => False, fun v => v = me.f as⟩ (st0 N_law_divisor as)) : Cal P w K mg base "_law_divisor" 1 2 .S me.g me.f   :=
  mkCal (phi_law_divisor) pure T sc_law_divisor rfl fun fa cdv A outer s H E hr => ⟨_, [], (zf [] (zc (swhile PassesOwn.never (yneI (xv 1) xint) (zw (o2 := []) (zc (sset 2 (xmod (xv 0) (xv 1)) sc_law_divisor.nd) (zc (sset 0 (xv 1) sc_law_divisor.nd) (z1 (sset 1 (xv 2) sc_law_divisor.nd)))))) (z1 (sret (xabs B.abs (xv 0)))))), by kernel_rfl⟩
theorem sc_law_part : FnScope N_law_part ["_law_top", "_law_bottom"] (defScope (topS 28)) := ⟨rfl, rfl, rfl, by decide +kernel, rfl, by decide +kernel, by decide +kernel⟩
theorem d_law_part {P : Program} {w : World} {K : PySem.W.Frag} {mg : Str → Option Value} {base : Heap} (B : Blt mg) {F_law_divisor : FS} (C_law_divisor : Cal P w K mg base "_law_divisor" 1 2 .S F_law_divisor.g F_law_divisor.f) {me : FS} (T : Top K mg "_law_part" (topS 28) ["_law_top", "_law_bottom"])
    (pure : ∀ as, as.length = 2 → me.g as → phi_law_part F_law_divisor ⟨fun _ => False, fun v => v = me.f as⟩ (st0 N_law_part as)) : Cal P w K mg base "_law_part" 2 2 .S me.g me.f   :=
  mkCal (phi_law_part F_law_divisor) pure T sc_law_part rfl fun fa cdv A outer s H E hr => ⟨_, [], (zc (sset 2 (xcall C_law_divisor (hr.mono (by decide)) (xa (xv 0) (xa (xv 1) xa0))) sc_law_part.nd) (zf [] (zc (sif (ylt (xv 1) xint) (zw (o2 := []) (z1 (sset 2 (xsub xint (xv 2)) sc_law_part.nd))) (zw (o2 := []) z0)) (z1 (sret (xtup (xa (xdiv (xv 0) (xv 2)) (xa (xdiv (xv 1) (xv 2)) xa0)))))))), by kernel_rfl⟩
theorem sc_law_smallest : FnScope N_law_smallest ["_law_row_here"] (defScope (topS 29)) := ⟨rfl, rfl, rfl, by decide +kernel, rfl, by decide +kernel, by decide +kernel⟩
theorem d_law_smallest {P : Program} {w : World} {K : PySem.W.Frag} {mg : Str → Option Value} {base : Heap} (B : Blt mg) {F_law_divisor : FS} (C_law_divisor : Cal P w K mg base "_law_divisor" 1 2 .S F_law_divisor.g F_law_divisor.f) {me : FS} (T : Top K mg "_law_smallest" (topS 29) ["_law_row_here"])
    (pure : ∀ as, as.length = 1 → me.g as → phi_law_smallest F_law_divisor ⟨fun _ => False, fun v => v = me.f as⟩ (st0 N_law_smallest as)) : Cal P w K mg base "_law_smallest" 2 1 .F me.g me.f   :=
  mkCal (phi_law_smallest F_law_divisor) pure T sc_law_smallest rfl fun fa cdv A outer s H E hr => ⟨_, [], (zc (sset 1 xint sc_law_smallest.nd) (zf [] (zc (sfor 2 PassesOwn.never rfl sc_law_smallest.nd (xi (xv 0)) (zw (o2 := []) (z1 (sset 1 (xcall C_law_divisor (hr.mono (by decide)) (xa (xv 1) (xa (xv 2) xa0))) sc_law_smallest.nd)))) (zf [] (zc (sif (ylt (xix (xv 0) (xneg xint)) xint) (zw (o2 := []) (z1 (sset 1 (xsub xint (xv 1)) sc_law_smallest.nd))) (zw (o2 := []) z0)) (z1 (sretF (xlc 2 rfl sc_law_smallest.nd (xiW (xi (xv 0))) (by show blkC N_law_smallest (defScope (topS 29)) _ _ = true; decide +kernel) (fun _ _ _ _ _ => pg_name (i := 2) sc_law_smallest.nd rfl (Or.inl rfl)) (fun _ _ _ _ _ => ts0) (fun _ _ _ _ _ => (xdiv (xv 2) (xv 1))))))))))), by kernel_rfl⟩
theorem sc_law_value : FnScope N_law_value ["_law_row_here", "_law_at"] (defScope (topS 30)) := ⟨rfl, rfl, rfl, by decide +kernel, rfl, by decide +kernel, by decide +kernel⟩
theorem d_law_value {P : Program} {w : World} {K : PySem.W.Frag} {mg : Str → Option Value} {base : Heap} (B : Blt mg) {me : FS} (T : Top K mg "_law_value" (topS 30) ["_law_row_here", "_law_at"])
    (pure : ∀ as, as.length = 2 → me.g as → phi_law_value ⟨fun _ => False, fun v => v = me.f as⟩ (st0 N_law_value as)) : Cal P w K mg base "_law_value" 1 2 .S me.g me.f   :=
  mkCal (phi_law_value) pure T sc_law_value rfl fun fa cdv A outer s H E hr => ⟨_, [], (zc (sset 2 xint sc_law_value.nd) (zc (sset 3 xint sc_law_value.nd) (zf [] (zc (sfor 4 PassesOwn.never rfl sc_law_value.nd (xr3 B.range (xsub (xlen B.len (xv 0)) xint) (xneg xint) (xneg xint)) (zw (o2 := []) (zc (sset 2 (xadd (xmul (xv 2) (xix (xv 1) xint)) (xmul (xix (xv 0) (xv 4)) (xv 3))) sc_law_value.nd) (z1 (sset 3 (xmul (xv 3) (xix (xv 1) xint)) sc_law_value.nd))))) (z1 (sret (xv 2))))))), by kernel_rfl⟩
theorem sc_law_by : FnScope N_law_by ["_law_row_here", "_law_other"] (defScope (topS 31)) := ⟨rfl, rfl, rfl, by decide +kernel, rfl, by decide +kernel, by decide +kernel⟩
theorem d_law_by {P : Program} {w : World} {K : PySem.W.Frag} {mg : Str → Option Value} {base : Heap} (B : Blt mg) {me : FS} (T : Top K mg "_law_by" (topS 31) ["_law_row_here", "_law_other"])
    (pure : ∀ as, as.length = 2 → me.g as → phi_law_by ⟨fun _ => False, fun v => v = me.f as⟩ (st0 N_law_by as)) : Cal P w K mg base "_law_by" 1 2 .F me.g me.f   :=
  mkCal (phi_law_by) pure T sc_law_by rfl fun fa cdv A outer s H E hr => ⟨_, [], (zc (slc 3 2 rfl sc_law_by.nd (xiW (xr1 B.range (xsub (xadd (xlen B.len (xv 0)) (xlen B.len (xv 1))) xint))) (by show blkC N_law_by (defScope (topS 31)) _ _ = true; decide +kernel) (fun _ _ _ _ _ => pg_name (i := 3) sc_law_by.nd rfl (Or.inl rfl)) (fun _ _ _ _ _ => ts0) (fun _ _ _ _ _ => xint)) (zf [2] (zc (sfor 3 PassesOwn.never rfl sc_law_by.nd (xr1 B.range (xlen B.len (xv 0))) (zw (o2 := [2]) (zf [2] (z1 (sfor 4 PassesOwn.never rfl sc_law_by.nd (xr1 B.range (xlen B.len (xv 1))) (zw (o2 := [2]) (z1 (sput 2 (xadd (xix (xw 2) (xadd (xv 3) (xv 4))) (xmul (xix (xv 0) (xv 3)) (xix (xv 1) (xv 4)))) (xadd (xv 3) (xv 4)))))))))) (z1 (sretO 2))))), by kernel_rfl⟩
theorem sc_law_seen : FnScope N_law_seen ["_law_row_here", "_law_low", "_law_high"] (defScope (topS 32)) := ⟨rfl, rfl, rfl, by decide +kernel, rfl, by decide +kernel, by decide +kernel⟩
theorem d_law_seen {P : Program} {w : World} {K : PySem.W.Frag} {mg : Str → Option Value} {base : Heap} (B : Blt mg) {F_law_by : FS} (C_law_by : Cal P w K mg base "_law_by" 1 2 .F F_law_by.g F_law_by.f) {me : FS} (T : Top K mg "_law_seen" (topS 32) ["_law_row_here", "_law_low", "_law_high"])
    (pure : ∀ as, as.length = 3 → me.g as → phi_law_seen F_law_by ⟨fun _ => False, fun v => v = me.f as⟩ (st0 N_law_seen as)) : Cal P w K mg base "_law_seen" 2 3 .F me.g me.f   :=
  mkCal (phi_law_seen F_law_by) pure T sc_law_seen rfl fun fa cdv A outer s H E hr => ⟨_, [], (zc (ssetF 3 (xlc 7 rfl sc_law_seen.nd (xiW (xi (xv 0))) (by show blkC N_law_seen (defScope (topS 32)) _ _ = true; decide +kernel) (fun _ _ _ _ _ => pg_name (i := 7) sc_law_seen.nd rfl (Or.inl rfl)) (fun _ _ _ _ _ => ts0) (fun _ _ _ _ _ => xint)) sc_law_seen.nd) (zf [3] (zc (sfor 4 PassesOwn.never rfl sc_law_seen.nd (xr1 B.range (xlen B.len (xv 0))) (zw (o2 := [3]) (zc (ssetF 5 (xlst (xa (xix (xv 0) (xv 4)) xa0)) sc_law_seen.nd) (zf [5, 3] (zc (sfor 6 PassesOwn.never rfl sc_law_seen.nd (xr1 B.range (xsub (xlen B.len (xv 0)) xint)) (zw (o2 := [5, 3]) (zf [5, 3] (z1 (sif (ylt (xv 6) (xv 4)) (zw (o2 := [5, 3]) (zf [3] (z1 (ssetF 5 (xcall C_law_by (hr.mono (by decide)) (xa (xv 5) (xa (xS (xlst (xa (xmul (xix (xv 1) xint) (xix (xv 2) xint)) (xa (xmul (xix (xv 2) xint) (xix (xv 1) xint)) xa0)))) xa0))) sc_law_seen.nd)))) (zw (o2 := [5, 3]) (zf [3] (z1 (ssetF 5 (xcall C_law_by (hr.mono (by decide)) (xa (xv 5) (xa (xS (xlst (xa (xmul (xix (xv 1) xint) (xix (xv 2) xint)) (xa (xmul (xix (xv 1) xint) (xix (xv 2) xint)) xa0)))) xa0))) sc_law_seen.nd))))))))) (z1 (ssetF 3 (xlc 6 rfl sc_law_seen.nd (xiW (xr1 B.range (xlen B.len (xv 0)))) (by show blkC N_law_seen (defScope (topS 32)) _ _ = true; decide +kernel) (fun _ _ _ _ _ => pg_name (i := 6) sc_law_seen.nd rfl (Or.inl rfl)) (fun _ _ _ _ _ => ts0) (fun _ _ _ _ _ => (xadd (xix (xw 3) (xv 6)) (xix (xw 5) (xv 6))))) sc_law_seen.nd))))))) (z1 (sretO 3))))), by kernel_rfl⟩
theorem sc_law_turns : FnScope N_law_turns ["_law_row_here", "_law_low", "_law_high"] (defScope (topS 33)) := ⟨rfl, rfl, rfl, by decide +kernel, rfl, by decide +kernel, by decide +kernel⟩
theorem d_law_turns {P : Program} {w : World} {K : PySem.W.Frag} {mg : Str → Option Value} {base : Heap} (B : Blt mg) {F_law_seen : FS} (C_law_seen : Cal P w K mg base "_law_seen" 2 3 .F F_law_seen.g F_law_seen.f) {me : FS} (T : Top K mg "_law_turns" (topS 33) ["_law_row_here", "_law_low", "_law_high"])
    (pure : ∀ as, as.length = 3 → me.g as → phi_law_turns F_law_seen ⟨fun _ => False, fun v => v = me.f as⟩ (st0 N_law_turns as)) : Cal P w K mg base "_law_turns" 3 3 .S me.g me.f   :=
  mkCal (phi_law_turns F_law_seen) pure T sc_law_turns rfl fun fa cdv A outer s H E hr => ⟨_, [], (zc (sset 3 xint sc_law_turns.nd) (zc (sset 4 xint sc_law_turns.nd) (zf [] (zc (sfor 5 PassesOwn.never rfl sc_law_turns.nd (xi (xS (xcall C_law_seen (hr.mono (by decide)) (xa (xv 0) (xa (xv 1) (xa (xv 2) xa0)))))) (zw (o2 := []) (zf [] (zc (sif (ylt (xmul (xv 5) (xv 4)) xint) (zw (o2 := []) (z1 (sset 3 (xadd (xv 3) xint) sc_law_turns.nd))) (zw (o2 := []) z0)) (zf [] (z1 (sif (yneI (xv 5) xint) (zw (o2 := []) (z1 (sset 4 (xv 5) sc_law_turns.nd))) (zw (o2 := []) z0)))))))) (z1 (sret (xv 3))))))), by kernel_rfl⟩
theorem sc_law_is_part : FnScope N_law_is_part ["_law_found"] (defScope (topS 34)) := ⟨rfl, rfl, rfl, by decide +kernel, rfl, by decide +kernel, by decide +kernel⟩
theorem d_law_is_part {P : Program} {w : World} {K : PySem.W.Frag} {mg : Str → Option Value} {base : Heap} (B : Blt mg) {F_law_whole : FS} {F_law_part : FS} (C_law_whole : Cal P w K mg base "_law_whole" 1 1 .S F_law_whole.g F_law_whole.f) (C_law_part : Cal P w K mg base "_law_part" 2 2 .S F_law_part.g F_law_part.f) {me : FS} (T : Top K mg "_law_is_part" (topS 34) ["_law_found"])
    (pure : ∀ as, as.length = 1 → me.g as → phi_law_is_part F_law_whole F_law_part ⟨fun _ => False, fun v => v = me.f as⟩ (st0 N_law_is_part as)) : Cal P w K mg base "_law_is_part" 3 1 .S me.g me.f   :=
  mkCal (phi_law_is_part F_law_whole F_law_part) pure T sc_law_is_part rfl fun fa cdv A outer s H E hr => ⟨_, [], (zf [] (zc (sif (yw (wor (ynot (yval (xisi (T := "tuple") (T' := "tuple") B.isi B.tuple boot_tuple (xv 0) (by simp)))) (wor (yneI (xlen B.len (xv 0)) xint) (wor (ynot (yval (xcall C_law_whole (hr.mono (by decide)) (xa (xix (xv 0) xint) xa0)))) (wone' (ynot (yval (xcall C_law_whole (hr.mono (by decide)) (xa (xix (xv 0) xint) xa0))))))))) (z1 (sret xbl)) (zw (o2 := []) z0)) (z1 (sret (xand (xgt (xix (xv 0) xint) xint) (xone (xeq hr.units (xcall C_law_part (hr.mono (by decide)) (xa (xix (xv 0) xint) (xa (xix (xv 0) xint) xa0))) (xv 0)))))))), by kernel_rfl⟩
theorem sc_law_is_peg : FnScope N_law_is_peg ["_law_found"] (defScope (topS 35)) := ⟨rfl, rfl, rfl, by decide +kernel, rfl, by decide +kernel, by decide +kernel⟩
theorem d_law_is_peg {P : Program} {w : World} {K : PySem.W.Frag} {mg : Str → Option Value} {base : Heap} (B : Blt mg) {F_law_whole : FS} {F_law_is_part : FS} {F_law_smallest : FS} {F_law_value : FS} {F_law_turns : FS} (C_law_whole : Cal P w K mg base "_law_whole" 1 1 .S F_law_whole.g F_law_whole.f) (C_law_is_part : Cal P w K mg base "_law_is_part" 3 1 .S F_law_is_part.g F_law_is_part.f) (C_law_smallest : Cal P w K mg base "_law_smallest" 2 1 .F F_law_smallest.g F_law_smallest.f) (C_law_value : Cal P w K mg base "_law_value" 1 2 .S F_law_value.g F_law_value.f) (C_law_turns : Cal P w K mg base "_law_turns" 3 3 .S F_law_turns.g F_law_turns.f) {me : FS} (T : Top K mg "_law_is_peg" (topS 35) ["_law_found"])
    (pure : ∀ as, as.length = 1 → me.g as → phi_law_is_peg F_law_whole F_law_is_part F_law_smallest F_law_value F_law_turns ⟨fun _ => False, fun v => v = me.f as⟩ (st0 N_law_is_peg as)) : Cal P w K mg base "_law_is_peg" 4 1 .S me.g me.f   :=
  mkCal (phi_law_is_peg F_law_whole F_law_is_part F_law_smallest F_law_value F_law_turns) pure T sc_law_is_peg rfl fun fa cdv A outer s H E hr => ⟨_, [], (zf [] (zc (sif (yw (wor (ynot (yval (xisi (T := "tuple") (T' := "tuple") B.isi B.tuple boot_tuple (xv 0) (by simp)))) (wor (yneI (xlen B.len (xv 0)) xint) (wone' (ynot (yval (xisi (T := "tuple") (T' := "tuple") B.isi B.tuple boot_tuple (xix (xv 0) xint) (by simp)))))))) (z1 (sret xbl)) (zw (o2 := []) z0)) (zc (ssetF 1 (xlist B.list (xix (xv 0) xint)) sc_law_is_peg.nd) (zf [1] (zc (sif (yw (wor (ylt (xlen B.len (xw 1)) xint) (wor (ygt (xlen B.len (xlc 4 rfl sc_law_is_peg.nd (xiB (xw 1)) (by show blkC N_law_is_peg (defScope (topS 35)) _ _ = true; decide +kernel) (fun _ _ _ _ _ => pg_name (i := 4) sc_law_is_peg.nd rfl (Or.inl rfl)) (fun _ _ _ _ _ => (ts1 (ynot (yval (xcall C_law_whole (hr.mono (by decide)) (xa (xv 4) xa0)))))) (fun _ _ _ _ _ => (xv 4)))) xint) (wone' (ylt (xix (xw 1) (xneg xint)) xint))))) (z1 (sret xbl)) (zw (o2 := [1]) z0)) (zf [] (zc (sif (yw (wor (yne hr.units (xcall C_law_smallest (hr.mono (by decide)) (xa (xv 1) xa0)) (xv 1)) (wor (ynot (yval (xcall C_law_is_part (hr.mono (by decide)) (xa (xix (xv 0) xint) xa0)))) (wone' (ynot (yval (xcall C_law_is_part (hr.mono (by decide)) (xa (xix (xv 0) xint) xa0)))))))) (z1 (sret xbl)) (zw (o2 := []) z0)) (zc (sset 2 (xcall C_law_value (hr.mono (by decide)) (xa (xv 1) (xa (xix (xv 0) xint) xa0))) sc_law_is_peg.nd) (zc (sset 3 (xcall C_law_value (hr.mono (by decide)) (xa (xv 1) (xa (xix (xv 0) xint) xa0))) sc_law_is_peg.nd) (zf [] (zc (sif (yw (wor (yge (xmul (xix (xix (xv 0) xint) xint) (xix (xix (xv 0) xint) xint)) (xmul (xix (xix (xv 0) xint) xint) (xix (xix (xv 0) xint) xint))) (wor (yeqI (xv 2) xint) (wone' (yeqI (xv 3) xint))))) (z1 (sret xbl)) (zw (o2 := []) z0)) (z1 (sret (xeqI (xcall C_law_turns (hr.mono (by decide)) (xa (xv 1) (xa (xix (xv 0) xint) (xa (xix (xv 0) xint) xa0)))) xint)))))))))))))), by kernel_rfl⟩
theorem sc_law_row : FnScope N_law_row ["_law_script", "_law_k", "_law_many"] (defScope (topS 36)) := ⟨rfl, rfl, rfl, by decide +kernel, rfl, by decide +kernel, by decide +kernel⟩
theorem d_law_row {P : Program} {w : World} {K : PySem.W.Frag} {mg : Str → Option Value} {base : Heap} (B : Blt mg) {F_law_cell_at : FS} (C_law_cell_at : Cal P w K mg base "_law_cell_at" 1 2 .S F_law_cell_at.g F_law_cell_at.f) {me : FS} (T : Top K mg "_law_row" (topS 36) ["_law_script", "_law_k", "_law_many"])
    (pure : ∀ as, as.length = 3 → me.g as → phi_law_row F_law_cell_at ⟨fun _ => False, fun v => v = me.f as⟩ (st0 N_law_row as)) : Cal P w K mg base "_law_row" 2 3 .F me.g me.f   :=
  mkCal (phi_law_row F_law_cell_at) pure T sc_law_row rfl fun fa cdv A outer s H E hr => ⟨_, [], (zc (ssetF 3 (xlst xa0) sc_law_row.nd) (zf [3] (zc (sfor 4 PassesOwn.never rfl sc_law_row.nd (xi (xS (xcut (xv 0) (xo (xv 1)) (xo (xadd (xv 1) (xv 2)))))) (zw (o2 := [3]) (zf [3] (z1 (sif (yeqI (xmod (xcall C_law_cell_at (hr.mono (by decide)) (xa (xv 0) (xa xint xa0))) xint) xint) (zw (o2 := [3]) (z1 (sapp 3 (xsub (xmod (xv 4) (xmul xint (xpow xint xint))) (xpow xint xint))))) (zw (o2 := [3]) (z1 (sapp 3 (xsub (xmod (xv 4) xint) xint))))))))) (z1 (sretO 3))))), by kernel_rfl⟩
theorem sc_law_end : FnScope N_law_end ["_law_cell", "_law_more"] (defScope (topS 37)) := ⟨rfl, rfl, rfl, by decide +kernel, rfl, by decide +kernel, by decide +kernel⟩
theorem d_law_end {P : Program} {w : World} {K : PySem.W.Frag} {mg : Str → Option Value} {base : Heap} (B : Blt mg) {F_law_part : FS} (C_law_part : Cal P w K mg base "_law_part" 2 2 .S F_law_part.g F_law_part.f) {me : FS} (T : Top K mg "_law_end" (topS 37) ["_law_cell", "_law_more"])
    (pure : ∀ as, as.length = 2 → me.g as → phi_law_end F_law_part ⟨fun _ => False, fun v => v = me.f as⟩ (st0 N_law_end as)) : Cal P w K mg base "_law_end" 3 2 .S me.g me.f   :=
  mkCal (phi_law_end F_law_part) pure T sc_law_end rfl fun fa cdv A outer s H E hr => ⟨_, [], (zf [] (zc (sif (yeqI (xmod (xv 1) xint) xint) (z1 (sret (xcall C_law_part (hr.mono (by decide)) (xa (xsub (xmod (xv 0) (xmul xint (xpow xint xint))) (xpow xint xint)) (xa (xadd xint (xmod (xdiv (xv 1) xint) (xpow xint xint))) xa0))))) (zw (o2 := []) z0)) (z1 (sret (xcall C_law_part (hr.mono (by decide)) (xa (xsub (xmod (xv 0) xint) xint) (xa (xadd xint (xmod (xdiv (xv 1) xint) xint)) xa0))))))), by kernel_rfl⟩
theorem sc_law_due : FnScope N_law_due ["_law_row_here", "_law_low", "_law_high"] (defScope (topS 38)) := ⟨rfl, rfl, rfl, by decide +kernel, rfl, by decide +kernel, by decide +kernel⟩
theorem d_law_due {P : Program} {w : World} {K : PySem.W.Frag} {mg : Str → Option Value} {base : Heap} (B : Blt mg) {F_law_turns : FS} {F_law_value : FS} (C_law_turns : Cal P w K mg base "_law_turns" 3 3 .S F_law_turns.g F_law_turns.f) (C_law_value : Cal P w K mg base "_law_value" 1 2 .S F_law_value.g F_law_value.f) {me : FS} (T : Top K mg "_law_due" (topS 38) ["_law_row_here", "_law_low", "_law_high"])
    (pure : ∀ as, as.length = 3 → me.g as → phi_law_due F_law_turns F_law_value ⟨fun _ => False, fun v => v = me.f as⟩ (st0 N_law_due as)) : Cal P w K mg base "_law_due" 4 3 .S me.g me.f   :=
  mkCal (phi_law_due F_law_turns F_law_value) pure T sc_law_due rfl fun fa cdv A outer s H E hr => ⟨_, [], (zf [] (zc (sif (yw (wor (ylt (xlen B.len (xv 0)) xint) (wone' (yeqI (xix (xv 0) (xneg xint)) xint)))) (z1 (sret xstr)) (zw (o2 := []) z0)) (zf [] (zc (sif (yge (xmul (xix (xv 1) xint) (xix (xv 2) xint)) (xmul (xix (xv 2) xint) (xix (xv 1) xint))) (z1 (sret xstr)) (zw (o2 := []) z0)) (zf [] (zc (sif (yw (wor (yeqI (xcall C_law_value (hr.mono (by decide)) (xa (xv 0) (xa (xv 1) xa0))) xint) (wor (yeqI (xcall C_law_value (hr.mono (by decide)) (xa (xv 0) (xa (xv 2) xa0))) xint) (wone' (yneI (xcall C_law_turns (hr.mono (by decide)) (xa (xv 0) (xa (xv 1) (xa (xv 2) xa0)))) xint))))) (z1 (sret xstr)) (zw (o2 := []) z0)) (z1 (sret xstr)))))))), by kernel_rfl⟩
theorem sc_law_word : FnScope N_law_word ["_law_e"] (defScope (topS 39)) := ⟨rfl, rfl, rfl, by decide +kernel, rfl, by decide +kernel, by decide +kernel⟩
theorem d_law_word {P : Program} {w : World} {K : PySem.W.Frag} {mg : Str → Option Value} {base : Heap} (B : Blt mg) {wd : Str → Str} (T : Top K mg "_law_word" (topS 39) ["_law_e"])
    (pure : ∀ a c, c ∈ (["NoRow", "NoStretch", "NotAlone"] : List Str) → phi_law_word a c ⟨fun _ => False, fun v => v = .str (wd c)⟩ (st0 N_law_word [.exo a])) : CalP P w K mg base "_law_word" 1 ["NoRow", "NoStretch", "NotAlone", "NoPart", "NoQuotient"] ["NoRow", "NoStretch", "NotAlone"] wd :=
  mkCalP phi_law_word pure T sc_law_word rfl fun fa cdv A outer s H E a oe C c hr ew hz hf => ⟨_, [], (zc (ssetF 1 (xcat (xrep (xlst (xa xstr xa0)) (xtoint B.int (xisE List.mem_cons_self ew hz hf (by simp) B.isi (xv 0)))) (xrep (xlst (xa xstr xa0)) (xtoint B.int (xisE List.mem_cons_self ew hz hf (by simp) B.isi (xv 0))))) sc_law_word.nd) (zc (ssetF 1 (xcat (xw 1) (xrep (xlst (xa xstr xa0)) (xtoint B.int (xisE List.mem_cons_self ew hz hf (by simp) B.isi (xv 0))))) sc_law_word.nd) (zf [1] (zc (sif (yw (wor (yneI (xlen B.len (xw 1)) xint) (wor (yval (xisE2 List.mem_cons_self ew hz hf (by simp) (by simp) B.isi (xv 0))) (wone' (ynot (yval (xisEV List.mem_cons_self ew hz hf B.isi B.verr (xv 0)))))))) (z1 (sret xstr)) (zw (o2 := [1]) z0)) (z1 (sret (xix (xw 1) xint))))))), by kernel_rfl⟩
theorem sc_law_told : FnScope N_law_told ["_law_row_here", "_law_low", "_law_high"] (defScope (topS 40)) := ⟨rfl, rfl, rfl, by decide +kernel, rfl, by decide +kernel, by decide +kernel⟩
theorem d_law_told {P : Program} {w : World} {K : PySem.W.Frag} {mg : Str → Option Value} {base : Heap} (B : Blt mg) {FX_peg : FS} (CX_peg : CalXN P w K mg base "peg" 5 3 .S FX_peg.g FX_peg.f) {wd : Str → Str} (CP : CalP P w K mg base "_law_word" 1 ["NoRow", "NoStretch", "NotAlone", "NoPart", "NoQuotient"] ["NoRow", "NoStretch", "NotAlone"] wd) (EWR : WErrs K mg ["NoRow", "NoStretch", "NotAlone", "NoPart", "NoQuotient"] ["NoRow", "NoStretch", "NotAlone"] "PegError") {me : FS} (T : Top K mg "_law_told" (topS 40) ["_law_row_here", "_law_low", "_law_high"])
    (pure : ∀ as, as.length = 3 → me.g as → phi_law_told FX_peg wd ⟨fun _ => False, fun v => v = me.f as⟩ (st0 N_law_told as)) : Cal P w K mg base "_law_told" 6 3 .S me.g me.f   :=
  mkCal (phi_law_told FX_peg wd) pure T sc_law_told rfl fun fa cdv A outer s H E hr => ⟨_, [], (zc (stryw (i := 4) (iy := 3) CX_peg CP EWR (hr.mono (by decide)) (L2H.roomH_of (hr.mono (by decide))) (fun pn xe => (xa (xv 0) (xa (xv 1) (xa (xv 2) xa0)))) rfl rfl sc_law_told.nd rfl rfl (Or.inl rfl) (.inl rfl) rfl rfl (by decide) (Or.inl rfl) (by decide) (by decide) rfl (by decide)) (z1 (sret (xtup (xa xstr (xa (xv 3) xa0)))))), by kernel_rfl⟩
theorem sc_law : FnScope N_law ["_law_script"] (defScope (topS 41)) := ⟨rfl, rfl, rfl, by decide +kernel, rfl, by decide +kernel, by decide +kernel⟩
theorem d_law {P : Program} {w : World} {K : PySem.W.Frag} {mg : Str → Option Value} {base : Heap} (B : Blt mg) {F_law_row : FS} {F_law_cell_at : FS} {F_law_by : FS} {F_law_end : FS} {F_law_part : FS} {F_law_told : FS} {F_law_due : FS} {F_law_is_peg : FS} {F_law_smallest : FS} {F_of_part : FS} (C_law_row : Cal P w K mg base "_law_row" 2 3 .F F_law_row.g F_law_row.f) (C_law_cell_at : Cal P w K mg base "_law_cell_at" 1 2 .S F_law_cell_at.g F_law_cell_at.f) (C_law_by : Cal P w K mg base "_law_by" 1 2 .F F_law_by.g F_law_by.f) (C_law_end : Cal P w K mg base "_law_end" 3 2 .S F_law_end.g F_law_end.f) (C_law_part : Cal P w K mg base "_law_part" 2 2 .S F_law_part.g F_law_part.f) (C_law_told : Cal P w K mg base "_law_told" 6 3 .S F_law_told.g F_law_told.f) (C_law_due : Cal P w K mg base "_law_due" 4 3 .S F_law_due.g F_law_due.f) (C_law_is_peg : Cal P w K mg base "_law_is_peg" 4 1 .S F_law_is_peg.g F_law_is_peg.f) (C_law_smallest : Cal P w K mg base "_law_smallest" 2 1 .F F_law_smallest.g F_law_smallest.f) (C_of_part : Cal P w K mg base "of_part" 4 1 .S F_of_part.g F_of_part.f) {me : FS} {fl : Addr} {fdl : FuncData} (T : Fun K "law" "law" (topS 41) fl fdl)
    (pure : ∀ as, as.length = 1 → me.g as → phi_law F_law_row F_law_cell_at F_law_by F_law_end F_law_part F_law_told F_law_due F_law_is_peg F_law_smallest F_of_part ⟨fun _ => False, fun v => v = me.f as⟩ (st0 N_law as)) : FnOk P w K mg base CX0 7 fl fdl ["_law_script"] (spF K 1 .S me.g me.f)   :=
  mkFn T (phi_law F_law_row F_law_cell_at F_law_by F_law_end F_law_part F_law_told F_law_due F_law_is_peg F_law_smallest F_of_part) pure sc_law rfl fun fa cdv A outer s H E hr => ⟨_, [], (zc (ssetF 1 (xcall C_law_row (hr.mono (by decide)) (xa (xv 0) (xa xint (xa (xmod (xcall C_law_cell_at (hr.mono (by decide)) (xa (xv 0) (xa xint xa0))) xint) xa0)))) sc_law.nd) (zf [1] (zc (sif (yw (wand (yeqI (xmod (xdiv (xcall C_law_cell_at (hr.mono (by decide)) (xa (xv 0) (xa xint xa0))) xint) xint) xint) (wone (yne hr.units (xw 1) (xlst xa0))))) (zw (o2 := [1]) (zf [] (z1 (ssetF 1 (xcall C_law_by (hr.mono (by decide)) (xa (xv 1) (xa (xS (xlst (xa (xsub (xmod (xcall C_law_cell_at (hr.mono (by decide)) (xa (xv 0) (xa xint xa0))) xint) xint) (xa (xadd xint (xmod (xcall C_law_cell_at (hr.mono (by decide)) (xa (xv 0) (xa xint xa0))) xint)) xa0)))) xa0))) sc_law.nd)))) (zw (o2 := [1]) z0)) (zc (sset 2 (xcall C_law_end (hr.mono (by decide)) (xa (xcall C_law_cell_at (hr.mono (by decide)) (xa (xv 0) (xa xint xa0))) (xa (xcall C_law_cell_at (hr.mono (by decide)) (xa (xv 0) (xa xint xa0))) xa0))) sc_law.nd) (zc (sset 3 (xcall C_law_end (hr.mono (by decide)) (xa (xcall C_law_cell_at (hr.mono (by decide)) (xa (xv 0) (xa xint xa0))) (xa (xcall C_law_cell_at (hr.mono (by decide)) (xa (xv 0) (xa xint xa0))) xa0))) sc_law.nd) (zf [1] (zc (sif (yeqI (xmod (xdiv (xcall C_law_cell_at (hr.mono (by decide)) (xa (xv 0) (xa xint xa0))) xint) xint) xint) (zw (o2 := [1]) (z1 (sset 3 (xcall C_law_part (hr.mono (by decide)) (xa (xadd (xmul (xix (xv 2) xint) (xix (xv 3) xint)) (xix (xv 2) xint)) (xa (xmul (xix (xv 2) xint) (xix (xv 3) xint)) xa0))) sc_law.nd))) (zw (o2 := [1]) z0)) (zc (ssetF 4 (xlist B.list (xw 1)) sc_law.nd) (zf [1] (zc (sset 5 (xcall C_law_told (hr.mono (by decide)) (xa (xv 4) (xa (xv 2) (xa (xv 3) xa0)))) sc_law.nd) (zf [] (zc (sif (yw (wor (yne hr.units (xix (xv 5) xint) (xcall C_law_due (hr.mono (by decide)) (xa (xv 1) (xa (xv 2) (xa (xv 3) xa0))))) (wor (yne hr.units (xv 4) (xv 1)) (wone' (yne hr.units (xcall C_law_told (hr.mono (by decide)) (xa (xtuple B.tuple (xv 1)) (xa (xv 2) (xa (xv 3) xa0)))) (xv 5)))))) (z1 (sret xbl)) (zw (o2 := []) z0)) (zf [] (zc (sif (yw (wand (yeq hr.units (xix (xv 5) xint) xstr) (wone (ynot (yval (xcall C_law_is_peg (hr.mono (by decide)) (xa (xix (xv 5) xint) xa0))))))) (z1 (sret xbl)) (zw (o2 := []) z0)) (zf [] (zc (sif (yw (wand (yeq hr.units (xix (xv 5) xint) xstr) (wone (yne hr.units (xix (xv 5) xint) (xtup (xa (xtuple B.tuple (xcall C_law_smallest (hr.mono (by decide)) (xa (xv 1) xa0))) (xa (xv 2) (xa (xv 3) xa0)))))))) (z1 (sret xbl)) (zw (o2 := []) z0)) (zc (sset 6 (xcall C_of_part (hr.mono (by decide)) (xa (xv 2) xa0)) sc_law.nd) (zf [] (zc (sif (yw (wor (ynot (yval (xcall C_law_is_peg (hr.mono (by decide)) (xa (xv 6) xa0)))) (wone' (yne hr.units (xix (xv 6) xint) (xtup (xa (xsub xint (xix (xv 2) xint)) (xa (xix (xv 2) xint) xa0))))))) (z1 (sret xbl)) (zw (o2 := []) z0)) (z1 (sret (xeq hr.units (xcutT (xv 6) (xo xint) xo0) (xtup (xa (xcall C_law_part (hr.mono (by decide)) (xa (xsub (xix (xv 2) xint) (xix (xv 2) xint)) (xa (xix (xv 2) xint) xa0))) (xa (xcall C_law_part (hr.mono (by decide)) (xa (xadd (xix (xv 2) xint) (xix (xv 2) xint)) (xa (xix (xv 2) xint) xa0))) xa0))))))))))))))))))))))))), by kernel_rfl⟩

end PL
open PySem PySem.W PyProof.Rows
set_option maxHeartbeats 0 in
theorem PySem.Challenge.cw_rootpeg_k06_pegs_made_holds : PySem.Challenge.rw_rootpeg_k06_pegs_made.Holds := by
  w_on; o_law; k_head; (case hw => w_witness2)
  k_fill
  refine L2.walk_of (l := PySem.Challenge.rw_rootpeg_k06_pegs_made) (n := 63) (k := 7) (x := "_law_script") (CX := fun _ => L2.CX0) (sp := fun w => PL.spLaw PL.s_law.g PL.s_law.f _) rfl (by decide) rfl ⟨rfl, by decide, by decide⟩ (fun w h Y => PySem.W.kIn_of Y) ?F (fun _ _ a ns hl _ hS => PL.spLaw_ok hS ⟨ns, rfl⟩ rfl) (fun _ _ _ _ _ h => h)
  case F =>
    intro w mg fa h KX G hmg
    have B : PL.Blt mg := by
      refine' ⟨PySem.W.mg_none_of KX G ?len, PySem.W.mg_none_of KX G ?abs, PySem.W.mg_none_of KX G ?min, PySem.W.mg_none_of KX G ?max, PySem.W.mg_none_of KX G ?sum, PySem.W.mg_none_of KX G ?range, PySem.W.mg_none_of KX G ?list, PySem.W.mg_none_of KX G ?tuple, PySem.W.mg_none_of KX G ?int, PySem.W.mg_none_of KX G ?bool, PySem.W.mg_none_of KX G ?isi, PySem.W.mg_none_of KX G ?verr⟩
      (case len => k_is)
      (case abs => k_is)
      (case min => k_is)
      (case max => k_is)
      (case sum => k_is)
      (case range => k_is)
      (case list => k_is)
      (case tuple => k_is)
      (case int => k_is)
      (case bool => k_is)
      (case isi => k_is)
      (case verr => k_is)
    have T_divisor : PL.Top (L2.KOf KX) mg "divisor" (PL.topS 8) ["one", "other"] := by
      refine' PL.top_of KX G ?a ?l ?c ?k (fun _ _ _ _ _ _ us hl => match us, hl with | [_, _], _ => rfl)
      (case a => k_is); (case l => k_is); (case c => k_is); (case k => k_is)
    have T_part : PL.Top (L2.KOf KX) mg "part" (PL.topS 9) ["top", "bottom"] := by
      refine' PL.top_of KX G ?a ?l ?c ?k (fun _ _ _ _ _ _ us hl => match us, hl with | [_, _], _ => rfl)
      (case a => k_is); (case l => k_is); (case c => k_is); (case k => k_is)
    have T_below : PL.Top (L2.KOf KX) mg "below" (PL.topS 10) ["one", "other"] := by
      refine' PL.top_of KX G ?a ?l ?c ?k (fun _ _ _ _ _ _ us hl => match us, hl with | [_, _], _ => rfl)
      (case a => k_is); (case l => k_is); (case c => k_is); (case k => k_is)
    have T_part_sum : PL.Top (L2.KOf KX) mg "part_sum" (PL.topS 11) ["one", "other"] := by
      refine' PL.top_of KX G ?a ?l ?c ?k (fun _ _ _ _ _ _ us hl => match us, hl with | [_, _], _ => rfl)
      (case a => k_is); (case l => k_is); (case c => k_is); (case k => k_is)
    have T_sign_of : PL.Top (L2.KOf KX) mg "sign_of" (PL.topS 13) ["number"] := by
      refine' PL.top_of KX G ?a ?l ?c ?k (fun _ _ _ _ _ _ us hl => match us, hl with | [_], _ => rfl)
      (case a => k_is); (case l => k_is); (case c => k_is); (case k => k_is)
    have T_sign_at : PL.Top (L2.KOf KX) mg "sign_at" (PL.topS 14) ["row", "at"] := by
      refine' PL.top_of KX G ?a ?l ?c ?k (fun _ _ _ _ _ _ us hl => match us, hl with | [_, _], _ => rfl)
      (case a => k_is); (case l => k_is); (case c => k_is); (case k => k_is)
    have T_smallest : PL.Top (L2.KOf KX) mg "smallest" (PL.topS 15) ["row"] := by
      refine' PL.top_of KX G ?a ?l ?c ?k (fun _ _ _ _ _ _ us hl => match us, hl with | [_], _ => rfl)
      (case a => k_is); (case l => k_is); (case c => k_is); (case k => k_is)
    have T_joined : PL.Top (L2.KOf KX) mg "joined" (PL.topS 18) ["row", "pair"] := by
      refine' PL.top_of KX G ?a ?l ?c ?k (fun _ _ _ _ _ _ us hl => match us, hl with | [_, _], _ => rfl)
      (case a => k_is); (case l => k_is); (case c => k_is); (case k => k_is)
    have T_turned : PL.Top (L2.KOf KX) mg "turned" (PL.topS 17) ["row", "low", "high"] := by
      refine' PL.top_of KX G ?a ?l ?c ?k (fun _ _ _ _ _ _ us hl => match us, hl with | [_, _, _], _ => rfl)
      (case a => k_is); (case l => k_is); (case c => k_is); (case k => k_is)
    have T_turns : PL.Top (L2.KOf KX) mg "turns" (PL.topS 19) ["row", "low", "high"] := by
      refine' PL.top_of KX G ?a ?l ?c ?k (fun _ _ _ _ _ _ us hl => match us, hl with | [_, _, _], _ => rfl)
      (case a => k_is); (case l => k_is); (case c => k_is); (case k => k_is)
    have T_is_alone : PL.Top (L2.KOf KX) mg "is_alone" (PL.topS 21) ["row", "low", "high"] := by
      refine' PL.top_of KX G ?a ?l ?c ?k (fun _ _ _ _ _ _ us hl => match us, hl with | [_, _, _], _ => rfl)
      (case a => k_is); (case l => k_is); (case c => k_is); (case k => k_is)
    have T_peg : PL.Top (L2.KOf KX) mg "peg" (PL.topS 22) ["row", "low", "high"] := by
      refine' PL.top_of KX G ?a ?l ?c ?k (fun _ _ _ _ _ _ us hl => match us, hl with | [_, _, _], _ => rfl)
      (case a => k_is); (case l => k_is); (case c => k_is); (case k => k_is)
    have T_of_part : PL.Top (L2.KOf KX) mg "of_part" (PL.topS 23) ["at"] := by
      refine' PL.top_of KX G ?a ?l ?c ?k (fun _ _ _ _ _ _ us hl => match us, hl with | [_], _ => rfl)
      (case a => k_is); (case l => k_is); (case c => k_is); (case k => k_is)
    have T_law_whole : PL.Top (L2.KOf KX) mg "_law_whole" (PL.topS 25) ["_law_found"] := by
      refine' PL.top_of KX G ?a ?l ?c ?k (fun _ _ _ _ _ _ us hl => match us, hl with | [_], _ => rfl)
      (case a => k_is); (case l => k_is); (case c => k_is); (case k => k_is)
    have T_law_cell_at : PL.Top (L2.KOf KX) mg "_law_cell_at" (PL.topS 26) ["_law_script", "_law_k"] := by
      refine' PL.top_of KX G ?a ?l ?c ?k (fun _ _ _ _ _ _ us hl => match us, hl with | [_, _], _ => rfl)
      (case a => k_is); (case l => k_is); (case c => k_is); (case k => k_is)
    have T_law_divisor : PL.Top (L2.KOf KX) mg "_law_divisor" (PL.topS 27) ["_law_one", "_law_other"] := by
      refine' PL.top_of KX G ?a ?l ?c ?k (fun _ _ _ _ _ _ us hl => match us, hl with | [_, _], _ => rfl)
      (case a => k_is); (case l => k_is); (case c => k_is); (case k => k_is)
    have T_law_part : PL.Top (L2.KOf KX) mg "_law_part" (PL.topS 28) ["_law_top", "_law_bottom"] := by
      refine' PL.top_of KX G ?a ?l ?c ?k (fun _ _ _ _ _ _ us hl => match us, hl with | [_, _], _ => rfl)
      (case a => k_is); (case l => k_is); (case c => k_is); (case k => k_is)
    have T_law_smallest : PL.Top (L2.KOf KX) mg "_law_smallest" (PL.topS 29) ["_law_row_here"] := by
      refine' PL.top_of KX G ?a ?l ?c ?k (fun _ _ _ _ _ _ us hl => match us, hl with | [_], _ => rfl)
      (case a => k_is); (case l => k_is); (case c => k_is); (case k => k_is)
    have T_law_value : PL.Top (L2.KOf KX) mg "_law_value" (PL.topS 30) ["_law_row_here", "_law_at"] := by
      refine' PL.top_of KX G ?a ?l ?c ?k (fun _ _ _ _ _ _ us hl => match us, hl with | [_, _], _ => rfl)
      (case a => k_is); (case l => k_is); (case c => k_is); (case k => k_is)
    have T_law_by : PL.Top (L2.KOf KX) mg "_law_by" (PL.topS 31) ["_law_row_here", "_law_other"] := by
      refine' PL.top_of KX G ?a ?l ?c ?k (fun _ _ _ _ _ _ us hl => match us, hl with | [_, _], _ => rfl)
      (case a => k_is); (case l => k_is); (case c => k_is); (case k => k_is)
    have T_law_seen : PL.Top (L2.KOf KX) mg "_law_seen" (PL.topS 32) ["_law_row_here", "_law_low", "_law_high"] := by
      refine' PL.top_of KX G ?a ?l ?c ?k (fun _ _ _ _ _ _ us hl => match us, hl with | [_, _, _], _ => rfl)
      (case a => k_is); (case l => k_is); (case c => k_is); (case k => k_is)
    have T_law_turns : PL.Top (L2.KOf KX) mg "_law_turns" (PL.topS 33) ["_law_row_here", "_law_low", "_law_high"] := by
      refine' PL.top_of KX G ?a ?l ?c ?k (fun _ _ _ _ _ _ us hl => match us, hl with | [_, _, _], _ => rfl)
      (case a => k_is); (case l => k_is); (case c => k_is); (case k => k_is)
    have T_law_is_part : PL.Top (L2.KOf KX) mg "_law_is_part" (PL.topS 34) ["_law_found"] := by
      refine' PL.top_of KX G ?a ?l ?c ?k (fun _ _ _ _ _ _ us hl => match us, hl with | [_], _ => rfl)
      (case a => k_is); (case l => k_is); (case c => k_is); (case k => k_is)
    have T_law_is_peg : PL.Top (L2.KOf KX) mg "_law_is_peg" (PL.topS 35) ["_law_found"] := by
      refine' PL.top_of KX G ?a ?l ?c ?k (fun _ _ _ _ _ _ us hl => match us, hl with | [_], _ => rfl)
      (case a => k_is); (case l => k_is); (case c => k_is); (case k => k_is)
    have T_law_row : PL.Top (L2.KOf KX) mg "_law_row" (PL.topS 36) ["_law_script", "_law_k", "_law_many"] := by
      refine' PL.top_of KX G ?a ?l ?c ?k (fun _ _ _ _ _ _ us hl => match us, hl with | [_, _, _], _ => rfl)
      (case a => k_is); (case l => k_is); (case c => k_is); (case k => k_is)
    have T_law_end : PL.Top (L2.KOf KX) mg "_law_end" (PL.topS 37) ["_law_cell", "_law_more"] := by
      refine' PL.top_of KX G ?a ?l ?c ?k (fun _ _ _ _ _ _ us hl => match us, hl with | [_, _], _ => rfl)
      (case a => k_is); (case l => k_is); (case c => k_is); (case k => k_is)
    have T_law_due : PL.Top (L2.KOf KX) mg "_law_due" (PL.topS 38) ["_law_row_here", "_law_low", "_law_high"] := by
      refine' PL.top_of KX G ?a ?l ?c ?k (fun _ _ _ _ _ _ us hl => match us, hl with | [_, _, _], _ => rfl)
      (case a => k_is); (case l => k_is); (case c => k_is); (case k => k_is)
    have T_law_word : PL.Top (L2.KOf KX) mg "_law_word" (PL.topS 39) ["_law_e"] := by
      refine' PL.top_of KX G ?a ?l ?c ?k (fun _ _ _ _ _ _ us hl => match us, hl with | [_], _ => rfl)
      (case a => k_is); (case l => k_is); (case c => k_is); (case k => k_is)
    have T_law_told : PL.Top (L2.KOf KX) mg "_law_told" (PL.topS 40) ["_law_row_here", "_law_low", "_law_high"] := by
      refine' PL.top_of KX G ?a ?l ?c ?k (fun _ _ _ _ _ _ us hl => match us, hl with | [_, _, _], _ => rfl)
      (case a => k_is); (case l => k_is); (case c => k_is); (case k => k_is)
    have EWR : PL.WErrs (L2.KOf KX) mg ["NoRow", "NoStretch", "NotAlone", "NoPart", "NoQuotient"] ["NoRow", "NoStretch", "NotAlone"] "PegError" := by
      refine' PL.werrs3_of KX G (PL.errC_of KX G ?a1 ?x1 ?k1 ?b1 ?t1 ?v1 ?hg1 ?hk1 ?hd1 ?ha1 ?hn1 ?ht1 ?hm1) (PL.errC_of KX G ?a2 ?x2 ?k2 ?b2 ?t2 ?v2 ?hg2 ?hk2 ?hd2 ?ha2 ?hn2 ?ht2 ?hm2) (PL.errC_of KX G ?a3 ?x3 ?k3 ?b3 ?t3 ?v3 ?hg3 ?hk3 ?hd3 ?ha3 ?hn3 ?ht3 ?hm3) ?a4 ?a5 ?aB ?k12 ?k13 ?k14 ?k15 ?k21 ?k23 ?k24 ?k25 ?k31 ?k32 ?k34 ?k35 ?s1 ?s2 ?s3 ?bB ?hB ?tB ?nn
      (case a1 => first | k_is | k_exc | rfl)
      (case a2 => first | k_is | k_exc | rfl)
      (case a3 => first | k_is | k_exc | rfl)
      (case a4 => first | k_is | k_exc | rfl)
      (case a5 => first | k_is | k_exc | rfl)
      (case aB => first | k_is | k_exc | rfl)
      (case x1 => first | k_is | k_exc | rfl)
      (case k1 => first | k_is | k_exc | rfl)
      (case b1 => first | k_is | k_exc | rfl)
      (case t1 => first | k_is | k_exc | rfl)
      (case v1 => first | k_is | k_exc | rfl)
      (case hg1 => first | k_is | k_exc | rfl)
      (case hk1 => first | k_is | k_exc | rfl)
      (case hd1 => first | k_is | k_exc | rfl)
      (case ha1 => first | k_is | k_exc | rfl)
      (case hn1 => first | k_is | k_exc | rfl)
      (case ht1 => first | k_is | k_exc | rfl)
      (case hm1 => first | k_is | k_exc | rfl)
      (case x2 => first | k_is | k_exc | rfl)
      (case k2 => first | k_is | k_exc | rfl)
      (case b2 => first | k_is | k_exc | rfl)
      (case t2 => first | k_is | k_exc | rfl)
      (case v2 => first | k_is | k_exc | rfl)
      (case hg2 => first | k_is | k_exc | rfl)
      (case hk2 => first | k_is | k_exc | rfl)
      (case hd2 => first | k_is | k_exc | rfl)
      (case ha2 => first | k_is | k_exc | rfl)
      (case hn2 => first | k_is | k_exc | rfl)
      (case ht2 => first | k_is | k_exc | rfl)
      (case hm2 => first | k_is | k_exc | rfl)
      (case x3 => first | k_is | k_exc | rfl)
      (case k3 => first | k_is | k_exc | rfl)
      (case b3 => first | k_is | k_exc | rfl)
      (case t3 => first | k_is | k_exc | rfl)
      (case v3 => first | k_is | k_exc | rfl)
      (case hg3 => first | k_is | k_exc | rfl)
      (case hk3 => first | k_is | k_exc | rfl)
      (case hd3 => first | k_is | k_exc | rfl)
      (case ha3 => first | k_is | k_exc | rfl)
      (case hn3 => first | k_is | k_exc | rfl)
      (case ht3 => first | k_is | k_exc | rfl)
      (case hm3 => first | k_is | k_exc | rfl)
      (case k12 => first | k_is | k_exc | rfl)
      (case k13 => first | k_is | k_exc | rfl)
      (case k14 => first | k_is | k_exc | rfl)
      (case k15 => first | k_is | k_exc | rfl)
      (case k21 => first | k_is | k_exc | rfl)
      (case k23 => first | k_is | k_exc | rfl)
      (case k24 => first | k_is | k_exc | rfl)
      (case k25 => first | k_is | k_exc | rfl)
      (case k31 => first | k_is | k_exc | rfl)
      (case k32 => first | k_is | k_exc | rfl)
      (case k34 => first | k_is | k_exc | rfl)
      (case k35 => first | k_is | k_exc | rfl)
      (case s1 => first | k_is | k_exc | rfl)
      (case s2 => first | k_is | k_exc | rfl)
      (case s3 => first | k_is | k_exc | rfl)
      (case bB => first | k_is | k_exc | rfl)
      (case hB => first | k_is | k_exc | rfl)
      (case tB => first | k_is | k_exc | rfl)
      (case nn => decide)
    obtain ⟨_, E_NoRow⟩ := EWR.err "NoRow" (by decide)
    obtain ⟨_, E_NoStretch⟩ := EWR.err "NoStretch" (by decide)
    obtain ⟨_, E_NotAlone⟩ := EWR.err "NotAlone" (by decide)
    have TL : ∃ (fdl : FuncData), L2.Fun (L2.KOf KX) "law" "law" (PL.topS 41) fa fdl ∧ ∀ (s : Shared) (v : Value), BindsTo s fdl ⟨[v], []⟩ [("_law_script", v)] := by
      refine' PL.law_of (st := PL.topS 41) KX G hmg ?a ?l ?c ?k (fun _ _ _ _ _ _ s v => .of_eq rfl)
      (case a => k_is); (case l => k_is); (case c => k_is); (case k => k_is)
    obtain ⟨fdl, FL, BL⟩ := TL
    refine ⟨fdl, BL, fun base _ _ => ?_⟩
    have C_divisor := PL.d_divisor (P := (PySem.Challenge.rw_rootpeg_k06_pegs_made).prog) (w := w) (base := base) B  T_divisor PL.p_divisor
    have C_part := PL.d_part (P := (PySem.Challenge.rw_rootpeg_k06_pegs_made).prog) (w := w) (base := base) B C_divisor T_part PL.p_part
    have C_below := PL.d_below (P := (PySem.Challenge.rw_rootpeg_k06_pegs_made).prog) (w := w) (base := base) B  T_below PL.p_below
    have C_part_sum := PL.d_part_sum (P := (PySem.Challenge.rw_rootpeg_k06_pegs_made).prog) (w := w) (base := base) B C_part T_part_sum PL.p_part_sum
    have C_sign_of := PL.d_sign_of (P := (PySem.Challenge.rw_rootpeg_k06_pegs_made).prog) (w := w) (base := base) B  T_sign_of PL.p_sign_of
    have C_sign_at := PL.d_sign_at (P := (PySem.Challenge.rw_rootpeg_k06_pegs_made).prog) (w := w) (base := base) B C_sign_of T_sign_at PL.p_sign_at
    have C_smallest := PL.d_smallest (P := (PySem.Challenge.rw_rootpeg_k06_pegs_made).prog) (w := w) (base := base) B C_divisor T_smallest PL.p_smallest
    have C_joined := PL.d_joined (P := (PySem.Challenge.rw_rootpeg_k06_pegs_made).prog) (w := w) (base := base) B  T_joined PL.p_joined
    have C_turned := PL.d_turned (P := (PySem.Challenge.rw_rootpeg_k06_pegs_made).prog) (w := w) (base := base) B C_joined T_turned PL.p_turned
    have C_turns := PL.d_turns (P := (PySem.Challenge.rw_rootpeg_k06_pegs_made).prog) (w := w) (base := base) B C_turned C_sign_of T_turns PL.p_turns
    have C_is_alone := PL.d_is_alone (P := (PySem.Challenge.rw_rootpeg_k06_pegs_made).prog) (w := w) (base := base) B C_turns C_sign_at T_is_alone PL.p_is_alone
    have C_peg := PL.d_peg (P := (PySem.Challenge.rw_rootpeg_k06_pegs_made).prog) (w := w) (base := base) B C_below C_is_alone C_smallest T_peg PL.p_peg
    have CX_peg := PL.dX_peg (P := (PySem.Challenge.rw_rootpeg_k06_pegs_made).prog) (w := w) (base := base) B C_below C_is_alone C_smallest E_NoRow E_NoStretch E_NotAlone T_peg PL.pX_peg
    have C_of_part := PL.d_of_part (P := (PySem.Challenge.rw_rootpeg_k06_pegs_made).prog) (w := w) (base := base) B C_part_sum T_of_part PL.p_of_part
    have C_law_whole := PL.d_law_whole (P := (PySem.Challenge.rw_rootpeg_k06_pegs_made).prog) (w := w) (base := base) B  T_law_whole PL.p_law_whole
    have C_law_cell_at := PL.d_law_cell_at (P := (PySem.Challenge.rw_rootpeg_k06_pegs_made).prog) (w := w) (base := base) B  T_law_cell_at PL.p_law_cell_at
    have C_law_divisor := PL.d_law_divisor (P := (PySem.Challenge.rw_rootpeg_k06_pegs_made).prog) (w := w) (base := base) B  T_law_divisor PL.p_law_divisor
    have C_law_part := PL.d_law_part (P := (PySem.Challenge.rw_rootpeg_k06_pegs_made).prog) (w := w) (base := base) B C_law_divisor T_law_part PL.p_law_part
    have C_law_smallest := PL.d_law_smallest (P := (PySem.Challenge.rw_rootpeg_k06_pegs_made).prog) (w := w) (base := base) B C_law_divisor T_law_smallest PL.p_law_smallest
    have C_law_value := PL.d_law_value (P := (PySem.Challenge.rw_rootpeg_k06_pegs_made).prog) (w := w) (base := base) B  T_law_value PL.p_law_value
    have C_law_by := PL.d_law_by (P := (PySem.Challenge.rw_rootpeg_k06_pegs_made).prog) (w := w) (base := base) B  T_law_by PL.p_law_by
    have C_law_seen := PL.d_law_seen (P := (PySem.Challenge.rw_rootpeg_k06_pegs_made).prog) (w := w) (base := base) B C_law_by T_law_seen PL.p_law_seen
    have C_law_turns := PL.d_law_turns (P := (PySem.Challenge.rw_rootpeg_k06_pegs_made).prog) (w := w) (base := base) B C_law_seen T_law_turns PL.p_law_turns
    have C_law_is_part := PL.d_law_is_part (P := (PySem.Challenge.rw_rootpeg_k06_pegs_made).prog) (w := w) (base := base) B C_law_whole C_law_part T_law_is_part PL.p_law_is_part
    have C_law_is_peg := PL.d_law_is_peg (P := (PySem.Challenge.rw_rootpeg_k06_pegs_made).prog) (w := w) (base := base) B C_law_whole C_law_is_part C_law_smallest C_law_value C_law_turns T_law_is_peg PL.p_law_is_peg
    have C_law_row := PL.d_law_row (P := (PySem.Challenge.rw_rootpeg_k06_pegs_made).prog) (w := w) (base := base) B C_law_cell_at T_law_row PL.p_law_row
    have C_law_end := PL.d_law_end (P := (PySem.Challenge.rw_rootpeg_k06_pegs_made).prog) (w := w) (base := base) B C_law_part T_law_end PL.p_law_end
    have C_law_due := PL.d_law_due (P := (PySem.Challenge.rw_rootpeg_k06_pegs_made).prog) (w := w) (base := base) B C_law_turns C_law_value T_law_due PL.p_law_due
    have CP := PL.d_law_word (P := (PySem.Challenge.rw_rootpeg_k06_pegs_made).prog) (w := w) (base := base) B T_law_word PL.p_law_word
    have C_law_told := PL.d_law_told (P := (PySem.Challenge.rw_rootpeg_k06_pegs_made).prog) (w := w) (base := base) B CX_peg CP EWR T_law_told PL.p_law_told
    exact PL.d_law B C_law_row C_law_cell_at C_law_by C_law_end C_law_part C_law_told C_law_due C_law_is_peg C_law_smallest C_of_part FL PL.p_law

