import PyProof.Rows.All
import Wide.All
import OpenK.AllK
import Wide.FinOn
import Open.SpecLaws
import KE.OsGo
import HandS.ForSpec
import HandS.ForMost
import HandS.Deep
import HandS.TupAny
import HandS.More
import HandS.ExcInit
import HandS.ExcField
import HandS.HotCalls
import HandS.TupSets
import HandS.Zip
import HandS.Codes
import Zn85R7292fSpec
import PyZn85
import PySem.Challenge.RW_tagshift_s01_answers
section
set_option Elab.async false
set_option linter.all false
set_option maxRecDepth 100000
set_option maxHeartbeats 4000000
/-! Data over the hand layer: plain data d, what stands for it in a heap, what an expression's reading evaluates to as data. -/
namespace Tg
open PySem PySem.Spec PyProof.Rows L2

/-- plain data: a scalar (or a bare reference), a tuple, a list, an instance -/
inductive Dat where
  | v (x : V)
  | tup (l : List Dat)
  | lst (l : List Dat)
  | obj (C : Addr) (l : List (Str × Dat))

mutual
inductive Rp (K : PySem.W.Frag) (H : Hp) : V → Dat → Prop
  | v (x : V) : Rp K H x (.v x)
  | tup {a : Addr} {xs : List V} {ds : List Dat} : SqT K H a xs → RpL K H xs ds → Rp K H (.ref a) (.tup ds)
  | lst {a : Addr} {xs : List V} {ds : List Dat} : H a = some (.lst xs) → RpL K H xs ds → Rp K H (.ref a) (.lst ds)
  | obj {a C dx : Addr} {fs : List (Str × V)} {gs : List (Str × Dat)} : H a = some (.ins C dx fs) → RpF K H fs gs → Rp K H (.ref a) (.obj C gs)
inductive RpL (K : PySem.W.Frag) (H : Hp) : List V → List Dat → Prop
  | nil : RpL K H [] []
  | cons {v : V} {d : Dat} {vs : List V} {ds : List Dat} : Rp K H v d → RpL K H vs ds → RpL K H (v :: vs) (d :: ds)
inductive RpF (K : PySem.W.Frag) (H : Hp) : List (Str × V) → List (Str × Dat) → Prop
  | nil : RpF K H [] []
  | cons {n : Str} {v : V} {d : Dat} {vs : List (Str × V)} {ds : List (Str × Dat)} : Rp K H v d → RpF K H vs ds → RpF K H ((n, v) :: vs) ((n, d) :: ds)
end

theorem same_t {K : PySem.W.Frag} {H H' : Hp} {a : Addr} {xs : List V} (e : Same H H') (h : SqT K H a xs) : SqT K H' a xs := by
  rcases h with h | h
  · rcases h with h | ⟨o, h⟩
    · exact .inl (.inl (e _ _ h))
    · exact .inl (.inr ⟨o, e _ _ h⟩)
  · exact .inr h

mutual
theorem Rp.mono {K : PySem.W.Frag} {H H' : Hp} (e : Same H H') : ∀ {v : V} {d : Dat}, Rp K H v d → Rp K H' v d
  | _, _, .v x => .v x
  | _, _, .tup h r => .tup (same_t e h) (RpL.mono e r)
  | _, _, .lst h r => .lst (e _ _ h) (RpL.mono e r)
  | _, _, .obj h r => .obj (e _ _ h) (RpF.mono e r)
theorem RpL.mono {K : PySem.W.Frag} {H H' : Hp} (e : Same H H') : ∀ {vs : List V} {ds : List Dat}, RpL K H vs ds → RpL K H' vs ds
  | _, _, .nil => .nil
  | _, _, .cons h r => .cons (Rp.mono e h) (RpL.mono e r)
theorem RpF.mono {K : PySem.W.Frag} {H H' : Hp} (e : Same H H') : ∀ {vs : List (Str × V)} {ds : List (Str × Dat)}, RpF K H vs ds → RpF K H' vs ds
  | _, _, .nil => .nil
  | _, _, .cons h r => .cons (Rp.mono e h) (RpF.mono e r)
end

/-! ### data without lists and instances: it stands whatever lists change -/
mutual
def Dat.still : Dat → Bool
  | .v _ => true
  | .tup l => Dat.stills l
  | .lst _ => false
  | .obj _ _ => false
def Dat.stills : List Dat → Bool
  | [] => true
  | d :: r => Dat.still d && Dat.stills r
end
def SameT (K : PySem.W.Frag) (H H' : Hp) : Prop := ∀ a xs, SqT K H a xs → SqT K H' a xs
theorem SameT.refl {K : PySem.W.Frag} {H : Hp} : SameT K H H := fun _ _ h => h
theorem SameT.of {K : PySem.W.Frag} {H H' : Hp} (e : Same H H') : SameT K H H' := fun _ _ h => same_t e h
theorem SameT.trans {K : PySem.W.Frag} {H H1 H2 : Hp} (a : SameT K H H1) (b : SameT K H1 H2) : SameT K H H2 := fun x o h => b x o (a x o h)
/-- what is no tuple is changed -/
theorem SameT.put {K : PySem.W.Frag} {H : Hp} {p : Addr} {u o : HO} (h : H p = some u) (h1 : ∀ xs, u ≠ .tup xs) (h2 : ∀ ob w, u ≠ .frz ob w) : SameT K H (upd H p o) := fun a xs q => by
  rcases q with q | q
  · refine .inl ?_
    rcases q with q | ⟨ob, q⟩
    · refine .inl ?_
      rw [upd_ne fun z => ?_]
      · exact q
      · rw [z, h] at q
        exact h1 _ (Option.some.inj q)
    · refine .inr ⟨ob, ?_⟩
      rw [upd_ne fun z => ?_]
      · exact q
      · rw [z, h] at q
        exact h2 _ _ (Option.some.inj q)
  · exact .inr q
theorem SameT.lst {K : PySem.W.Frag} {H : Hp} {p : Addr} {xs : List V} {o : HO} (h : H p = some (.lst xs)) : SameT K H (upd H p o) :=
  SameT.put h (fun _ z => by cases z) (fun _ _ z => by cases z)
theorem SameT.ins {K : PySem.W.Frag} {H : Hp} {p C dx : Addr} {fs : List (Str × V)} {o : HO} (h : H p = some (.ins C dx fs)) : SameT K H (upd H p o) :=
  SameT.put h (fun _ z => by cases z) (fun _ _ z => by cases z)
theorem SameT.dK {K : PySem.W.Frag} {H : Hp} {p : Addr} {kvs : List (Key × V)} {o : HO} (h : H p = some (.dK kvs)) : SameT K H (upd H p o) :=
  SameT.put h (fun _ z => by cases z) (fun _ _ z => by cases z)
mutual
theorem Rp.stay {K : PySem.W.Frag} {H H' : Hp} (e : SameT K H H') : ∀ {v : V} {d : Dat}, Rp K H v d → d.still = true → Rp K H' v d
  | _, _, .v x, _ => .v x
  | _, _, .tup h r, q => .tup (e _ _ h) (RpL.stay e r q)
  | _, _, .lst _ _, q => by simp [Dat.still] at q
  | _, _, .obj _ _, q => by simp [Dat.still] at q
theorem RpL.stay {K : PySem.W.Frag} {H H' : Hp} (e : SameT K H H') : ∀ {vs : List V} {ds : List Dat}, RpL K H vs ds → Dat.stills ds = true → RpL K H' vs ds
  | _, _, .nil, _ => .nil
  | _, _, .cons h r, q => by
    have q' := Bool.and_eq_true_iff.mp (show (_ && _) = true from q)
    exact .cons (Rp.stay e h q'.1) (RpL.stay e r q'.2)
end
theorem stills_iff : ∀ {ds : List Dat}, Dat.stills ds = true ↔ ∀ d ∈ ds, d.still = true
  | [] => by simp [Dat.stills]
  | d :: r => by
    have ih := stills_iff (ds := r)
    simp [Dat.stills, ih]

/-! ### lists of data -/
section
variable {K : PySem.W.Frag} {H H' : Hp}
theorem RpL.length : ∀ {vs : List V} {ds : List Dat}, RpL K H vs ds → vs.length = ds.length
  | _, _, .nil => rfl
  | _, _, .cons _ r => congrArg (· + 1) (RpL.length r)
theorem RpL.get : ∀ {vs : List V} {ds : List Dat} {i : Nat} {d : Dat}, RpL K H vs ds → ds[i]? = some d → ∃ v, vs[i]? = some v ∧ Rp K H v d
  | _, _, _, _, .nil, e => by simp at e
  | _, _, 0, _, .cons h _, e => by
    simp at e
    subst e
    exact ⟨_, rfl, h⟩
  | _, _, i + 1, d, .cons _ r, e => by
    obtain ⟨v, h1, h2⟩ := RpL.get (i := i) (d := d) r (by simpa using e)
    exact ⟨v, by simpa using h1, h2⟩
theorem RpL.back : ∀ {vs : List V} {ds : List Dat} {i : Nat} {v : V}, RpL K H vs ds → vs[i]? = some v → ∃ d, ds[i]? = some d ∧ Rp K H v d
  | _, _, _, _, .nil, e => by simp at e
  | _, _, 0, _, .cons h _, e => by
    simp at e
    subst e
    exact ⟨_, rfl, h⟩
  | _, _, i + 1, v, .cons _ r, e => by
    obtain ⟨d, h1, h2⟩ := RpL.back (i := i) (v := v) r (by simpa using e)
    exact ⟨d, by simpa using h1, h2⟩
theorem RpL.append : ∀ {vs ws : List V} {ds es : List Dat}, RpL K H vs ds → RpL K H ws es → RpL K H (vs ++ ws) (ds ++ es)
  | _, _, _, _, .nil, s => s
  | _, _, _, _, .cons h r, s => .cons h (RpL.append r s)
theorem RpL.snoc {vs : List V} {ds : List Dat} {v : V} {d : Dat} (r : RpL K H vs ds) (h : Rp K H v d) : RpL K H (vs ++ [v]) (ds ++ [d]) := r.append (.cons h .nil)
theorem RpL.take : ∀ {vs : List V} {ds : List Dat} (n : Nat), RpL K H vs ds → RpL K H (vs.take n) (ds.take n)
  | _, _, 0, _ => .nil
  | _, _, _ + 1, .nil => .nil
  | _, _, n + 1, .cons h r => .cons h (RpL.take n r)
theorem RpL.drop : ∀ {vs : List V} {ds : List Dat} (n : Nat), RpL K H vs ds → RpL K H (vs.drop n) (ds.drop n)
  | _, _, 0, r => r
  | _, _, _ + 1, .nil => .nil
  | _, _, n + 1, .cons _ r => RpL.drop n r
theorem RpL.set : ∀ {vs : List V} {ds : List Dat} {v : V} {d : Dat} (i : Nat), RpL K H vs ds → Rp K H v d → RpL K H (vs.set i v) (ds.set i d)
  | _, _, _, _, _, .nil, _ => .nil
  | _, _, _, _, 0, .cons _ r, h => .cons h r
  | _, _, _, _, i + 1, .cons h' r, h => .cons h' (RpL.set i r h)
/-- data of scalars -/
abbrev sc {α : Type} (c : α → V) (l : List α) : List Dat := l.map fun x => Dat.v (c x)
theorem rpl_sc {α : Type} (c : α → V) : ∀ (l : List α), RpL K H (l.map c) (sc c l)
  | [] => .nil
  | x :: r => .cons (.v _) (rpl_sc c r)
theorem sc_rpl {α : Type} {c : α → V} : ∀ {l : List α} {vs : List V}, RpL K H vs (sc c l) → vs = l.map c
  | [], _, r => by
    cases r
    rfl
  | x :: l, _, r => by
    cases r with
    | cons h r =>
      cases h
      rw [sc_rpl r]
      rfl
theorem sc_stills {α : Type} (c : α → V) : ∀ (l : List α), Dat.stills (sc c l) = true
  | [] => rfl
  | x :: r => by
    show (Dat.still (.v (c x)) && Dat.stills (sc c r)) = true
    rw [sc_stills c r]
    rfl
theorem Rp.v_eq {x y : V} (h : Rp K H x (.v y)) : x = y := by
  cases h
  rfl
end

/-! ### the names' data -/
inductive Env (K : PySem.W.Frag) (H : Hp) : L2.St → List (Option Dat) → Prop
  | nil : Env K H [] []
  | skip {o : Option V} {σ : L2.St} {ρ : List (Option Dat)} : Env K H σ ρ → Env K H (o :: σ) (none :: ρ)
  | cons {v : V} {d : Dat} {σ : L2.St} {ρ : List (Option Dat)} : Rp K H v d → Env K H σ ρ → Env K H (some v :: σ) (some d :: ρ)
section
variable {K : PySem.W.Frag} {H H' : Hp} {σ : L2.St} {ρ : List (Option Dat)}
theorem Env.mono (e : Same H H') : ∀ {σ : L2.St} {ρ : List (Option Dat)}, Env K H σ ρ → Env K H' σ ρ
  | _, _, .nil => .nil
  | _, _, .skip r => .skip (Env.mono e r)
  | _, _, .cons h r => .cons (h.mono e) (Env.mono e r)
theorem Env.get : ∀ {σ : L2.St} {ρ : List (Option Dat)} {i : Nat} {d : Dat}, Env K H σ ρ → ρ[i]? = some (some d) → ∃ v, σ[i]? = some (some v) ∧ Rp K H v d
  | _, _, _, _, .nil, e => by simp at e
  | _, _, 0, _, .skip _, e => by simp at e
  | _, _, 0, _, .cons h _, e => by
    simp at e
    subst e
    exact ⟨_, rfl, h⟩
  | _, _, i + 1, d, .skip r, e => by
    obtain ⟨v, h1, h2⟩ := Env.get (i := i) (d := d) r (by simpa using e)
    exact ⟨v, by simpa using h1, h2⟩
  | _, _, i + 1, d, .cons _ r, e => by
    obtain ⟨v, h1, h2⟩ := Env.get (i := i) (d := d) r (by simpa using e)
    exact ⟨v, by simpa using h1, h2⟩
theorem Env.set : ∀ {σ : L2.St} {ρ : List (Option Dat)} {v : V} {d : Dat} (i : Nat), Env K H σ ρ → Rp K H v d → Env K H (σ.set i (some v)) (ρ.set i (some d))
  | _, _, _, _, _, .nil, _ => .nil
  | _, _, _, _, 0, .skip r, h => .cons h r
  | _, _, _, _, 0, .cons _ r, h => .cons h r
  | _, _, _, _, i + 1, .skip r, h => .skip (Env.set i r h)
  | _, _, _, _, i + 1, .cons h' r, h => .cons h' (Env.set i r h)
/-- a slot is forgotten, whatever stands there -/
theorem Env.drop : ∀ {σ : L2.St} {ρ : List (Option Dat)} (i : Nat) (o : Option V), Env K H σ ρ → Env K H (σ.set i o) (ρ.set i none)
  | _, _, _, _, .nil => .nil
  | _, _, 0, _, .skip r => .skip r
  | _, _, 0, _, .cons _ r => .skip r
  | _, _, i + 1, o, .skip r => .skip (Env.drop i o r)
  | _, _, i + 1, o, .cons h r => .cons h (Env.drop i o r)
theorem Env.forget : ∀ {σ : L2.St} {ρ : List (Option Dat)} (i : Nat), Env K H σ ρ → Env K H σ (ρ.set i none)
  | _, _, _, .nil => .nil
  | _, _, 0, .skip r => .skip r
  | _, _, 0, .cons _ r => .skip r
  | _, _, i + 1, .skip r => .skip (Env.forget i r)
  | _, _, i + 1, .cons h r => .cons h (Env.forget i r)
theorem env_none : ∀ n : Nat, Env K H (List.replicate n none) (List.replicate n none)
  | 0 => .nil
  | n + 1 => .skip (env_none n)
theorem env_start (k : Nat) : ∀ {vs : List V} {ds : List Dat}, RpL K H vs ds → Env K H (vs.map some ++ List.replicate k none) (ds.map some ++ List.replicate k none)
  | _, _, .nil => env_none k
  | _, _, .cons h r => .cons h (env_start k r)
end
/-- the slots of a def at its entry, as data -/
def begin (N : List Str) (ds : List Dat) : List (Option Dat) := ds.map some ++ List.replicate (N.length - ds.length) none
theorem env_begin {K : PySem.W.Frag} {H : Hp} {N : List Str} {vs : List V} {ds : List Dat} (r : RpL K H vs ds) : Env K H (L2.start N vs) (begin N ds) := by
  unfold L2.start begin
  rw [r.length]
  exact env_start _ r

/-! ### what evaluates to what data -/
def EvD (K : PySem.W.Frag) (te : TE) (ρ : List (Option Dat)) (d : Dat) : Prop :=
  ∀ (σ : L2.St) (H : Hp), Env K H σ ρ → ∀ Q : VK, (∀ v H', Same H H' → Rp K H' v d → Q v H') → te σ H Q
/-- a new list -/
def EvN (K : PySem.W.Frag) (te : TE) (ρ : List (Option Dat)) (ds : List Dat) : Prop :=
  ∀ (σ : L2.St) (H : Hp), Env K H σ ρ → ∀ Q : VK, (∀ p vs H', H p = none → Same H H' → H' p = some (.lst vs) → RpL K H' vs ds → Q (.ref p) H') → te σ H Q
def EvT (K : PySem.W.Frag) (tt : TT) (ρ : List (Option Dat)) (b : Bool) : Prop :=
  ∀ (σ : L2.St) (H : Hp), Env K H σ ρ → ∀ Q : Bool → Hp → Prop, (∀ H', Same H H' → Q b H') → tt σ H Q
def EvA (K : PySem.W.Frag) (ta : TA) (ρ : List (Option Dat)) (ds : List Dat) : Prop :=
  ∀ (σ : L2.St) (H : Hp), Env K H σ ρ → ∀ Q : List V → Hp → Prop, (∀ vs H', Same H H' → RpL K H' vs ds → Q vs H') → ta σ H Q
def EvO (K : PySem.W.Frag) (to : TO) (ρ : List (Option Dat)) (o : Option Int) : Prop :=
  ∀ (σ : L2.St) (H : Hp), Env K H σ ρ → ∀ Q : Option Int → Hp → Prop, (∀ H', Same H H' → Q o H') → to σ H Q
/-- a two-place operation, a call of a built-in, by data -/
def RvD (K : PySem.W.Frag) (r : R2) (a b d : Dat) : Prop :=
  ∀ (x y : V) (H : Hp), Rp K H x a → Rp K H y b → ∀ Q : VK, (∀ v H', Same H H' → Rp K H' v d → Q v H') → r x y H Q
def RvN (K : PySem.W.Frag) (r : R2) (a b : Dat) (ds : List Dat) : Prop :=
  ∀ (x y : V) (H : Hp), Rp K H x a → Rp K H y b → ∀ Q : VK, (∀ p vs H', H p = none → Same H H' → H' p = some (.lst vs) → RpL K H' vs ds → Q (.ref p) H') → r x y H Q
def RcD (K : PySem.W.Frag) (r : List V → Hp → VK → Prop) (as : List Dat) (d : Dat) : Prop :=
  ∀ (xs : List V) (H : Hp), RpL K H xs as → ∀ Q : VK, (∀ v H', Same H H' → Rp K H' v d → Q v H') → r xs H Q
def RcN (K : PySem.W.Frag) (r : List V → Hp → VK → Prop) (as ds : List Dat) : Prop :=
  ∀ (xs : List V) (H : Hp), RpL K H xs as → ∀ Q : VK, (∀ p vs H', H p = none → Same H H' → H' p = some (.lst vs) → RpL K H' vs ds → Q (.ref p) H') → r xs H Q
theorem same_new {H : Hp} {p : Addr} {o : HO} (h : H p = none) : Same H (upd H p o) := fun a u e => by
  rw [upd_ne (ne_of_none e h)]
  exact e
/-- what the view leaves out may turn into anything -/
theorem same_mut {H H' : Hp} {p : Addr} {o : HO} (e : Same H H') (h : H p = none) : Same H (upd H' p o) := fun a u ha => by
  rw [upd_ne (ne_of_none ha h)]
  exact e a u ha
section
variable {K : PySem.W.Frag} {ρ : List (Option Dat)} {ta tb te tx : TE} {tr : TA} {t u : TT} {a b d : Dat} {ds : List Dat} {r : R2}
theorem EvN.toD (h : EvN K te ρ ds) : EvD K te ρ (.lst ds) := fun σ H e Q q => h σ H e Q fun p vs H' _ s hp rp => q _ H' s (.lst hp rp)
theorem EvD.to (h : EvD K te ρ d) (e : d = b) : EvD K te ρ b := e ▸ h
theorem EvT.to {c c' : Bool} (h : EvT K t ρ c) (e : c = c') : EvT K t ρ c' := e ▸ h
theorem ev_var {i : Nat} (h : ρ[i]? = some (some d)) : EvD K (tVar i) ρ d := fun σ H e Q q =>
  let ⟨v, h1, h2⟩ := e.get h
  ⟨v, h1, q v H (Same.refl H) h2⟩
theorem ev_c {x : V} : EvD K (tC x) ρ (.v x) := fun σ H e Q q => q x H (Same.refl H) (.v x)
/-- a written tuple -/
theorem ev_ct {x : Addr} {vs : List V} (h : ∀ H : Hp, SqT K H x vs) (hd : ∀ H : Hp, RpL K H vs ds) : EvD K (tC (.ref x)) ρ (.tup ds) := fun σ H e Q q => q _ H (Same.refl H) (.tup (h H) (hd H))
theorem ev_op (ha : EvD K ta ρ a) (hb : EvD K tb ρ b) (hr : RvD K r a b d) : EvD K (tOp r ta tb) ρ d := fun σ H e Q q =>
  ha σ H e _ fun x H1 s1 r1 => hb σ H1 (e.mono s1) _ fun y H2 s2 r2 => hr x y H2 (r1.mono s2) r2 Q fun v H3 s3 r3 => q v H3 ((s1.trans s2).trans s3) r3
theorem Same.none {H H' : Hp} (e : Same H H') {p : Addr} (h : H' p = none) : H p = none := e.free h
theorem ev_opN (ha : EvD K ta ρ a) (hb : EvD K tb ρ b) (hr : RvN K r a b ds) : EvN K (tOp r ta tb) ρ ds := fun σ H e Q q =>
  ha σ H e _ fun x H1 s1 r1 => hb σ H1 (e.mono s1) _ fun y H2 s2 r2 => hr x y H2 (r1.mono s2) r2 Q fun p vs H3 n3 s3 h3 r3 => q p vs H3 ((s1.trans s2).free n3) ((s1.trans s2).trans s3) h3 r3
theorem ev_nil : EvA K tNil ρ [] := fun σ H e Q q => q [] H (Same.refl H) .nil
theorem ev_cons (ha : EvD K ta ρ a) (hr : EvA K tr ρ ds) : EvA K (tCons ta tr) ρ (a :: ds) := fun σ H e Q q =>
  ha σ H e _ fun x H1 s1 r1 => hr σ H1 (e.mono s1) _ fun xs H2 s2 r2 => q (x :: xs) H2 (s1.trans s2) (.cons (r1.mono s2) r2)
theorem ev_tup (h : EvA K tr ρ ds) (hl : ds.length ≤ 1000 := by exact Nat.le_of_ble_eq_true rfl) : EvD K (tTup tr) ρ (.tup ds) := fun σ H e Q q =>
  h σ H e _ fun xs H1 s1 r1 => ⟨by rw [r1.length]; exact Nat.le_trans hl (by decide), fun p hp => q _ _ (s1.trans (same_new hp)) (.tup (SqT.of upd_same) (r1.mono (same_new hp)))⟩
theorem ev_lst (h : EvA K tr ρ ds) (hl : ds.length ≤ 1000 := by exact Nat.le_of_ble_eq_true rfl) : EvN K (tLst tr) ρ ds := fun σ H e Q q =>
  h σ H e _ fun xs H1 s1 r1 => ⟨by rw [r1.length]; exact Nat.le_trans hl (by decide), fun p hp => q p xs _ (s1.free hp) (s1.trans (same_new hp)) upd_same (r1.mono (same_new hp))⟩
theorem ev_cb {rc : List V → Hp → VK → Prop} (h : EvA K tr ρ ds) (hr : RcD K rc ds d) : EvD K (tCB rc tr) ρ d := fun σ H e Q q =>
  h σ H e _ fun xs H1 s1 r1 => hr xs H1 r1 Q fun v H2 s2 r2 => q v H2 (s1.trans s2) r2
theorem ev_cbN {rc : List V → Hp → VK → Prop} {es : List Dat} (h : EvA K tr ρ es) (hr : RcN K rc es ds) : EvN K (tCB rc tr) ρ ds := fun σ H e Q q =>
  h σ H e _ fun xs H1 s1 r1 => hr xs H1 r1 Q fun p vs H2 n2 s2 h2 r2 => q p vs H2 (s1.free n2) (s1.trans s2) h2 r2
theorem ev_test {c : Bool} (h : EvD K te ρ (.v (.bl c))) : EvT K (tTest te) ρ c := fun σ H e Q q =>
  h σ H e _ fun v H1 s1 r1 => ⟨c, r1.v_eq, q H1 s1⟩
theorem ev_B {c : Bool} (h : EvD K te ρ (.v (.bl c))) : EvT K (tB te) ρ c := fun σ H e Q q =>
  h σ H e _ fun v H1 s1 r1 => ⟨c, r1.v_eq, q H1 s1⟩
theorem ev_not {c : Bool} (h : EvT K t ρ c) : EvT K (tNot t) ρ (!c) := fun σ H e Q q => h σ H e _ fun H1 s1 => q H1 s1
theorem ev_and {c c' : Bool} (h : EvT K t ρ c) (h' : c = true → EvT K u ρ c') : EvT K (tAnd t u) ρ (c && c') := fun σ H e Q q =>
  h σ H e _ fun H1 s1 => by
    cases c with
    | true => exact h' rfl σ H1 (e.mono s1) _ fun H2 s2 => q H2 (s1.trans s2)
    | false => exact q H1 s1
theorem ev_or {c c' : Bool} (h : EvT K t ρ c) (h' : c = false → EvT K u ρ c') : EvT K (tOr t u) ρ (c || c') := fun σ H e Q q =>
  h σ H e _ fun H1 s1 => by
    cases c with
    | true => exact q H1 s1
    | false => exact h' rfl σ H1 (e.mono s1) _ fun H2 s2 => q H2 (s1.trans s2)
theorem ev_andV {c c' : Bool} (h : EvD K ta ρ (.v (.bl c))) (h' : c = true → EvD K tb ρ (.v (.bl c'))) : EvD K (tAndV ta tb) ρ (.v (.bl (c && c'))) := fun σ H e Q q =>
  h σ H e _ fun v H1 s1 r1 => ⟨c, r1.v_eq, by
    cases c with
    | true => exact h' rfl σ H1 (e.mono s1) _ fun v2 H2 s2 r2 => q v2 H2 (s1.trans s2) r2
    | false => exact q _ H1 s1 (.v _)⟩
theorem ev_orV {c c' : Bool} (h : EvD K ta ρ (.v (.bl c))) (h' : c = false → EvD K tb ρ (.v (.bl c'))) : EvD K (tOrV ta tb) ρ (.v (.bl (c || c'))) := fun σ H e Q q =>
  h σ H e _ fun v H1 s1 r1 => ⟨c, r1.v_eq, by
    cases c with
    | true => exact q _ H1 s1 (.v _)
    | false => exact h' rfl σ H1 (e.mono s1) _ fun v2 H2 s2 r2 => q v2 H2 (s1.trans s2) r2⟩
theorem ev_notV {c : Bool} (h : EvD K ta ρ (.v (.bl c))) : EvD K (tNotV ta) ρ (.v (.bl (!c))) := fun σ H e Q q =>
  h σ H e _ fun v H1 s1 r1 => ⟨c, r1.v_eq, q _ H1 s1 (.v _)⟩
theorem ev_if {c : Bool} (h : EvT K t ρ c) (h1 : c = true → EvD K ta ρ d) (h2 : c = false → EvD K tb ρ d) : EvD K (tIf t ta tb) ρ d := fun σ H e Q q =>
  h σ H e _ fun H1 s1 => by
    cases c with
    | true => exact h1 rfl σ H1 (e.mono s1) _ fun v2 H2 s2 r2 => q v2 H2 (s1.trans s2) r2
    | false => exact h2 rfl σ H1 (e.mono s1) _ fun v2 H2 s2 r2 => q v2 H2 (s1.trans s2) r2
theorem ev_ifN {c : Bool} (h : EvT K t ρ c) (h1 : c = true → EvN K ta ρ ds) (h2 : c = false → EvN K tb ρ ds) : EvN K (tIf t ta tb) ρ ds := fun σ H e Q q =>
  h σ H e _ fun H1 s1 => by
    cases c with
    | true => exact h1 rfl σ H1 (e.mono s1) _ fun p vs H2 n2 s2 p2 r2 => q p vs H2 (s1.free n2) (s1.trans s2) p2 r2
    | false => exact h2 rfl σ H1 (e.mono s1) _ fun p vs H2 n2 s2 p2 r2 => q p vs H2 (s1.free n2) (s1.trans s2) p2 r2
theorem ev_oNone : EvO K tNoPart ρ none := fun σ H e Q q => q H (Same.refl H)
theorem ev_oSome {i : Int} (h : EvD K te ρ (.v (.int i))) : EvO K (tPart te) ρ (some i) := fun σ H e Q q =>
  h σ H e _ fun v H1 s1 r1 => ⟨i, r1.v_eq, q H1 s1⟩
theorem RpF.look : ∀ {fs : List (Str × V)} {gs : List (Str × Dat)} {H : Hp} {f : Str} {d : Dat}, RpF K H fs gs → gs.lookup f = some d → ∃ v, fs.lookup f = some v ∧ Rp K H v d
  | _, _, _, _, _, .nil, e => by simp at e
  | _, _, _, f, d, .cons (n := n) h r, e => by
    unfold List.lookup at e ⊢
    cases hn : f == n with
    | true =>
      rw [hn] at e
      simp at e
      subst e
      exact ⟨_, rfl, h⟩
    | false =>
      rw [hn] at e
      simpa using RpF.look r (by simpa using e)
theorem ev_fld {C : Addr} {gs : List (Str × Dat)} {f : Str} (h : EvD K ta ρ (.obj C gs)) (c : Cls K C) (n : NoAttr K C f) (l : gs.lookup f = some d) : EvD K (tFld K ta f) ρ d := fun σ H e Q q =>
  h σ H e _ fun v H1 s1 r1 => by
    cases r1 with
    | obj ho hf =>
      obtain ⟨v, lv, rv⟩ := hf.look l
      exact ⟨_, C, _, _, v, rfl, ho, c, n, lv, q v H1 s1 rv⟩
end
end Tg
end

section
set_option Elab.async false
set_option linter.all false
set_option maxRecDepth 100000
set_option maxHeartbeats 4000000
/-! The operators and built-ins by data. -/
namespace Tg
open PySem PySem.Spec PyProof.Rows L2

/-! ### the operators whatever they are handed: one rule each -/
section
variable {X : Cx}
def rAddS0 : R2 := fun x y H Q => ∃ i j, x = .str i ∧ y = .str j ∧ i.length + j.length ≤ sizeLine ∧ Q (.str (i ++ j)) H
def rPlus (K : PySem.W.Frag) : R2 := fun x y H Q => rI0 (fun i j => .int (i + j)) x y H Q ∨ (rAddS0 x y H Q ∨ (rCat x y H Q ∨ rCatA K x y H Q))
theorem op_plus : OpR X (binaryOp .Add) (rPlus X.K) := OpR.or op_add (OpR.or op_add_str (OpR.or op_cat op_catA))
def rTimes : R2 := fun x y H Q => rI CMul (fun i j => .int (i * j)) x y H Q ∨ rRep x y H Q
theorem op_times : OpR X (binaryOp .Mult) rTimes := OpR.or op_mul op_rep
def rMinus : R2 := rI0 fun i j => .int (i - j)
theorem op_minus : OpR X (binaryOp .Sub) rMinus := op_sub
def rFd : R2 := rI CDiv fun i j => .int (i / j)
theorem op_fd : OpR X (binaryOp .FloorDiv) rFd := op_fdiv
def rMd : R2 := rI (fun _ j => 0 < j) fun i j => .int (i % j)
theorem op_md : OpR X (binaryOp .Mod) rMd := op_mod
def rEqG (K : PySem.W.Frag) : R2 := fun x y H Q => rEq x y H Q ∨ rEqD K x y H Q
theorem op_eqG (hu : X.A.units + 64 < cLine) : OpR X (compareOp .Eq) (rEqG X.K) := OpR.or op_eq (op_eqD hu)
def rNeG (K : PySem.W.Frag) : R2 := fun x y H Q => rNe x y H Q ∨ rNeD K x y H Q
theorem op_neG (hu : X.A.units + 64 < cLine) : OpR X (compareOp .NotEq) (rNeG X.K) := OpR.or op_ne (op_neD hu)
def rInG (K : PySem.W.Frag) : R2 := fun x y H Q => rIn K false x y H Q ∨ rInD K x y H Q
theorem op_inG (hu : X.A.units + 65 < cLine) : OpR X (compareOp .In) (rInG X.K) := OpR.or op_in_seq (op_inD hu)
def rNotInG (K : PySem.W.Frag) : R2 := fun x y H Q => rIn K true x y H Q ∨ rNotInD K x y H Q
theorem op_notInG (hu : X.A.units + 65 < cLine) : OpR X (compareOp .NotIn) (rNotInG X.K) := OpR.or op_notIn_seq (op_notInD hu)
def rLtI : R2 := rI0 fun i j => .bl (decide (i < j))
theorem op_ltI : OpR X (compareOp .Lt) rLtI := op_lt
def rLeI : R2 := rI0 fun i j => .bl (decide (i ≤ j))
theorem op_leI : OpR X (compareOp .LtE) rLeI := op_le
def rGtI : R2 := rI0 fun i j => .bl (decide (j < i))
theorem op_gtI : OpR X (compareOp .Gt) rGtI := op_gt
def rGeI : R2 := rI0 fun i j => .bl (decide (j ≤ i))
theorem op_geI : OpR X (compareOp .GtE) rGeI := op_ge
def rIsNon : R2 := fun x y H Q => y = .non ∧ Q (.bl (decide (x = .non))) H
theorem op_isNon : OpR X (compareOp .Is) rIsNon := op_isN
def rNotNon : R2 := fun x y H Q => y = .non ∧ Q (.bl (!decide (x = .non))) H
theorem op_notNon : OpR X (compareOp .IsNot) rNotNon := op_notN
def rSlG (K : PySem.W.Frag) : V → Option Int → Option Int → Hp → VK → Prop := fun x lo hi H Q => rSlL K x lo hi H Q ∨ rSlA K x lo hi H Q
theorem sl_g : SlR X (rSlG X.K) := SlR.or sl_list sl_tupA
theorem call_lenG : CallR X (.builtin "len") (rLen X.K) := call_len
def rListOf (K : PySem.W.Frag) : List V → Hp → VK → Prop := fun xs H Q => ∃ p ys, xs = [.ref p] ∧ (SqL K H p ys ∨ SqT K H p ys) ∧ ∀ l, H l = none → Q (.ref l) (upd H l (.lst ys))
theorem call_listG : CallR X (.type "list") (rListOf X.K) := call_list_of
def rTupOf (K : PySem.W.Frag) : List V → Hp → VK → Prop := fun xs H Q => ∃ p ys, xs = [.ref p] ∧ ((SqL K H p ys ∧ ∀ l, H l = none → Q (.ref l) (upd H l (.tup ys))) ∨ (SqT K H p ys ∧ Q (.ref p) H))
theorem call_tupG : CallR X (.type "tuple") (rTupOf X.K) := call_tuple_of
def rStrI : List V → Hp → VK → Prop := fun xs H Q => ∃ i, xs = [.int i] ∧ i.natAbs.log2 < 1920 ∧ Q (.str (toString i)) H
theorem call_strI : CallR X (.type "str") rStrI := call_str_int
def rOrd : List V → Hp → VK → Prop := fun xs H Q => ∃ x, xs = [.str x] ∧ x.length = 1 ∧ Q (.int (x.cps.getD 0 0 : Nat)) H
theorem call_ordG : CallR X (.builtin "ord") rOrd := call_ord
/-- what a loop or a comprehension walks: a list or a tuple -/
def iSeq (K : PySem.W.Frag) (tl : TE) : TI := fun σ H R => iList K tl σ H R ∨ iTup K tl σ H R
theorem pi_seq {tg l : Expr} {tl : TE} (hl : PE X l tl) : PI X tg l (iSeq X.K tl) := by
  refine ⟨fun pins s σ H R I h => ?_⟩
  rcases h with h | h
  · exact (pi_list hl).run pins s σ H R I h
  · exact (pi_tup hl).run pins s σ H R I h
end

/-! ### data -/
section
variable {K : PySem.W.Frag} {ρ : List (Option Dat)}
theorem two {x y : V} {H : Hp} {a b : V} (h1 : Rp K H x (.v a)) (h2 : Rp K H y (.v b)) : x = a ∧ y = b := ⟨h1.v_eq, h2.v_eq⟩
theorem rv_I0 {g : Int → Int → V} {i j : Int} : RvD K (rI0 g) (.v (.int i)) (.v (.int j)) (.v (g i j)) := fun x y H h1 h2 Q q => ⟨i, j, h1.v_eq, h2.v_eq, q _ H (Same.refl H) (.v _)⟩
theorem rv_I {C : Int → Int → Prop} {g : Int → Int → V} {i j : Int} (c : C i j) : RvD K (rI C g) (.v (.int i)) (.v (.int j)) (.v (g i j)) := fun x y H h1 h2 Q q => ⟨i, j, h1.v_eq, h2.v_eq, c, q _ H (Same.refl H) (.v _)⟩
theorem rv_plusI {i j : Int} : RvD K (rPlus K) (.v (.int i)) (.v (.int j)) (.v (.int (i + j))) := fun x y H h1 h2 Q q => .inl (rv_I0 (K := K) (g := fun i j => .int (i + j)) x y H h1 h2 Q q)
theorem rv_plusS {i j : Str} (h : i.length + j.length ≤ 10000) : RvD K (rPlus K) (.v (.str i)) (.v (.str j)) (.v (.str (i ++ j))) := fun x y H h1 h2 Q q =>
  .inr (.inl ⟨i, j, h1.v_eq, h2.v_eq, Nat.le_trans h (by decide), q _ H (Same.refl H) (.v _)⟩)
theorem rv_plusL {ds es : List Dat} (h : ds.length + es.length ≤ sizeLine) : RvN K (rPlus K) (.lst ds) (.lst es) (ds ++ es) := fun x y H h1 h2 Q q => by
  cases h1 with
  | lst a1 r1 =>
    cases h2 with
    | lst a2 r2 =>
      refine .inr (.inr (.inl ⟨_, _, _, _, rfl, rfl, a1, a2, by rw [r1.length, r2.length]; exact h, fun p hp => ?_⟩))
      exact q p _ _ hp (same_new hp) upd_same ((r1.append r2).mono (same_new hp))
theorem rv_plusT {ds es : List Dat} (h : ds.length + es.length ≤ sizeLine) : RvD K (rPlus K) (.tup ds) (.tup es) (.tup (ds ++ es)) := fun x y H h1 h2 Q q => by
  cases h1 with
  | tup a1 r1 =>
    cases h2 with
    | tup a2 r2 =>
      rename_i a xs b ys
      refine .inr (.inr (.inr ⟨_, _, _, _, rfl, rfl, a1, a2, by rw [r1.length, r2.length]; exact h, fun e => ?_, fun _ e => ?_, fun _ _ p hp => ?_⟩))
      · subst e
        cases r1
        exact q _ H (Same.refl H) (.tup a2 r2)
      · subst e
        cases r2
        rw [List.append_nil] at q
        exact q _ H (Same.refl H) (.tup a1 r1)
      · exact q _ _ (same_new hp) (.tup (SqT.of upd_same) ((r1.append r2).mono (same_new hp)))
theorem rv_minus {i j : Int} : RvD K rMinus (.v (.int i)) (.v (.int j)) (.v (.int (i - j))) := rv_I0
theorem rv_fd {i j : Int} (h : 0 < j ∧ j < 1073741824) : RvD K rFd (.v (.int i)) (.v (.int j)) (.v (.int (i / j))) := rv_I h
theorem rv_md {i j : Int} (h : 0 < j) : RvD K rMd (.v (.int i)) (.v (.int j)) (.v (.int (i % j))) := rv_I (C := fun _ j => 0 < j) h
theorem rv_timesI {i j : Int} (h : -(2 ^ 64) < i ∧ i < 2 ^ 64) : RvD K rTimes (.v (.int i)) (.v (.int j)) (.v (.int (i * j))) := fun x y H h1 h2 Q q => .inl ⟨i, j, h1.v_eq, h2.v_eq, .inl h, q _ H (Same.refl H) (.v _)⟩
theorem rpl_flat {H : Hp} {vs : List V} {ds : List Dat} (r : RpL K H vs ds) : ∀ n : Nat, RpL K H (List.replicate n vs).flatten (List.replicate n ds).flatten
  | 0 => .nil
  | n + 1 => by
    rw [List.replicate_succ, List.replicate_succ, List.flatten_cons, List.flatten_cons]
    exact r.append (rpl_flat r n)
theorem rv_timesL {ds : List Dat} {n : Int} (h : 0 ≤ n ∧ n ≤ 1000) (hd : ds.length ≤ 1000) : RvN K rTimes (.lst ds) (.v (.int n)) (List.replicate n.toNat ds).flatten := fun x y H h1 h2 Q q => by
  cases h1 with
  | lst a1 r1 =>
    have hz : ds.length * n.toNat ≤ sizeLine := Nat.le_trans (Nat.mul_le_mul hd (show n.toNat ≤ 1000 by omega)) (by decide)
    refine .inr ⟨_, n, _, rfl, h2.v_eq, a1, by omega, by omega, by rw [r1.length]; exact hz, fun p hp => ?_⟩
    exact q p _ _ hp (same_new hp) upd_same ((rpl_flat r1 _).mono (same_new hp))
theorem rv_eqI {i j : Int} : RvD K (rEqG K) (.v (.int i)) (.v (.int j)) (.v (.bl (decide (i = j)))) := fun x y H h1 h2 Q q => .inl (by
  obtain ⟨rfl, rfl⟩ := two h1 h2
  refine ⟨rfl, ?_⟩
  have e : decide (V.int i = V.int j) = decide (i = j) := by
    by_cases c : i = j
    · subst c
      simp
    · rw [decide_eq_false c]
      exact decide_eq_false fun z => c (by cases z; rfl)
  rw [e]
  exact q _ H (Same.refl H) (.v _))
theorem rv_neI {i j : Int} : RvD K (rNeG K) (.v (.int i)) (.v (.int j)) (.v (.bl (!decide (i = j)))) := fun x y H h1 h2 Q q => .inl (by
  obtain ⟨rfl, rfl⟩ := two h1 h2
  refine ⟨rfl, ?_⟩
  have e : decide (V.int i = V.int j) = decide (i = j) := by
    by_cases c : i = j
    · subst c
      simp
    · rw [decide_eq_false c]
      exact decide_eq_false fun z => c (by cases z; rfl)
  rw [e]
  exact q _ H (Same.refl H) (.v _))
theorem rv_lt {i j : Int} : RvD K rLtI (.v (.int i)) (.v (.int j)) (.v (.bl (decide (i < j)))) := rv_I0
theorem rv_le {i j : Int} : RvD K rLeI (.v (.int i)) (.v (.int j)) (.v (.bl (decide (i ≤ j)))) := rv_I0
theorem rv_gt {i j : Int} : RvD K rGtI (.v (.int i)) (.v (.int j)) (.v (.bl (decide (j < i)))) := rv_I0
theorem rv_ge {i j : Int} : RvD K rGeI (.v (.int i)) (.v (.int j)) (.v (.bl (decide (j ≤ i)))) := rv_I0
theorem rv_isNon {a : V} : RvD K rIsNon (.v a) (.v .non) (.v (.bl (decide (a = .non)))) := fun x y H h1 h2 Q q => by
  obtain ⟨rfl, rfl⟩ := two h1 h2
  exact ⟨rfl, q _ H (Same.refl H) (.v _)⟩
theorem rv_isNonT {ds : List Dat} : RvD K rIsNon (.tup ds) (.v .non) (.v (.bl false)) := fun x y H h1 h2 Q q => by
  cases h1
  exact ⟨h2.v_eq, q _ H (Same.refl H) (.v _)⟩
theorem rv_notNon {a : V} : RvD K rNotNon (.v a) (.v .non) (.v (.bl (!decide (a = .non)))) := fun x y H h1 h2 Q q => by
  obtain ⟨rfl, rfl⟩ := two h1 h2
  exact ⟨rfl, q _ H (Same.refl H) (.v _)⟩
theorem rv_notNonT {ds : List Dat} : RvD K rNotNon (.tup ds) (.v .non) (.v (.bl true)) := fun x y H h1 h2 Q q => by
  cases h1
  exact ⟨h2.v_eq, q _ H (Same.refl H) (.v _)⟩
theorem ev_chain {ta tb tc : TE} {a b c : Dat} {r r' : R2} {k k' : Bool} (ha : EvD K ta ρ a) (hb : EvD K tb ρ b) (hc : EvD K tc ρ c) (h : RvD K r a b (.v (.bl k))) (h' : RvD K r' b c (.v (.bl k'))) :
    EvD K (tChain r r' ta tb tc) ρ (.v (.bl (k && k'))) := fun σ H e Q q =>
  ha σ H e _ fun x H1 s1 r1 => hb σ H1 (e.mono s1) _ fun y H2 s2 r2 => h x y H2 (r1.mono s2) r2 _ fun z H3 s3 r3 => ⟨k, r3.v_eq, by
    cases k with
    | true =>
      exact hc σ H3 (e.mono ((s1.trans s2).trans s3)) _ fun w H4 s4 r4 => h' y w H4 (r2.mono (s3.trans s4)) r4 Q fun v H5 s5 r5 => q v H5 ((((s1.trans s2).trans s3).trans s4).trans s5) r5
    | false => exact q _ H3 ((s1.trans s2).trans s3) (.v _)⟩
/-! ### items -/
theorem atI_rpl {H : Hp} {vs : List V} {ds : List Dat} {i : Nat} {d : Dat} (r : RpL K H vs ds) (h : ds[i]? = some d) : ∃ v, atI vs (i : Int) = some v ∧ Rp K H v d :=
  let ⟨v, h1, h2⟩ := r.get h
  ⟨v, atI_nat h1, h2⟩
theorem rv_ixL {ds : List Dat} {i : Int} {d : Dat} (h0 : 0 ≤ i) (h : ds[i.toNat]? = some d) : RvD K (rIx K) (.lst ds) (.v (.int i)) d := fun x y H h1 h2 Q q => by
  cases h1 with
  | lst a1 r1 =>
    obtain ⟨v, e, r⟩ := atI_rpl r1 h
    rw [Int.toNat_of_nonneg h0] at e
    exact .inl ⟨_, _, _, v, rfl, h2.v_eq, SqL.of a1, e, q v H (Same.refl H) r⟩
theorem rv_ixT {ds : List Dat} {i : Int} {d : Dat} (h0 : 0 ≤ i) (h : ds[i.toNat]? = some d) : RvD K (rIx K) (.tup ds) (.v (.int i)) d := fun x y H h1 h2 Q q => by
  cases h1 with
  | tup a1 r1 =>
    obtain ⟨v, e, r⟩ := atI_rpl r1 h
    rw [Int.toNat_of_nonneg h0] at e
    exact .inr (.inl ⟨_, _, _, v, rfl, h2.v_eq, a1, e, q v H (Same.refl H) r⟩)
/-! ### slices -/
theorem rpl_cut {H : Hp} {vs : List V} {ds : List Dat} (r : RpL K H vs ds) (a b : Nat) : RpL K H ((vs.drop a).take b) ((ds.drop a).take b) := (r.drop a).take b
/-- the items of a slice, as data -/
def cutD (ds : List Dat) (lo hi : Option Int) : List Dat := (ds.drop (HT.sIx ds.length 0 lo)).take (HT.sIx ds.length ds.length hi - HT.sIx ds.length 0 lo)
theorem rpl_cutD {H : Hp} {vs : List V} {ds : List Dat} (r : RpL K H vs ds) (lo hi : Option Int) : RpL K H (cutV vs lo hi) (cutD ds lo hi) := by
  unfold cutV cutD
  rw [r.length]
  exact rpl_cut r _ _
theorem ev_slT {te : TE} {tl th : TO} {ds : List Dat} {lo hi : Option Int} (h : EvD K te ρ (.tup ds)) (h1 : EvO K tl ρ lo) (h2 : EvO K th ρ hi) : EvD K (tSl (rSlG K) te tl th) ρ (.tup (cutD ds lo hi)) := fun σ H e Q q =>
  h σ H e _ fun x H1 s1 r1 => h1 σ H1 (e.mono s1) _ fun H2 s2 => h2 σ H2 (e.mono (s1.trans s2)) _ fun H3 s3 => by
    have r3 := r1.mono (s2.trans s3)
    cases r3 with
    | tup a3 r3 =>
      rename_i a xs
      refine .inr ⟨_, _, rfl, a3, fun w => ?_, fun _ p hp => ?_⟩
      · have z : cutD ds lo hi = ds := by
          unfold cutD
          rw [r3.length] at w
          rw [w.1, w.2, List.drop_zero, Nat.sub_zero, List.take_length]
        rw [z] at q
        exact q _ H3 ((s1.trans s2).trans s3) (.tup a3 r3)
      · exact q _ _ (((s1.trans s2).trans s3).trans (same_new hp)) (.tup (SqT.of upd_same) ((rpl_cutD r3 lo hi).mono (same_new hp)))
theorem ev_slL {te : TE} {tl th : TO} {ds : List Dat} {lo hi : Option Int} (h : EvD K te ρ (.lst ds)) (h1 : EvO K tl ρ lo) (h2 : EvO K th ρ hi) : EvN K (tSl (rSlG K) te tl th) ρ (cutD ds lo hi) := fun σ H e Q q =>
  h σ H e _ fun x H1 s1 r1 => h1 σ H1 (e.mono s1) _ fun H2 s2 => h2 σ H2 (e.mono (s1.trans s2)) _ fun H3 s3 => by
    have r3 := r1.mono (s2.trans s3)
    cases r3 with
    | lst a3 r3 =>
      exact .inl ⟨_, _, rfl, SqL.of a3, fun p hp => q p _ _ (((s1.trans s2).trans s3).free hp) (((s1.trans s2).trans s3).trans (same_new hp)) upd_same ((rpl_cutD r3 lo hi).mono (same_new hp))⟩
/-! ### built-ins -/
theorem rc_lenL {ds : List Dat} : RcD K (rLen K) [.lst ds] (.v (.int ds.length)) := fun xs H h Q q => by
  cases h with
  | cons h1 h2 =>
    cases h2
    cases h1 with
    | lst a1 r1 => exact ⟨_, ds.length, rfl, .inl ⟨_, SqL.of a1, r1.length.symm⟩, q _ H (Same.refl H) (.v _)⟩
theorem rc_lenT {ds : List Dat} : RcD K (rLen K) [.tup ds] (.v (.int ds.length)) := fun xs H h Q q => by
  cases h with
  | cons h1 h2 =>
    cases h2
    cases h1 with
    | tup a1 r1 => exact ⟨_, ds.length, rfl, .inr ⟨_, a1, r1.length.symm⟩, q _ H (Same.refl H) (.v _)⟩
theorem rc_listT {ds : List Dat} : RcN K (rListOf K) [.tup ds] ds := fun xs H h Q q => by
  cases h with
  | cons h1 h2 =>
    cases h2
    cases h1 with
    | tup a1 r1 => exact ⟨_, _, rfl, .inr a1, fun p hp => q p _ _ hp (same_new hp) upd_same (r1.mono (same_new hp))⟩
theorem rc_listL {ds : List Dat} : RcN K (rListOf K) [.lst ds] ds := fun xs H h Q q => by
  cases h with
  | cons h1 h2 =>
    cases h2
    cases h1 with
    | lst a1 r1 => exact ⟨_, _, rfl, .inl (SqL.of a1), fun p hp => q p _ _ hp (same_new hp) upd_same (r1.mono (same_new hp))⟩
theorem rc_tupT {ds : List Dat} : RcD K (rTupOf K) [.tup ds] (.tup ds) := fun xs H h Q q => by
  cases h with
  | cons h1 h2 =>
    cases h2
    cases h1 with
    | tup a1 r1 => exact ⟨_, _, rfl, .inr ⟨a1, q _ H (Same.refl H) (.tup a1 r1)⟩⟩
theorem rc_tupL {ds : List Dat} : RcD K (rTupOf K) [.lst ds] (.tup ds) := fun xs H h Q q => by
  cases h with
  | cons h1 h2 =>
    cases h2
    cases h1 with
    | lst a1 r1 => exact ⟨_, _, rfl, .inl ⟨SqL.of a1, fun p hp => q _ _ (same_new hp) (.tup (SqT.of upd_same) (r1.mono (same_new hp)))⟩⟩
theorem rc_all {bs : List Bool} : RcD K (rAll K) [.lst (sc V.bl bs)] (.v (.bl (bs.all id))) := fun xs H h Q q => by
  cases h with
  | cons h1 h2 =>
    cases h2
    cases h1 with
    | lst a1 r1 =>
      rw [sc_rpl r1] at a1
      exact ⟨_, bs, rfl, SqL.of a1, q _ H (Same.refl H) (.v _)⟩
theorem rc_any {bs : List Bool} : RcD K (rAny K) [.lst (sc V.bl bs)] (.v (.bl (bs.any id))) := fun xs H h Q q => by
  cases h with
  | cons h1 h2 =>
    cases h2
    cases h1 with
    | lst a1 r1 =>
      rw [sc_rpl r1] at a1
      exact ⟨_, bs, rfl, SqL.of a1, q _ H (Same.refl H) (.v _)⟩
theorem rc_sum {ns : List Int} : RcD K (rSum K) [.lst (sc V.int ns)] (.v (.int ns.sum)) := fun xs H h Q q => by
  cases h with
  | cons h1 h2 =>
    cases h2
    cases h1 with
    | lst a1 r1 =>
      rw [sc_rpl r1] at a1
      exact ⟨_, ns, rfl, SqL.of a1, q _ H (Same.refl H) (.v _)⟩
theorem rc_one {a : V} {H : Hp} {xs : List V} (h : RpL K H xs [.v a]) : xs = [a] := by
  cases h with
  | cons h1 h2 =>
    cases h2
    rw [h1.v_eq]
theorem rc_strI {i : Int} (h : i.natAbs.log2 < 1920) : RcD K rStrI [.v (.int i)] (.v (.str (toString i))) := fun xs H hx Q q => ⟨i, rc_one hx, h, q _ H (Same.refl H) (.v _)⟩
theorem rc_ord {c : Nat} : RcD K rOrd [.v (.str ⟨#[c]⟩)] (.v (.int c)) := fun xs H hx Q q => ⟨_, rc_one hx, rfl, q _ H (Same.refl H) (.v _)⟩
end

/-! ### a comprehension whose name is slot j -/
section
variable {K : PySem.W.Frag} {ρ : List (Option Dat)}
theorem wipe_one (σ : L2.St) (j : Nat) (o : Option V) : wipe ((wipe σ [j]).set j o) [j] = wipe σ [j] := by
  show ((σ.set j none).set j o).set j none = σ.set j none
  rw [List.set_set, List.set_set]
theorem env_wipe {H : Hp} {σ : L2.St} {j : Nat} {v : V} {d : Dat} (e : Env K H σ ρ) (h : Rp K H v d) : Env K H ((wipe σ [j]).set j (some v)) (ρ.set j (some d)) := by
  show Env K H ((σ.set j none).set j (some v)) (ρ.set j (some d))
  rw [List.set_set]
  exact e.set j h
/-- what has come to the new list at D behind i turns -/
structure Got (K : PySem.W.Frag) (H : Hp) (D : Addr) (ds : List Dat) (H' : Hp) : Prop where
  new : H D = none
  same : Same H H'
  at_ : ∃ vs, H' D = some (.lst vs) ∧ RpL K H' vs ds
theorem Got.zero {H : Hp} {D : Addr} (h : H D = none) : Got K H D [] (upd H D (.lst [])) := ⟨h, same_new h, [], upd_same, .nil⟩
theorem Got.more {H H' H2 : Hp} {D : Addr} {ds : List Dat} {v : V} {d : Dat} (g : Got K H D ds H') (st : Dat.stills ds = true) (sd : d.still = true) (s : Same H' H2) (r : Rp K H2 v d) :
    ∃ acc, H2 D = some (.lst acc) ∧ acc.length = ds.length ∧ Got K H D (ds ++ [d]) (upd H2 D (.lst (acc ++ [v]))) := by
  obtain ⟨vs, h1, h2⟩ := g.at_
  have h3 := s _ _ h1
  refine ⟨vs, h3, h2.length, g.new, same_mut (g.same.trans s) g.new, _, upd_same, ?_⟩
  exact ((h2.mono s).stay (SameT.lst h3) st).snoc (r.stay (SameT.lst h3) sd)
theorem Got.skip {H H' H2 : Hp} {D : Addr} {ds : List Dat} (g : Got K H D ds H') (s : Same H' H2) : Got K H D ds H2 := by
  obtain ⟨vs, h1, h2⟩ := g.at_
  exact ⟨g.new, g.same.trans s, vs, s _ _ h1, h2.mono s⟩
variable {α : Type}
/-- the turns of a comprehension over the items l, their data c, kept where f says, giving e -/
theorem comp_turn {tt : TT} {te : TE} {j : Nat} {l : List α} {f : α → Bool} {e : α → Dat} {c : α → Dat} {σ : L2.St} {H H' : Hp} {D : Addr} {i : Nat} {x : α} {v : V} (hx : l[i]? = some x) (hl : l.length ≤ 1000000) (en : Env K H σ ρ) (rv : Rp K H' v (c x))
    (g : Got K H D (((l.take i).filter f).map e) H') (he : ∀ x ∈ l, (e x).still = true) (ht : EvT K tt (ρ.set j (some (c x))) (f x)) (hv : f x = true → EvD K te (ρ.set j (some (c x))) (e x)) :
    gName j v (wipe σ [j]) H' fun σ2 H2 => wipe σ2 [j] = wipe σ [j] ∧ tt σ2 H2 fun b H3 => if b = true then te σ2 H3 fun y H4 => ∃ acc, H4 D = some (.lst acc) ∧ acc.length < sizeLine ∧ Got K H D (((l.take (i + 1)).filter f).map e) (upd H4 D (.lst (acc ++ [y])))
      else Got K H D (((l.take (i + 1)).filter f).map e) H3 := by
  have tk : l.take (i + 1) = l.take i ++ [x] := by rw [List.take_add_one, hx] <;> rfl
  have mem : x ∈ l := List.mem_of_getElem? hx
  have en' := env_wipe (j := j) (en.mono g.same) rv
  refine ⟨wipe_one _ _ _, ht _ _ en' _ fun H3 s3 => ?_⟩
  cases hf : f x with
  | true =>
    rw [if_pos rfl]
    refine hv hf _ _ (en'.mono s3) _ fun y H4 s4 r4 => ?_
    have st : Dat.stills (((l.take i).filter f).map e) = true := stills_iff.mpr fun d hd => by
      obtain ⟨z, hz, rfl⟩ := List.mem_map.mp hd
      exact he z (List.mem_of_mem_take (List.mem_filter.mp hz).1)
    obtain ⟨acc, h1, h2, h3⟩ := g.more st (he x mem) (s3.trans s4) r4
    refine ⟨acc, h1, ?_, ?_⟩
    · have q : acc.length ≤ i := by
        rw [h2, List.length_map]
        exact Nat.le_trans (List.length_filter_le _ _) (by rw [List.length_take]; omega)
      have hi : i < l.length := by
        have := List.getElem?_eq_some_iff.mp hx
        exact this.1
      exact Nat.lt_of_lt_of_le (show acc.length < 1000001 by omega) (by decide)
    · rw [tk, List.filter_append, List.map_append]
      have z : ([x].filter f).map e = [e x] := by simp [List.filter, hf]
      rw [z]
      exact h3
  | false =>
    rw [if_neg (by decide)]
    have z : ((l.take (i + 1)).filter f).map e = ((l.take i).filter f).map e := by
      rw [tk, List.filter_append, List.map_append]
      simp [List.filter, hf]
    rw [z]
    exact g.skip s3
theorem fin_got {l : List α} {f : α → Bool} {e : α → Dat} {H H' : Hp} {D : Addr} {n : Nat} (hn : n = l.length) (g : Got K H D (((l.take n).filter f).map e) H') {Q : VK} (q : ∀ p vs H', H p = none → Same H H' → H' p = some (.lst vs) → RpL K H' vs ((l.filter f).map e) → Q (.ref p) H') : Q (.ref D) H' := by
  subst hn
  rw [List.take_length] at g
  obtain ⟨vs, h1, h2⟩ := g.at_
  exact q D vs H' g.new g.same h1 h2
/-- over a list or a tuple -/
theorem ev_lcL {tl te : TE} {tt : TT} {j : Nat} {l : List α} (c : α → Dat) (f : α → Bool) (e : α → Dat) (h : EvD K tl ρ (.lst (l.map c))) (hl : l.length ≤ 1000000) (he : ∀ x ∈ l, (e x).still = true)
    (ht : ∀ x ∈ l, EvT K tt (ρ.set j (some (c x))) (f x)) (hv : ∀ x ∈ l, f x = true → EvD K te (ρ.set j (some (c x))) (e x)) : EvN K (tLc (iSeq K tl) (gName j) tt te [j]) ρ ((l.filter f).map e) := fun σ H en Q q => by
  refine .inl (h σ H en _ fun v H1 s1 r1 => ?_)
  cases r1 with
  | lst a1 r1 =>
    rename_i a xs
    refine ⟨a, rfl, ⟨_, SqL.of a1⟩, fun D hD => ?_⟩
    refine lc_list (K := K) (a := a) (xs := xs) (fun i H' => Got K H1 D (((l.take i).filter f).map e) H') (by simpa using Got.zero hD) (fun i H' _ g => SqL.of (g.same _ _ a1)) (fun i x H' hx g => ?_) fun H' g => ?_
    · obtain ⟨d, hd, rd⟩ := r1.back hx
      rw [List.getElem?_map] at hd
      cases hz : l[i]? with
      | none =>
        rw [hz] at hd
        cases hd
      | some z =>
        rw [hz] at hd
        cases hd
        exact comp_turn hz hl (en.mono s1) (rd.mono g.same) g he (ht z (List.mem_of_getElem? hz)) (hv z (List.mem_of_getElem? hz))
    · exact fin_got (by rw [r1.length, List.length_map]) g fun p vs H2 n s hp rp => q p vs H2 (s1.free n) (s1.trans s) hp rp
theorem ev_lcT {tl te : TE} {tt : TT} {j : Nat} {l : List α} (c : α → Dat) (f : α → Bool) (e : α → Dat) (h : EvD K tl ρ (.tup (l.map c))) (hl : l.length ≤ 1000000) (he : ∀ x ∈ l, (e x).still = true)
    (ht : ∀ x ∈ l, EvT K tt (ρ.set j (some (c x))) (f x)) (hv : ∀ x ∈ l, f x = true → EvD K te (ρ.set j (some (c x))) (e x)) : EvN K (tLc (iSeq K tl) (gName j) tt te [j]) ρ ((l.filter f).map e) := fun σ H en Q q => by
  refine .inr (h σ H en _ fun v H1 s1 r1 => ?_)
  cases r1 with
  | tup a1 r1 =>
    rename_i a xs
    refine ⟨a, rfl, ⟨_, a1⟩, fun D hD => ?_⟩
    refine lc_tup (K := K) (a := a) (xs := xs) (fun i H' => Got K H1 D (((l.take i).filter f).map e) H') (by simpa using Got.zero hD) (fun i H' _ g => same_t g.same a1) (fun i x H' hx g => ?_) fun H' g => ?_
    · obtain ⟨d, hd, rd⟩ := r1.back hx
      rw [List.getElem?_map] at hd
      cases hz : l[i]? with
      | none =>
        rw [hz] at hd
        cases hd
      | some z =>
        rw [hz] at hd
        cases hd
        exact comp_turn hz hl (en.mono s1) (rd.mono g.same) g he (ht z (List.mem_of_getElem? hz)) (hv z (List.mem_of_getElem? hz))
    · exact fin_got (by rw [r1.length, List.length_map]) g fun p vs H2 n s hp rp => q p vs H2 (s1.free n) (s1.trans s) hp rp
/-- over range(n) -/
theorem ev_lcR {ta : TA} {te : TE} {tt : TT} {j : Nat} (n : Nat) (f : Nat → Bool) (e : Nat → Dat) (h : EvA K ta ρ [.v (.int n)]) (hl : n ≤ 1000000) (he : ∀ x, x < n → (e x).still = true)
    (ht : ∀ x, x < n → EvT K tt (ρ.set j (some (.v (.int (x : Nat))))) (f x)) (hv : ∀ x, x < n → f x = true → EvD K te (ρ.set j (some (.v (.int (x : Nat))))) (e x)) : EvN K (tLc (iRng1 ta) (gName j) tt te [j]) ρ (((List.range n).filter f).map e) := fun σ H en Q q => by
  refine h σ H en _ fun vs H1 s1 r1 => ?_
  refine ⟨n, rc_one r1, by omega, by omega, fun D hD => ?_⟩
  have e0 : ((n : Nat) : Int).toNat = n := by omega
  rw [e0]
  refine lc_range (lo := 0) (n := n) (fun i H' => Got K H1 D ((((List.range n).take i).filter f).map e) H') (by simpa using Got.zero hD) (fun i H' hi g => ?_) fun H' g => ?_
  · have hz : (List.range n)[i]? = some i := by simp [hi]
    have z : (0 : Int) + (i : Int) = ((i : Nat) : Int) := by omega
    rw [z]
    exact comp_turn (c := fun x => .v (.int (x : Nat))) hz (by simpa using hl) (en.mono s1) (.v _) g (fun x hx => he x (List.mem_range.mp hx)) (ht i hi) (hv i hi)
  · exact fin_got (by simp) g fun p vs H2 n s hp rp => q p vs H2 (s1.free n) (s1.trans s) hp rp
/-- over a text's signs -/
theorem ev_lcS {tl te : TE} {tt : TT} {j : Nat} (z : Str) (f : Nat → Bool) (e : Nat → Dat) (h : EvD K tl ρ (.v (.str z))) (hl : z.cps.size ≤ 1000000) (he : ∀ x, (e x).still = true)
    (ht : ∀ x, EvT K tt (ρ.set j (some (.v (.str ⟨#[x]⟩)))) (f x)) (hv : ∀ x, f x = true → EvD K te (ρ.set j (some (.v (.str ⟨#[x]⟩)))) (e x)) : EvN K (tLc (iStr tl) (gName j) tt te [j]) ρ ((z.cps.toList.filter f).map e) := fun σ H en Q q => by
  refine h σ H en _ fun v H1 s1 r1 => ?_
  refine ⟨z, r1.v_eq, fun D hD => ?_⟩
  refine ⟨fun i m H' => m = z.cps.size - i ∧ i ≤ z.cps.size ∧ Got K H1 D (((z.cps.toList.take i).filter f).map e) H', ⟨z.cps.size, by simp, Nat.zero_le _, by simpa using Got.zero hD⟩, ?_⟩
  rintro i m H' ⟨rfl, hi, g⟩
  by_cases hlt : i < z.cps.size
  · refine .inr ⟨hlt, fun H' => Got K H1 D (((z.cps.toList.take (i + 1)).filter f).map e) H', fun H2 g2 => ⟨z.cps.size - (i + 1), by omega, rfl, hlt, g2⟩, fun x H2 y => ?_⟩
    obtain ⟨rfl, c, hc, rfl⟩ := y
    have hc' : z.cps.toList[i]? = some c := by simpa using hc
    exact comp_turn (c := fun x => .v (.str ⟨#[x]⟩)) hc' (by simpa using hl) (en.mono s1) (.v _) g (fun x _ => he x) (ht c) (hv c)
  · have ei : i = z.cps.size := by omega
    subst ei
    exact .inl ⟨Nat.le_refl _, fin_got (by simp) g fun p vs H2 n s hp rp => q p vs H2 (s1.free n) (s1.trans s) hp rp⟩
end

/-! ### promises of defs by data -/
/-- nothing raised, nothing changed: from such data to such data -/
def PureSp (K : PySem.W.Frag) (R : List Dat → Dat → Prop) : Sp := fun vs H Q _ => ∃ ds d, RpL K H vs ds ∧ R ds d ∧ ∀ v H', Same H H' → Rp K H' v d → Q v H'
/-- .. to a new list -/
def NewSp (K : PySem.W.Frag) (R : List Dat → List Dat → Prop) : Sp := fun vs H Q _ => ∃ ds es, RpL K H vs ds ∧ R ds es ∧ ∀ p ws H', H p = none → Same H H' → H' p = some (.lst ws) → RpL K H' ws es → Q (.ref p) H'
section
variable {K : PySem.W.Frag} {ρ : List (Option Dat)} {ta : TA} {ds es : List Dat} {d : Dat} {E : XK}
theorem ev_call {R : List Dat → Dat → Prop} (h : EvA K ta ρ ds) (r : R ds d) : EvD K (tCall (PureSp K R) [] E ta) ρ d := fun σ H e Q q =>
  h σ H e _ fun vs H1 s1 r1 => by
    rw [List.append_nil]
    exact ⟨ds, d, r1, r, fun v H2 s2 r2 => q v H2 (s1.trans s2) r2⟩
theorem ev_callN {R : List Dat → List Dat → Prop} (h : EvA K ta ρ ds) (r : R ds es) : EvN K (tCall (NewSp K R) [] E ta) ρ es := fun σ H e Q q =>
  h σ H e _ fun vs H1 s1 r1 => by
    rw [List.append_nil]
    exact ⟨ds, es, r1, r, fun p ws H2 n2 s2 h2 r2 => q p ws H2 (s1.free n2) (s1.trans s2) h2 r2⟩
end
end Tg
end

section
set_option Elab.async false
set_option linter.all false
set_option maxRecDepth 100000
set_option maxHeartbeats 4000000
/-! Rules that the layer lacks: extend by a tuple, len(set(..)) with equal items; calls of own defs by bundles. -/
namespace Tg
open PySem PySem.Spec PyProof.Rows L2

/-! ### xs.extend(t), t a tuple -/
theorem extend_tup (p : Addr) (xs : Array Value) (m : Nat) (q : Addr) (ys : Array Value) (k : Nat) (dq : Option Addr) (sq : Array (Option Value))
    (hs : ¬(!xs.isEmpty && Builtin.List.listTooLong (xs.size + ys.size)) = true) (h1 : xs.size ≤ sizeLine) (h2 : xs.size + ys.size ≤ sizeLine + 1) :
    Meets (Builtin.«list.extend» ⟨[.ref p, .ref q], []⟩) (fun _ R s => s.heap.get? p = some { cls := .type "list", dict := none, data := .seq xs m, slots := #[] } ∧
      s.heap.get? q = some { cls := .type "tuple", dict := dq, data := .seq ys k, slots := sq } ∧
      R (.ok (.ret Value.none)) { s with heap := s.heap.update p (Obj.mapSeq fun z => z ++ ys), toks := s.toks }) :=
  .of_wp fun prog w A R s h => by
    obtain ⟨hp, gg, dd, tt, oo⟩ := s
    obtain ⟨hl, hb, h⟩ := h
    have f1 := AutoSeq1.idx_int
    have f2 := AutoSeq1.sub_tuple_tuple
    have f3 := AutoSeq1.sub_list_list
    have f4 := AutoSeq1.sub_tuple_list
    have f5 := AutoSeq1.sub_list_tuple
    have hz : (xs ++ ys).size ≤ sizeLine + 1 := by rw [Array.size_append]; exact h2
    wp_walk using (wpAny_updateSeq hl rfl (hz := h1) (_hz' := hz)), AutoSeq1.wpAny_loadPart' hl, AutoSeq1.wpAny_loadPart' hb
    exact ⟨_, rfl, h⟩
section
variable {X : Cx}
def rExtT (K : PySem.W.Frag) : V → List V → Hp → VK → Prop := fun x vs H Q => ∃ l b xs zs, x = .ref l ∧ vs = [.ref b] ∧ H l = some (.lst xs) ∧ SqT K H b zs ∧ xs.length + zs.length ≤ sizeLine ∧ Q .non (upd H l (.lst (xs ++ zs)))
theorem mt_extendT : MtR X "list.extend" (rExtT X.K) := by
  intro pins s σ H x vs v us Q I rx rv h
  obtain ⟨l, b, xs, zs, rfl, rfl, hH, hB, hz, q⟩ := h
  cases rx
  obtain ⟨u, rfl, ru⟩ := rv.one
  cases ru
  obtain ⟨z, its, n, r, hl, e⟩ := I.lstM hH
  obtain ⟨its2, r2, ⟨⟨ocls, odict, odata, osl⟩, e2, hcls, n2, hdat⟩, z2⟩ := I.tuple hB
  have hl2 := r2.length
  subst hcls
  subst hdat
  have hsz : its.toArray.size + its2.toArray.size ≤ sizeLine := by
    rw [List.size_toArray, List.size_toArray]
    omega
  have hlong : ¬ (!its.toArray.isEmpty && Builtin.List.listTooLong (its.toArray.size + its2.toArray.size)) = true := by
    rw [notLongL hsz, Bool.and_false]
    exact Bool.false_ne_true
  refine call_meets F.slot_list_extend ⟨_, e, rfl⟩ F.entry_list_extend (F.args_list_extend_2 _ _)
    (extend_tup l its.toArray n b its2.toArray n2 odict osl hlong (by rw [List.size_toArray]; omega) (by omega)) ⟨e, e2, ?_⟩
  refine ⟨.non, _, I.lset (its' := its ++ its2) hH e (by simp) (r.append r2) (by rw [List.length_append]; omega), rfl, q⟩
def rExtG (K : PySem.W.Frag) : V → List V → Hp → VK → Prop := fun x vs H Q => rExtend x vs H Q ∨ rExtT K x vs H Q
theorem mt_extendG : MtR X "list.extend" (rExtG X.K) := MtR.or mt_extend mt_extendT

/-! ### len(set(xs)), xs a list of ints or of tuples of ints, some of them equal -/
/-- how many different ones -/
def distinct {α : Type} [BEq α] : List α → Nat
  | [] => 0
  | x :: r => if r.contains x then distinct r else distinct r + 1
theorem distinct_le {α : Type} [BEq α] : ∀ l : List α, distinct l ≤ l.length
  | [] => Nat.le_refl _
  | x :: r => by
    have := distinct_le r
    unfold distinct
    split <;> simp <;> omega
theorem distinct_of {α : Type} [BEq α] [LawfulBEq α] : ∀ {l m : List α}, m.Nodup → (∀ x, x ∈ m ↔ x ∈ l) → m.length = distinct l
  | [], m, _, h => by
    cases m with
    | nil => rfl
    | cons y m => exact absurd ((h y).mp (List.mem_cons_self ..)) (by simp)
  | x :: r, m, hn, h => by
    unfold distinct
    by_cases c : x ∈ r
    · rw [if_pos (by simpa using c)]
      refine distinct_of hn fun y => ?_
      rw [h y, List.mem_cons]
      constructor
      · rintro (rfl | z)
        · exact c
        · exact z
      · exact .inr
    · rw [if_neg (by simpa using c)]
      have hx : x ∈ m := (h x).mpr (List.mem_cons_self ..)
      have e : (m.erase x).length = distinct r := distinct_of (hn.erase x) fun y => by
        rw [hn.mem_erase_iff, h y, List.mem_cons]
        constructor
        · rintro ⟨a, b | b⟩
          · exact absurd b a
          · exact b
        · intro b
          exact ⟨fun z => c (z ▸ b), .inr b⟩
      rw [List.length_erase_of_mem hx] at e
      have := List.length_pos_of_mem hx
      omega
theorem mem_dedup (l : List Int) (x : Int) : x ∈ step_dedup l x := by
  unfold step_dedup
  split
  · rename_i h
    obtain ⟨y, hy, e⟩ := List.any_eq_true.mp h
    rw [beq_iff_eq.mp e] at hy
    exact hy
  · simp
theorem mem_step {l : List Int} {x y : Int} : y ∈ step_dedup l x ↔ y ∈ l ∨ y = x := by
  constructor
  · intro h
    unfold step_dedup at h
    split at h
    · exact .inl h
    · simpa using h
  · rintro (h | rfl)
    · unfold step_dedup
      split
      · exact h
      · simp [h]
    · exact mem_dedup _ _
theorem nodup_step {l : List Int} {x : Int} (h : l.Nodup) : (step_dedup l x).Nodup := by
  unfold step_dedup
  split
  · exact h
  · rename_i c
    rw [List.nodup_append]
    refine ⟨h, by simp, fun a ha b hb e => c ?_⟩
    have : b = x := by simpa using hb
    subst this
    subst e
    exact List.any_eq_true.mpr ⟨a, ha, by simp⟩
theorem firstMet_ok (ns : List Int) : ∀ i, i ≤ ns.length → (PyProof.Rows.firstMet (fun i => ns.getD i 0) i).Nodup ∧ ∀ x, x ∈ PyProof.Rows.firstMet (fun i => ns.getD i 0) i ↔ x ∈ ns.take i
  | 0, _ => by
    rw [PyProof.Rows.firstMet_zero]
    simp
  | i + 1, h => by
    obtain ⟨h1, h2⟩ := firstMet_ok ns i (by omega)
    rw [PyProof.Rows.firstMet_succ]
    refine ⟨nodup_step h1, fun x => ?_⟩
    rw [mem_step, h2 x]
    have hi : ns[i]? = some (ns.getD i 0) := by
      rw [List.getD_eq_getElem?_getD]
      have : i < ns.length := by omega
      simp [this]
    have e : ns.take (i + 1) = ns.take i ++ [ns.getD i 0] := by rw [List.take_add_one, hi] <;> rfl
    rw [e, List.mem_append]
    simp
def tLenSet2 (K : PySem.W.Frag) (ta : TE) : TE := fun σ H Q => ta σ H fun x H1 => (∃ (l : Addr) (ns : List Int), x = .ref l ∧ SqL K H1 l (ns.map V.int) ∧ ns.length ≤ 4000 ∧ Q (.int (distinct ns : Nat)) H1) ∨
  (∃ (l : Addr) (ks : List (Addr × List Int)), x = .ref l ∧ SqL K H1 l (ks.map fun p => V.ref p.1) ∧ (∀ p ∈ ks, SqT K H1 p.1 (p.2.map V.int)) ∧ ks.length < 64 ∧ Q (.int (distinct (ks.map (·.2)) : Nat)) H1)
theorem pe_lenSet2 {a : Expr} {ta : TE} {p p2 q pos : Pos} (hc : X.calm = true) (hg : Gl X "len") (hm : X.mg "len" = none) (hg2 : Gl X "set") (hm2 : X.mg "set" = none) (hu : X.A.units + 64 < cLine) (ha : PE X a ta)
    (na : starEach [a] X.env = (false, eval a X.env) :: starEach [] X.env := by rfl) : PE X (.Call (.Name "len" p) [.Call (.Name "set" p2) [a] [] q] [] pos) (tLenSet2 X.K ta) := by
  refine ⟨fun pins s σ H Q I h => ?_⟩
  refine Call_ (ld_blt I hg hm boot_len ?_)
  refine PyProof.Rows.callWith_builtin1 (PyProof.Rows.args_cons ?_ rfl) rfl rfl
  refine Call_ (ld_blt I hg2 hm2 boot_set ?_)
  refine PyProof.Rows.callWith_type1 (PyProof.Rows.args_cons (thn (ha.run pins s σ H _ I h) fun v s1 ⟨x, H1, I1, r1, q1⟩ => PyProof.Rows.args_nil ?_) na) na rfl
  rcases q1 with ⟨l, ns, rfl, hq, hl, q1⟩ | ⟨l, ks, rfl, hq, hk, hl, q1⟩
  · cases r1
    obtain ⟨its, r, pl, hz⟩ := I1.list hq
    have hlen : its.toArray.size = ns.length := by rw [List.size_toArray, ← r.length, List.length_map]
    refine call_set_list (I1.ok.hd hc) pl.isList (by simpa using RZ.intsAre_vals r) (by rw [hlen]; unfold scanBound; omega) fun h2 tk hS hkp => ?_
    refine PyProof.Rows.args_nil ?_
    obtain ⟨f1, f2⟩ := firstMet_ok ns ns.length (Nat.le_refl _)
    rw [List.take_length] at f2
    rw [hlen, distinct_of f1 f2] at hS
    obtain ⟨o, es, ep, t, ho, hex, hd, _, _, _, hf, hn⟩ := hS
    have hdl := distinct_le ns
    have I2 : Inv X pins σ H1 { s1 with heap := h2, toks := tk } := I1.kept fun b o e => hkp b o (Heap.lt_size e) e
    exact call_len_set ho hex hd hf (by rw [hn]; omega) ⟨.int (distinct ns : Nat), H1, I2.tok _, ⟨_, by rw [hn]⟩, q1⟩
  · cases r1
    obtain ⟨its, r, pl, hz⟩ := I1.list hq
    have hits : its = ks.map fun p => Value.ref p.1 := refs_of_vals r
    refine call_set_tups ks (I1.ok.hd hc) pl.isList (by simpa using hits) (fun p hp => I1.isT (hk p hp)) hl (by omega) fun h2 tk L es ep t R G hkp => ?_
    refine PyProof.Rows.args_nil ?_
    have e1 : L.length = distinct (ks.map (·.2)) := by
      rw [← List.length_map (f := fun p : Addr × List Int => p.2)]
      refine distinct_of R.nd fun x => ?_
      constructor
      · intro hx
        obtain ⟨p, hp, rfl⟩ := List.mem_map.mp hx
        exact List.mem_map.mpr ⟨p, List.mem_of_mem_take (G.sub p hp), rfl⟩
      · intro hx
        obtain ⟨p, hp, rfl⟩ := List.mem_map.mp hx
        exact G.all p (by rw [List.take_length]; exact hp)
    have R' : SetTR X.prog X.w ({ s1 with heap := h2, toks := tk } : Shared).heap s1.heap.objs.size L es ep t := R
    have e2 : es.size = L.length := R'.size
    obtain ⟨o, ho, hex, hd⟩ := R.ob
    have I2 : Inv X pins σ H1 { s1 with heap := h2, toks := tk } := I1.kept hkp
    have few := R.few
    exact call_len_set ho hex hd R'.fits (by rw [e2]; omega) ⟨.int (distinct (ks.map (·.2)) : Nat), H1, I2.tok _, ⟨_, by rw [e2, e1]⟩, q1⟩
end
theorem units65 {k : Nat} {A : Around} (r : Room k A) : A.units + 65 < cLine := by
  have := r.un
  omega
end Tg
end

section
set_option Elab.async false
set_option linter.all false
set_option maxRecDepth 100000
set_option maxHeartbeats 4000000
/-! Defs that raise, the context of what they raise being None: what an except suite wants. -/
open PySem PySem.Spec PyProof.Rows
theorem L2.Fun.okN {P : Program} {w : World} {K : PySem.W.Frag} {mg : Str → Option Value} {base : Heap} {x qual : Str} {st : Stmt} {f : Addr} {fd : FuncData} {N ps : List Str} {k : Nat} {sp : L2.Sp} (D : L2.Fun K x qual st f fd) (S : L2.FnScope N ps (L2.defScope st)) (many : ∀ vs H Q E, sp vs H Q E → vs.length = ps.length)
    (go : ∀ (cdv : Value) (A : Around) (outer : List Env) (s : Shared) (H : L2.Hp) (vs : List L2.V) (Q : L2.VK) (E : L2.XK), L2.Room k (A.deeper (envOfC qual (L2.defScope st) s.heap.objs.size f cdv)) → sp vs H Q E → ∃ t, L2.PSs (L2.cxOf (L2N.CX P w) P w K mg base N qual (L2.defScope st) f cdv A outer s H E) (L2.defBody st) t ∧ t { nx := fun _ H' => Q .non H', rt := Q } (L2.start N vs) H) :
    L2.FnOk P w K mg base (L2N.CX P w) (k + 1) f fd ps sp := by
  obtain ⟨oc, od, kV, doc, pm, an, cdv, ct, osl, rfl, at_, code⟩ := D.ex
  exact L2.fn_of at_ code S many fun A outer s H vs Q E hr h => go cdv A outer s H vs Q E hr h
namespace Tg
open L2
theorem pmk_oexN {X : Cx} {CX : CXT} {x : Str} {e : Expr} {es : List Expr} {ta : TA} {p pos : Pos} {C fI : Addr} {k : Nat} {fd : FuncData} {ps : List Str} {sp : Sp} (T : OexC X.K C) (own : PySem.W.findIn X.K (.ref C) "__init__" = some (some (.ref fI))) (fn : PySem.W.typeIn X.K (.ref fI) = some (.type "function"))
    (FF : FnOk X.prog X.w X.K X.mg X.base CX k fI fd ps sp) (hr : Room (k + 1) X.A) (hb : Binds X.K fd ps []) (out : Passes CX X (fun _ _ _ => False)) (hg : Gl X x) (hm : X.mg x = some (.ref C)) (ha : PA X (e :: es) ta)
    (hdb : (x == ("__debug__" : Str)) = false := by decide) (he : starEach (e :: es) X.env = (false, eval e X.env) :: starEach es X.env := by rfl) (hpl : (backTo pos (starEach es X.env)).any (·.1) = false := by rfl) : L2N.PMk X (.Call (.Name x p) (e :: es) [] pos) (tMkO C sp [] ta) := fun pins s σ H Q I h => by
  obtain ⟨nm, q, N, bs, bm, sn, sub, ab, col, dd, j0, j1, j2, j3, j5, hC, mem⟩ := T.cls
  refine wpAny_Call_Name_kw (ld_glob I hg hm (PySem.W.callWith_K (h₀ := X.base) I.ok.mod.kin T.kC (thn (ha.run pos pins s σ H _ I h) fun us t ⟨vs, H1, I1, r1, few, go⟩ => ⟨I1.kIn, ?_⟩) he hpl) hdb)
  refine (show wpAny _ _ (call (.ref C) us) _ _ _ from ?_)
  obtain ⟨hp, g, dr, tk, os⟩ := t
  have big : hp.objs.size ≤ hp.objs.size + 1 := Nat.le_succ _
  have asks := go (hp.objs.size + 1) (I1.hok.fresh big)
  rw [List.append_nil] at asks
  have grow : ∀ b o, hp.get? b = some o → ((hp.push (PySem.W.kdv_tup us)).push (PySem.HandSPX.excO C hp.objs.size)).get? b = some o := fun b o z => Heap.get?_push_of_some _ (Heap.get?_push_of_some _ z)
  have I2 : Inv X pins σ (upd H1 (hp.objs.size + 1) (exo (hp.objs.size + 1) C none)) ⟨(hp.push (PySem.W.kdv_tup us)).push (PySem.HandSPX.excO C hp.objs.size), g, dr, tk, os⟩ := I1.laid (t' := tk) (o := exo (hp.objs.size + 1) C none) grow big (exo_ok (by heap_get))
  have rel : Vals (V.ref (hp.objs.size + 1) :: vs) (Value.ref (hp.objs.size + 1) :: us) := .cons rfl r1
  have lens : (Value.ref (hp.objs.size + 1) :: us ++ []).length = ps.length := by
    rw [List.append_nil]; exact rel.length.symm.trans (FF.len _ _ _ _ asks)
  have fits : us.length ≤ sizeLine := by
    rw [← Paired.length r1, sizeLine_eq]; omega
  have bound := hb _ (Value.ref (hp.objs.size + 1) :: us) I2.kIn lens
  rw [List.append_nil] at bound
  refine wpAny_call (PySem.HandSPX.call_own F.excBase_ValueError (fun Y => PySem.HandSPX.refsVE_contains Y bm mem) (I1.kIn _ _ hC) (PySem.W.looks_findIn I1.kIn own) (fun self => PySem.W.bind_fn I1.kIn self fn) fits (codeAny_mono (FF.run _ X.stack _ _ ⟨Value.ref (hp.objs.size + 1) :: us, []⟩ (Value.ref (hp.objs.size + 1) :: us) _ _ (fun _ _ _ => False) (hr.make C us []) (I2.env0.make C us []) bound rel asks) fun r s' res => ?_))
  cases r with
  | error er => exact out pins σ _ _ er s' I2 res
  | ok fl =>
    cases fl with
    | ret u =>
      obtain ⟨v, H2, osE, bare, un, hok, ru, ev, d, fs, ea, ed, hd1, fin⟩ := res
      subst ev
      obtain ⟨h2, g2, d2, t2, os'⟩ := s'
      obtain ⟨t0, G, J, kG, ge, hoe, na⟩ := mk_end0 (d2 := d2) (t2 := t2) I1 big grow un hok osE bare ea ed hd1
      exact ⟨ru, hp.objs.size + 1, _, _, ⟨G, g2, d2, t2, os'⟩, _, .ref C, some d, rfl, J, kG, ge, hoe, ⟨rfl, rfl, fun vs z => by cases z; rfl⟩, rfl, rfl, na, rfl, bare, raises_own T.exC T.tyC, fin⟩
    | next => exact False.elim res
    | brk => exact False.elim res
    | cont => exact False.elim res
end Tg
end

section
set_option Elab.async false
set_option linter.all false
set_option maxRecDepth 100000
set_option maxHeartbeats 4000000
/-! Own defs, methods, classes called, by bundles; what statements ask, by data. -/
namespace Tg
open PySem PySem.Spec PyProof.Rows L2

/-! ### bundles -/
structure Cl (P : Program) (w : World) (K : PySem.W.Frag) (mg : Str → Option Value) (base : Heap) (CX : CXT) (k : Nat) (x : Str) (sp : Sp) : Prop where
  ex : ∃ (f : Addr) (fd : FuncData) (ps : List Str), FnOk P w K mg base CX k f fd ps sp ∧ mg x = some (.ref f) ∧ PySem.W.keepIn K (.ref f) = true ∧ Binds K fd ps []
structure Mt (P : Program) (w : World) (K : PySem.W.Frag) (mg : Str → Option Value) (base : Heap) (CX : CXT) (k : Nat) (C : Addr) (m : Str) (sp : Sp) : Prop where
  ex : ∃ (f : Addr) (fd : FuncData) (ps : List Str), Cls K C ∧ Meth K C m f ∧ FnOk P w K mg base CX k f fd ps sp ∧ Binds K fd ps []
structure Mc (P : Program) (w : World) (K : PySem.W.Frag) (mg : Str → Option Value) (base : Heap) (CX : CXT) (k : Nat) (x : Str) (C : Addr) (sp : Sp) : Prop where
  ex : ∃ (f : Addr) (fd : FuncData) (ps : List Str), Mk K C f ∧ FnOk P w K mg base CX k f fd ps sp ∧ mg x = some (.ref C) ∧ Binds K fd ps []
/-- a def as it stands: its place, its name -/
structure Df (K : PySem.W.Frag) (mg : Str → Option Value) (x : Str) (st : Stmt) (ps : List Str) (f : Addr) (fd : FuncData) : Prop where
  fn : Fun K x x st f fd
  mgf : mg x = some (.ref f)
  b : Binds K fd ps []
structure Dm (K : PySem.W.Frag) (C : Addr) (x qual : Str) (st : Stmt) (ps : List Str) (f : Addr) (fd : FuncData) : Prop where
  fn : Fun K x qual st f fd
  cls : Cls K C
  mt : Meth K C x f
  b : Binds K fd ps []
structure Di (K : PySem.W.Frag) (mg : Str → Option Value) (c : Str) (C : Addr) (qual : Str) (st : Stmt) (ps : List Str) (f : Addr) (fd : FuncData) : Prop where
  fn : Fun K "__init__" qual st f fd
  mkc : Mk K C f
  mgc : mg c = some (.ref C)
  b : Binds K fd ps []
section
variable {P : Program} {w : World} {K : PySem.W.Frag} {mg : Str → Option Value} {base : Heap} {CX : CXT} {k : Nat} {sp : Sp} {x qual : Str} {st : Stmt} {ps : List Str} {f C : Addr} {fd : FuncData}
theorem Df.cl (D : Df K mg x st ps f fd) (F : FnOk P w K mg base CX k f fd ps sp) : Cl P w K mg base CX k x sp := ⟨f, fd, ps, F, D.mgf, D.fn.kp, D.b⟩
theorem Dm.mt' (D : Dm K C x qual st ps f fd) (F : FnOk P w K mg base CX k f fd ps sp) : Mt P w K mg base CX k C x sp := ⟨f, fd, ps, D.cls, D.mt, F, D.b⟩
theorem Di.mc {c : Str} (D : Di K mg c C qual st ps f fd) (F : FnOk P w K mg base CX k f fd ps sp) : Mc P w K mg base CX k c C sp := ⟨f, fd, ps, D.mkc, F, D.mgc, D.b⟩
end
section
variable {X : Cx} {CX : CXT} {k j : Nat} {C : Addr} {x m : Str} {sp : Sp} {E : XK} {p pos apos : Pos} {e o : Expr} {es : List Expr} {ta : TE} {t : TA}
theorem pe_cl (c : Cl X.prog X.w X.K X.mg X.base CX k x sp) (hr : Room j X.A) (hk : k ≤ j) (hx : Passes CX X E) (hg : Gl X x) (ha : PA X (e :: es) t)
    (hdb : (x == ("__debug__" : Str)) = false := by decide) (he : starEach (e :: es) X.env = (false, eval e X.env) :: starEach es X.env := by rfl) (hpl : (backTo pos (starEach es X.env)).any (·.1) = false := by rfl) :
    PE X (.Call (.Name x p) (e :: es) [] pos) (tCall sp [] E t) := by
  obtain ⟨f, fd, ps, F, hm, kp, b⟩ := c.ex
  exact pe_call F (hr.mono hk) hg hm kp b .nil hx ha hdb he hpl
theorem pe_mkX (c : Mc X.prog X.w X.K X.mg X.base CX k x C sp) (hr : Room j X.A) (hk : k + 1 ≤ j) (hx : Passes CX X E) (hg : Gl X x) (ha : PA X (e :: es) t)
    (hdb : (x == ("__debug__" : Str)) = false := by decide) (he : starEach (e :: es) X.env = (false, eval e X.env) :: starEach es X.env := by rfl) (hpl : (backTo pos (starEach es X.env)).any (·.1) = false := by rfl) :
    PE X (.Call (.Name x p) (e :: es) [] pos) (tMake C sp [] E t) := by
  obtain ⟨f, fd, ps, M, F, hm, b⟩ := c.ex
  exact pe_make M F (hr.mono hk) hg hm b .nil hx ha hdb he hpl
theorem pe_mk0X (c : Mc X.prog X.w X.K X.mg X.base CX k x C sp) (hr : Room j X.A) (hk : k + 1 ≤ j) (hx : Passes CX X E) (hg : Gl X x)
    (hdb : (x == ("__debug__" : Str)) = false := by decide) : PE X (.Call (.Name x p) [] [] pos) (tMake C sp [] E tNil) := by
  obtain ⟨f, fd, ps, M, F, hm, b⟩ := c.ex
  exact pe_make0 M F (hr.mono hk) hg hm b .nil hx hdb
theorem pe_mtX {pl : Sem Bool} (c : Mt X.prog X.w X.K X.mg X.base CX k C m sp) (hr : Room j X.A) (hk : k ≤ j) (hx : Passes CX X E) (he : PE X o ta) (ha : PA X (e :: es) t)
    (hst : starEach (e :: es) X.env = (false, eval e X.env) :: starEach es X.env := by rfl) (hpl : (backTo pos (starEach es X.env)).any (·.1) = false := by rfl)
    (ht : eval (.Call (.Attribute o m apos) (e :: es) [] pos) X.env = (do
      let ov ← eval o X.env
      standAt apos.atName
      let (f, first) ← holding [ov] (getMethod ov m pl)
      callWith pos f first (backTo pos (starEach (e :: es) X.env)) (backToKw pos (keywordEach [] X.env))) := by rfl) :
    PE X (.Call (.Attribute o m apos) (e :: es) [] pos) (tMeth C m sp [] E ta t) := by
  obtain ⟨f, fd, ps, hc, hm, F, b⟩ := c.ex
  exact pe_meth (pl := pl) he hc hm F (hr.mono hk) b .nil hx ha hst hpl ht
theorem pe_mt0X {pl : Sem Bool} (c : Mt X.prog X.w X.K X.mg X.base CX k C m sp) (hr : Room j X.A) (hk : k ≤ j) (hx : Passes CX X E) (he : PE X o ta)
    (ht : eval (.Call (.Attribute o m apos) [] [] pos) X.env = (do
      let ov ← eval o X.env
      standAt apos.atName
      let (f, first) ← holding [ov] (getMethod ov m pl)
      callWith pos f first (backTo pos (starEach [] X.env)) (backToKw pos (keywordEach [] X.env))) := by rfl) :
    PE X (.Call (.Attribute o m apos) [] [] pos) (tMeth C m sp [] E ta tNil) := by
  obtain ⟨f, fd, ps, hc, hm, F, b⟩ := c.ex
  exact pe_meth0 (pl := pl) he hc hm F (hr.mono hk) b .nil hx ht
end
section
variable {P : Program} {w : World} {K : PySem.W.Frag} {mg : Str → Option Value} {base : Heap} {N : List Str} {qual : Str} {scope : Scope} {f : Addr} {cd : Value} {A : Around} {outer : List L2.St} {s : Shared} {H : Hp} {E : XK}
theorem passX {outer : List PySem.Env} : Passes (L2N.CX P w) (cxOf (L2N.CX P w) P w K mg base N qual scope f cd A outer s H E) E :=
  L2N.passes_call (L2N.takes_of rfl rfl rfl rfl) fun _ _ _ _ h => h
theorem passOwnX {outer : List PySem.Env} : PassesOwn (model P w) (cxOf (L2N.CX P w) P w K mg base N qual scope f cd A outer s H E).A (cxOf (L2N.CX P w) P w K mg base N qual scope f cd A outer s H E).env (cxOf (L2N.CX P w) P w K mg base N qual scope f cd A outer s H E).xe :=
  passes_of (X := cxOf (L2N.CX P w) P w K mg base N qual scope f cd A outer s H E) rfl
end

/-! ### what is raised -/
abbrev Err := Int × Str
/-- the error's own dict at a tells e -/
def XErr (K : PySem.W.Frag) (H : Hp) (a : Addr) (e : Err) : Prop :=
  ∃ (fs : List (Str × V)) (t : Addr), H a = some (.xd fs) ∧ fs.lookup ("order" : Str) = some (.int e.1) ∧ fs.lookup ("message" : Str) = some (.str e.2) ∧ fs.lookup ("further" : Str) = some (.ref t) ∧ SqT K H t []
/-- a def that hands back data or raises, and changes nothing -/
def MaySp (K : PySem.W.Frag) (C : Addr) (R : List Dat → Except Err Dat → Prop) : Sp := fun vs H Q E => ∃ ds r, RpL K H vs ds ∧ R ds r ∧
  (∀ d, r = .ok d → ∀ v H', Same H H' → Rp K H' v d → Q v H') ∧ (∀ e, r = .error e → ∀ a H', Same H H' → XErr K H' a e → E (.ref C) (some a) H')
def EvX (K : PySem.W.Frag) (C : Addr) (E : XK) (te : TE) (ρ : List (Option Dat)) (r : Except Err Dat) : Prop :=
  ∀ (σ : L2.St) (H : Hp), Env K H σ ρ → ∀ Q : VK, (∀ d, r = .ok d → ∀ v H', Same H H' → Rp K H' v d → Q v H') → (∀ e, r = .error e → ∀ a H', Same H H' → XErr K H' a e → E (.ref C) (some a) H') → te σ H Q
section
variable {K : PySem.W.Frag} {ρ : List (Option Dat)} {ta : TA} {to te : TE} {tt : TT} {ds es : List Dat} {d : Dat} {E : XK} {C : Addr} {σ : L2.St} {H : Hp} {D : Ends} {tz tu tw : TS} {b : Bool}
theorem ev_callX {R : List Dat → Except Err Dat → Prop} {r : Except Err Dat} (h : EvA K ta ρ ds) (hr : R ds r) : EvX K C E (tCall (MaySp K C R) [] E ta) ρ r := fun σ H e Q q x =>
  h σ H e _ fun vs H1 s1 r1 => by
    rw [List.append_nil]
    exact ⟨ds, r, r1, hr, fun d hd v H2 s2 r2 => q d hd v H2 (s1.trans s2) r2, fun er he a H2 s2 r2 => x er he a H2 (s1.trans s2) r2⟩
theorem EvX.ok (h : EvX K C E te ρ (.ok d)) : EvD K te ρ d := fun σ H e Q q => h σ H e Q (fun d' hd v H' s r => by cases hd; exact q v H' s r) fun er he => by cases he
theorem look_none : ∀ {fs : List (Str × V)} {gs : List (Str × Dat)} {H : Hp} {f : Str}, RpF K H fs gs → gs.lookup f = none → fs.lookup f = none
  | _, _, _, _, .nil, _ => rfl
  | _, _, _, f, .cons (n := n) h r, e => by
    unfold List.lookup at e ⊢
    cases hn : f == n with
    | true =>
      rw [hn] at e
      simp at e
    | false =>
      rw [hn] at e
      simpa using look_none r (by simpa using e)
theorem ev_meth {R : List Dat → Dat → Prop} {gs : List (Str × Dat)} {m : Str} (ho : EvD K to ρ (.obj C gs)) (hm : gs.lookup m = none) (h : EvA K ta ρ ds) (r : R (.obj C gs :: ds) d) : EvD K (tMeth C m (PureSp K R) [] E to ta) ρ d := fun σ H e Q q =>
  ho σ H e _ fun v H1 s1 r1 => by
    cases r1 with
    | obj ha hf =>
      refine ⟨_, _, _, rfl, ha, look_none hf hm, h σ H1 (e.mono s1) _ fun vs H2 s2 r2 => ?_⟩
      rw [List.append_nil]
      exact ⟨_, d, .cons ((Rp.obj ha hf).mono s2) r2, r, fun v H3 s3 r3 => q v H3 ((s1.trans s2).trans s3) r3⟩
theorem ev_methN {R : List Dat → List Dat → Prop} {gs : List (Str × Dat)} {m : Str} (ho : EvD K to ρ (.obj C gs)) (hm : gs.lookup m = none) (h : EvA K ta ρ ds) (r : R (.obj C gs :: ds) es) : EvN K (tMeth C m (NewSp K R) [] E to ta) ρ es := fun σ H e Q q =>
  ho σ H e _ fun v H1 s1 r1 => by
    cases r1 with
    | obj ha hf =>
      refine ⟨_, _, _, rfl, ha, look_none hf hm, h σ H1 (e.mono s1) _ fun vs H2 s2 r2 => ?_⟩
      rw [List.append_nil]
      exact ⟨_, es, .cons ((Rp.obj ha hf).mono s2) r2, r, fun p ws H3 n3 s3 h3 r3 => q p ws H3 ((s1.trans s2).free n3) ((s1.trans s2).trans s3) h3 r3⟩

/-! ### statements -/
theorem s_seq {t u : TS} (h : t { D with nx := u D } σ H) : tSeq t u D σ H := h
theorem s_ret (e : Env K H σ ρ) (h : EvD K te ρ d) (k : ∀ v H', Same H H' → Rp K H' v d → D.rt v H') : tRet te D σ H := h σ H e _ k
theorem s_retN (e : Env K H σ ρ) (h : EvN K te ρ ds) (k : ∀ p vs H', H p = none → Same H H' → H' p = some (.lst vs) → RpL K H' vs ds → D.rt (.ref p) H') : tRet te D σ H := h σ H e _ k
theorem s_asg {i : Nat} (e : Env K H σ ρ) (h : EvD K te ρ d) (k : ∀ σ' H', Same H H' → Env K H' σ' (ρ.set i (some d)) → D.nx σ' H') : tAsg te (gName i) D σ H :=
  h σ H e _ fun v H1 s1 r1 => k _ H1 s1 ((e.mono s1).set i r1)
theorem s_asgN {i : Nat} (e : Env K H σ ρ) (h : EvN K te ρ ds) (k : ∀ p vs H', H p = none → Same H H' → H' p = some (.lst vs) → RpL K H' vs ds → D.nx (σ.set i (some (.ref p))) H') : tAsg te (gName i) D σ H :=
  h σ H e _ fun p vs H1 n s1 h1 r1 => k p vs H1 n s1 h1 r1
theorem s_if (e : Env K H σ ρ) (h : EvT K tt ρ b) (h1 : b = true → ∀ H', Same H H' → Env K H' σ ρ → tu D σ H') (h2 : b = false → ∀ H', Same H H' → Env K H' σ ρ → tw D σ H') : tIfS tt tu tw D σ H :=
  h σ H e _ fun H1 s1 => by
    cases b with
    | true => exact h1 rfl H1 s1 (e.mono s1)
    | false => exact h2 rfl H1 s1 (e.mono s1)
theorem s_drop (e : Env K H σ ρ) (h : EvD K te ρ d) (k : ∀ H', Same H H' → Env K H' σ ρ → D.nx σ H') : tDrop te D σ H := h σ H e _ fun v H1 s1 r1 => k H1 s1 (e.mono s1)
theorem s_aug {i : Nat} {f : Int → Int → Int} {a c : Int} (e : Env K H σ ρ) (hx : ρ[i]? = some (some (.v (.int a)))) (h : EvD K te ρ (.v (.int c))) (k : ∀ σ' H', Same H H' → Env K H' σ' (ρ.set i (some (.v (.int (f a c))))) → D.nx σ' H') : tAug i te (ipI f) D σ H := by
  obtain ⟨v, h1, h2⟩ := e.get hx
  exact ⟨v, h1, h σ H e _ fun y H1 s1 r1 => ⟨a, c, h2.v_eq, r1.v_eq, k _ H1 s1 ((e.mono s1).set i (.v _))⟩⟩
/-- for over range(n); Pv: what holds behind i turns -/
theorem s_forR {tb : TS} {j n : Nat} (Pv : Nat → L2.St → Hp → Prop) (e : Env K H σ ρ) (h : EvA K ta ρ [.v (.int n)]) (hn : n ≤ 100000000) (h0 : ∀ H', Same H H' → Pv 0 σ H')
    (hs : ∀ (i : Nat) σ' H', i < n → Pv i σ' H' → tb { D with nx := Pv (i + 1), ct := Pv (i + 1), bk := D.nx } (σ'.set j (some (.int (i : Nat)))) H') (hd : ∀ σ' H', Pv n σ' H' → D.nx σ' H') : tFor (iRng1 ta) (gName j) tb D σ H :=
  h σ H e _ fun vs H1 s1 r1 => by
    refine ⟨n, rc_one r1, by omega, by omega, ?_⟩
    have e0 : ((n : Nat) : Int).toNat = n := by omega
    rw [e0]
    refine for_range (lo := 0) (n := n) Pv (h0 H1 s1) (fun i σ' H' hi p => ?_) hd
    have z : (0 : Int) + (i : Int) = ((i : Nat) : Int) := by omega
    rw [z]
    exact hs i σ' H' hi p
/-- for over a tuple -/
theorem s_forT {α : Type} {tb : TS} {tl : TE} {j : Nat} {l : List α} (c : α → Dat) (Pv : Nat → L2.St → Hp → Prop) (e : Env K H σ ρ) (h : EvD K tl ρ (.tup (l.map c))) (st : ∀ x ∈ l, (c x).still = true) (h0 : ∀ H', Same H H' → Pv 0 σ H')
    (hs : ∀ (i : Nat) x v σ' H', l[i]? = some x → Rp K H' v (c x) → Pv i σ' H' → tb { D with nx := Pv (i + 1), ct := Pv (i + 1), bk := D.nx } (σ'.set j (some v)) H') (hd : ∀ σ' H', Pv l.length σ' H' → D.nx σ' H') (hnew : ∀ i σ' H' H1, Same H H1 → Pv i σ' H' → SameT K H1 H') : tFor (iSeq K tl) (gName j) tb D σ H :=
  .inr (h σ H e _ fun v H1 s1 r1 => by
    cases r1 with
    | tup a1 r1 =>
      rename_i a xs
      have hl : xs.length = l.length := by rw [r1.length, List.length_map]
      refine ⟨a, rfl, ⟨_, a1⟩, for_tup (K := K) (a := a) (xs := xs) Pv (h0 H1 s1) (fun i σ' H' _ p => hnew i σ' H' H1 s1 p a xs a1) (fun i x σ' H' hx p => ?_) (by rw [hl]; exact hd)⟩
      obtain ⟨d, hd', rd⟩ := r1.back hx
      rw [List.getElem?_map] at hd'
      cases hz : l[i]? with
      | none =>
        rw [hz] at hd'
        cases hd'
      | some z =>
        rw [hz] at hd'
        cases hd'
        exact hs i z x σ' H' hz (rd.stay (hnew i σ' H' H1 s1 p) (st z (List.mem_of_getElem? hz))) p)
/-- for over a list that stands in G -/
theorem s_forL {α : Type} {tb : TS} {tl : TE} {j : Nat} {l : List α} {a : Addr} {xs : List V} (c : α → Dat) (G : Hp) (Pv : Nat → L2.St → Hp → Prop) (h : ∀ Q : VK, Q (.ref a) H → tl σ H Q) (sg : Same G H) (ha : G a = some (.lst xs)) (r : RpL K G xs (l.map c)) (h0 : Pv 0 σ H)
    (hm : ∀ i σ' H', Pv i σ' H' → Same G H')
    (hs : ∀ (i : Nat) x v σ' H', l[i]? = some x → Rp K G v (c x) → Pv i σ' H' → tb { D with nx := Pv (i + 1), ct := Pv (i + 1), bk := D.nx } (σ'.set j (some v)) H') (hd : ∀ σ' H', Pv l.length σ' H' → D.nx σ' H') : tFor (iSeq K tl) (gName j) tb D σ H :=
  .inl (h _ (by
    have hl : xs.length = l.length := by rw [r.length, List.length_map]
    refine ⟨a, rfl, ⟨_, SqL.of (sg _ _ ha)⟩, for_list (K := K) (a := a) (xs := xs) Pv h0 (fun i σ' H' _ p => SqL.of (hm i σ' H' p _ _ ha)) (fun i x σ' H' hx p => ?_) (by rw [hl]; exact hd)⟩
    obtain ⟨d, hd', rd⟩ := r.back hx
    rw [List.getElem?_map] at hd'
    cases hz : l[i]? with
    | none =>
      rw [hz] at hd'
      cases hd'
    | some z =>
      rw [hz] at hd'
      cases hd'
      exact hs i z x σ' H' hz rd p))
end

/-! ### one list that the def fills: at p, held by slot i; what it holds is still data -/
def hid (p : Addr) (H : Hp) : Hp := fun b => if b = p then none else H b
theorem hid_ne {p b : Addr} {H : Hp} (h : b ≠ p) : hid p H b = H b := by
  unfold hid
  rw [if_neg h]
theorem hid_same {p : Addr} {H : Hp} : Same (hid p H) H := fun b o e => by
  unfold hid at e
  split at e
  · cases e
  · exact e
theorem hid_mono {p : Addr} {H H' : Hp} (s : Same H H') : Same (hid p H) (hid p H') := fun b o e => by
  by_cases hb : b = p
  · subst hb
    unfold hid at e
    rw [if_pos rfl] at e
    cases e
  · rw [hid_ne hb] at e ⊢
    exact s _ _ e
theorem hid_upd {p : Addr} {H : Hp} {o : HO} : hid p (upd H p o) = hid p H := by
  funext b
  unfold hid
  by_cases hb : b = p
  · rw [if_pos hb, if_pos hb]
  · rw [if_neg hb, if_neg hb, upd_ne hb]
theorem hid_of {p : Addr} {H H' : Hp} (s : Same H H') (n : H p = none) : Same H (hid p H') := fun b o e => by
  rw [hid_ne (ne_of_none e n)]
  exact s _ _ e
theorem hid_t {K : PySem.W.Frag} {p : Addr} {H : Hp} {vs : List V} (h : H p = some (.lst vs)) : SameT K H (hid p H) := fun a xs q => by
  rcases q with q | q
  · refine .inl ?_
    rcases q with q | ⟨ob, q⟩
    · refine .inl ?_
      rw [hid_ne fun z => ?_]
      · exact q
      · rw [z, h] at q
        cases q
    · refine .inr ⟨ob, ?_⟩
      rw [hid_ne fun z => ?_]
      · exact q
      · rw [z, h] at q
        cases q
  · exact .inr q
structure Acc (K : PySem.W.Frag) (H0 : Hp) (i : Nat) (ρ : List (Option Dat)) (ds : List Dat) (p : Addr) (σ : L2.St) (H : Hp) : Prop where
  new : H0 p = none
  same : Same H0 (hid p H)
  env : Env K (hid p H) σ ρ
  slot : σ[i]? = some (some (.ref p))
  off : ρ[i]? = some none
  at_ : ∃ vs, H p = some (.lst vs) ∧ RpL K H vs ds
  still : Dat.stills ds = true
section
variable {K : PySem.W.Frag} {H0 : Hp} {i : Nat} {ρ : List (Option Dat)} {ds es : List Dat} {d : Dat} {p : Addr} {σ : L2.St} {H H' : Hp} {te : TE} {ta : TA} {tt : TT} {D : Ends}
theorem Acc.start {vs : List V} (n : H p = none) (s : Same H H') (h : H' p = some (.lst vs)) (r : RpL K H' vs ds) (st : Dat.stills ds = true) (e : Env K H σ ρ) (hi : i < σ.length) (hr : i < ρ.length) :
    Acc K H i (ρ.set i none) ds p (σ.set i (some (.ref p))) H' :=
  ⟨n, hid_of s n, (e.mono (hid_of s n)).drop i _, by simp [hi], by simp [hr], ⟨vs, h, r⟩, st⟩
/-- all names' data, the list's among them -/
theorem Acc.all (a : Acc K H0 i ρ ds p σ H) : Env K H σ (ρ.set i (some (.lst ds))) := by
  obtain ⟨vs, h, r⟩ := a.at_
  have e := a.env.mono hid_same
  have q := e.set i (Rp.lst h r)
  have z : σ.set i (some (.ref p)) = σ := by
    have hs := a.slot
    apply List.ext_getElem?
    intro n
    by_cases hn : n = i
    · subst hn
      have := (List.getElem?_eq_some_iff.mp hs).1
      rw [List.getElem?_set_self this]
      exact hs.symm
    · rw [List.getElem?_set_ne (Ne.symm hn)]
  rw [z] at q
  exact q
/-- the heap grew -/
theorem Acc.grow (a : Acc K H0 i ρ ds p σ H) (s : Same H H') : Acc K H0 i ρ ds p σ H' := by
  obtain ⟨vs, h, r⟩ := a.at_
  exact ⟨a.new, a.same.trans (hid_mono s), a.env.mono (hid_mono s), a.slot, a.off, ⟨vs, s _ _ h, r.mono s⟩, a.still⟩
/-- another slot gets still data -/
theorem Acc.set {j : Nat} {v : V} (a : Acc K H0 i ρ ds p σ H) (r : Rp K H v d) (st : d.still = true) (hj : j ≠ i) : Acc K H0 i (ρ.set j (some d)) ds p (σ.set j (some v)) H := by
  obtain ⟨vs, h, rl⟩ := a.at_
  exact ⟨a.new, a.same, a.env.set j (r.stay (hid_t h) st), by rw [List.getElem?_set_ne hj]; exact a.slot, by rw [List.getElem?_set_ne hj]; exact a.off, ⟨vs, h, rl⟩, a.still⟩
/-- another slot is forgotten, whatever it holds -/
theorem Acc.drop {j : Nat} {o : Option V} (a : Acc K H0 i ρ ds p σ H) (hj : j ≠ i) : Acc K H0 i (ρ.set j none) ds p (σ.set j o) H :=
  ⟨a.new, a.same, a.env.drop j o, by rw [List.getElem?_set_ne hj]; exact a.slot, by rw [List.getElem?_set_ne hj]; exact a.off, a.at_, a.still⟩
theorem Acc.forget {j : Nat} (a : Acc K H0 i ρ ds p σ H) (hj : j ≠ i) : Acc K H0 i (ρ.set j none) ds p σ H :=
  ⟨a.new, a.same, a.env.forget j, a.slot, by rw [List.getElem?_set_ne hj]; exact a.off, a.at_, a.still⟩
/-- the list is another one -/
theorem Acc.put (a : Acc K H0 i ρ ds p σ H) {vs : List V} {o : HO} {xs : List V} (h : H p = some (.lst xs)) (r : RpL K H vs es) (st : Dat.stills es = true) : Acc K H0 i ρ es p σ (upd H p (.lst vs)) :=
  ⟨a.new, by rw [hid_upd]; exact a.same, by rw [hid_upd]; exact a.env, a.slot, a.off, ⟨vs, upd_same, r.stay (SameT.lst h) st⟩, st⟩
theorem stills_app {ds es : List Dat} (h : Dat.stills ds = true) (h' : Dat.stills es = true) : Dat.stills (ds ++ es) = true := stills_iff.mpr fun d hd => by
  rcases List.mem_append.mp hd with z | z
  · exact stills_iff.mp h d z
  · exact stills_iff.mp h' d z
/-- found.append(e) -/
theorem a_app {to : TE} (a : Acc K H0 i ρ ds p σ H) (ho : to = tVar i) (h : EvD K te (ρ.set i (some (.lst ds))) d) (st : d.still = true) (hz : ds.length < 1000000) (k : ∀ H', Acc K H0 i ρ (ds ++ [d]) p σ H' → D.nx σ H') :
    tDrop (tBM K "list" rAppend to (tCons te tNil)) D σ H := by
  subst ho
  obtain ⟨vs, hp, r⟩ := a.at_
  refine ⟨_, a.slot, .inl ⟨rfl, _, SqL.of hp⟩, h σ H a.all _ fun v H1 s1 r1 => ?_⟩
  have a1 := a.grow s1
  have hp1 := s1 _ _ hp
  refine ⟨p, vs, v, rfl, rfl, hp1, ?_, k _ (a1.put (o := .lst vs) hp1 ((r.mono s1).snoc r1) (stills_app a.still (by simp [Dat.stills, st])))⟩
  rw [r.length]
  exact Nat.lt_of_lt_of_le hz (by decide)
/-- found.extend(xs) -/
theorem a_ext {to : TE} (a : Acc K H0 i ρ ds p σ H) (ho : to = tVar i) (h : EvD K te (ρ.set i (some (.lst ds))) (.lst es)) (st : Dat.stills es = true) (hz : ds.length + es.length ≤ 16000000) (k : ∀ H', Acc K H0 i ρ (ds ++ es) p σ H' → D.nx σ H') :
    tDrop (tBM K "list" (rExtG K) to (tCons te tNil)) D σ H := by
  subst ho
  obtain ⟨vs, hp, r⟩ := a.at_
  refine ⟨_, a.slot, .inl ⟨rfl, _, SqL.of hp⟩, h σ H a.all _ fun v H1 s1 r1 => ?_⟩
  have a1 := a.grow s1
  have hp1 := s1 _ _ hp
  cases r1 with
  | lst hb rb =>
    refine .inl ⟨p, _, vs, _, rfl, rfl, hp1, hb, ?_, k _ (a1.put (o := .lst vs) hp1 ((r.mono s1).append rb) (stills_app a.still st))⟩
    rw [r.length, rb.length]
    exact Nat.le_trans hz (by decide)
theorem a_extT {to : TE} (a : Acc K H0 i ρ ds p σ H) (ho : to = tVar i) (h : EvD K te (ρ.set i (some (.lst ds))) (.tup es)) (st : Dat.stills es = true) (hz : ds.length + es.length ≤ 16000000) (k : ∀ H', Acc K H0 i ρ (ds ++ es) p σ H' → D.nx σ H') :
    tDrop (tBM K "list" (rExtG K) to (tCons te tNil)) D σ H := by
  subst ho
  obtain ⟨vs, hp, r⟩ := a.at_
  refine ⟨_, a.slot, .inl ⟨rfl, _, SqL.of hp⟩, h σ H a.all _ fun v H1 s1 r1 => ?_⟩
  have a1 := a.grow s1
  have hp1 := s1 _ _ hp
  cases r1 with
  | tup hb rb =>
    refine .inr ⟨p, _, vs, _, rfl, rfl, hp1, hb, ?_, k _ (a1.put (o := .lst vs) hp1 ((r.mono s1).append rb) (stills_app a.still st))⟩
    rw [r.length, rb.length]
    exact Nat.le_trans hz (by decide)
/-- found[n] = e -/
theorem a_put {to ti : TE} {n : Nat} (a : Acc K H0 i ρ ds p σ H) (ho : to = tVar i) (h : EvD K te (ρ.set i (some (.lst ds))) d) (hi : EvD K ti (ρ.set i (some (.lst ds))) (.v (.int (n : Nat)))) (st : d.still = true) (hn : n < ds.length) (k : ∀ H', Acc K H0 i ρ (ds.set n d) p σ H' → D.nx σ H') :
    tAsg te (gSub to ti rSetL) D σ H := by
  subst ho
  obtain ⟨vs, hp, r⟩ := a.at_
  refine h σ H a.all _ fun v H1 s1 r1 => ⟨_, a.slot, hi σ H1 (a.grow s1).all _ fun x H2 s2 r2 => ?_⟩
  have a2 := a.grow (s1.trans s2)
  have hp2 := (s1.trans s2) _ _ hp
  have hx := r2.v_eq
  subst hx
  refine ⟨p, vs, n, n, rfl, rfl, hp2, ?_, k _ (a2.put (o := .lst vs) hp2 ((r.mono (s1.trans s2)).set n (r1.mono s2)) (stills_iff.mpr fun d' hd' => ?_))⟩
  · unfold ixN
    rw [if_pos (by omega), if_pos (by rw [r.length]; omega)]
    rfl
  · rcases List.mem_or_eq_of_mem_set hd' with z | z
    · exact stills_iff.mp a.still d' z
    · rw [z]
      exact st
/-- name = e, beside the list -/
theorem a_asg {j : Nat} (a : Acc K H0 i ρ ds p σ H) (h : EvD K te (ρ.set i (some (.lst ds))) d) (st : d.still = true) (hj : j ≠ i) (k : ∀ σ' H', Acc K H0 i (ρ.set j (some d)) ds p σ' H' → D.nx σ' H') : tAsg te (gName j) D σ H :=
  h σ H a.all _ fun v H1 s1 r1 => k _ H1 ((a.grow s1).set r1 st hj)
theorem a_if {tu tw : TS} {b : Bool} (a : Acc K H0 i ρ ds p σ H) (h : EvT K tt (ρ.set i (some (.lst ds))) b) (h1 : b = true → ∀ H', Acc K H0 i ρ ds p σ H' → tu D σ H') (h2 : b = false → ∀ H', Acc K H0 i ρ ds p σ H' → tw D σ H') : tIfS tt tu tw D σ H :=
  h σ H a.all _ fun H1 s1 => by
    cases b with
    | true => exact h1 rfl H1 (a.grow s1)
    | false => exact h2 rfl H1 (a.grow s1)
theorem Acc.out (a : Acc K H0 i ρ ds p σ H) : Same H0 H := a.same.trans hid_same
theorem Acc.st (a : Acc K H0 i ρ ds p σ H) : SameT K H0 H := SameT.of a.out
theorem a_forR {tb : TS} {j n : Nat} (ρs : Nat → List (Option Dat)) (dss : Nat → List Dat) (a : Acc K H0 i (ρs 0) (dss 0) p σ H) (h : EvA K ta ((ρs 0).set i (some (.lst (dss 0)))) [.v (.int n)]) (hn : n ≤ 100000000) (hj : j ≠ i)
    (hs : ∀ (t : Nat) σ' H', t < n → Acc K H0 i ((ρs t).set j (some (.v (.int (t : Nat))))) (dss t) p σ' H' → tb { D with nx := Acc K H0 i (ρs (t + 1)) (dss (t + 1)) p, ct := Acc K H0 i (ρs (t + 1)) (dss (t + 1)) p, bk := D.nx } σ' H')
    (hd : ∀ σ' H', Acc K H0 i (ρs n) (dss n) p σ' H' → D.nx σ' H') : tFor (iRng1 ta) (gName j) tb D σ H :=
  s_forR (fun t => Acc K H0 i (ρs t) (dss t) p) a.all h hn (fun H' s => a.grow s) (fun t σ' H' ht q => hs t _ H' ht (q.set (.v _) rfl hj)) hd
end
end Tg
end

section
set_option Elab.async false
set_option linter.all false
set_option maxRecDepth 100000
set_option maxHeartbeats 4000000
/-! What the top has written. -/
namespace Tg
open PySem PySem.Spec PyProof.Rows L2
def top (i : Nat) : Stmt := PySem.Challenge.pw_tagshift_s01_answers.main.body.getD i (.Pass ⟨0, 0, 0, 0⟩)
/-- the addresses: the classes, the written tuples -/
structure Ad where
  rq : Addr
  rf : Addr
  pa : Addr
  ch : Addr
  li : Addr
  cNothing : Addr
  cNull : Addr
  cFalse : Addr
  cTrue : Addr
  cWeights : Addr
structure Txt (K : PySem.W.Frag) (mg : Str → Option Value) (A : Ad) : Prop where
  c_INTEGER : ∃ u, mg "INTEGER" = some u ∧ RelV (.int 4) u
  c_TEXT : ∃ u, mg "TEXT" = some u ∧ RelV (.int 6) u
  c_LIST : ∃ u, mg "LIST" = some u ∧ RelV (.int 7) u
  c_RECORD : ∃ u, mg "RECORD" = some u ∧ RelV (.int 8) u
  c_OCTETS : ∃ u, mg "OCTETS" = some u ∧ RelV (.int 10) u
  c_WORD : ∃ u, mg "WORD" = some u ∧ RelV (.int 18446744073709551616) u
  c_HALF : ∃ u, mg "HALF" = some u ∧ RelV (.int 9223372036854775808) u
  c_WANTED : ∃ u, mg "WANTED" = some u ∧ RelV (.int 0) u
  c_UNWANTED : ∃ u, mg "UNWANTED" = some u ∧ RelV (.int 1) u
  c_EITHER : ∃ u, mg "EITHER" = some u ∧ RelV (.int 2) u
  c_SPACE : ∃ u, mg "SPACE" = some u ∧ RelV (.int 32) u
  c_NOT : ∃ u, mg "NOT" = some u ∧ RelV (.int 33) u
  c_AND : ∃ u, mg "AND" = some u ∧ RelV (.int 38) u
  c_OPEN : ∃ u, mg "OPEN" = some u ∧ RelV (.int 40) u
  c_CLOSE : ∃ u, mg "CLOSE" = some u ∧ RelV (.int 41) u
  c_NONE : ∃ u, mg "NONE" = some u ∧ RelV (.int 48) u
  c_ALL : ∃ u, mg "ALL" = some u ∧ RelV (.int 49) u
  c_OR : ∃ u, mg "OR" = some u ∧ RelV (.int 124) u
  c_MOST_ARGUMENTS : ∃ u, mg "MOST_ARGUMENTS" = some u ∧ RelV (.int 3) u
  c_MOST_TAGS : ∃ u, mg "MOST_TAGS" = some u ∧ RelV (.int 5) u
  c_MOST_NAME : ∃ u, mg "MOST_NAME" = some u ∧ RelV (.int 8) u
  c_MOST_TEXT : ∃ u, mg "MOST_TEXT" = some u ∧ RelV (.int 60) u
  c_NOTHING : ∃ u, mg "NOTHING" = some u ∧ RelV (.ref A.cNothing) u
  t_NOTHING : ∀ H : Hp, SqT K H A.cNothing [.int 0]
  c_NULL : ∃ u, mg "NULL" = some u ∧ RelV (.ref A.cNull) u
  t_NULL : ∀ H : Hp, SqT K H A.cNull [.int 1]
  c_FALSE : ∃ u, mg "FALSE" = some u ∧ RelV (.ref A.cFalse) u
  t_FALSE : ∀ H : Hp, SqT K H A.cFalse [.int 2]
  c_TRUE : ∃ u, mg "TRUE" = some u ∧ RelV (.ref A.cTrue) u
  t_TRUE : ∀ H : Hp, SqT K H A.cTrue [.int 3]
  c_WEIGHTS : ∃ u, mg "WEIGHTS" = some u ∧ RelV (.ref A.cWeights) u
  t_WEIGHTS : ∀ H : Hp, SqT K H A.cWeights [.int 1, .int 2, .int 4, .int 8, .int 16, .int 32]
  b_len : mg "len" = none
  b_tuple : mg "tuple" = none
  b_list : mg "list" = none
  b_all : mg "all" = none
  b_any : mg "any" = none
  b_sum : mg "sum" = none
  b_str : mg "str" = none
  b_ord : mg "ord" = none
  b_set : mg "set" = none
  b_zip : mg "zip" = none
  b_range : mg "range" = none
  k_Request : Cls K A.rq
  n_Request_octets : NoAttr K A.rq "octets"
  n_Request_at : NoAttr K A.rq "at"
  k_Parser : Cls K A.pa
  n_Parser_octets : NoAttr K A.pa "octets"
  n_Parser_tags : NoAttr K A.pa "tags"
  n_Parser_ahead : NoAttr K A.pa "ahead"
  n_Parser_at : NoAttr K A.pa "at"
  n_Parser_unknown : NoAttr K A.pa "unknown"
  n_Parser_found : NoAttr K A.pa "found"
  k_Change : Cls K A.ch
  n_Change_old_tags : NoAttr K A.ch "old_tags"
  n_Change_new_tags : NoAttr K A.ch "new_tags"
  n_Change_made : NoAttr K A.ch "made"
  k_Library : Cls K A.li
  n_Library_changes : NoAttr K A.li "changes"
  x_Refused : OexC K A.rf
  x_Fields : XfC K A.rf
  n_Refused_order : PySem.W.findIn K (.ref A.rf) "order" = some none
  n_Refused_message : PySem.W.findIn K (.ref A.rf) "message" = some none
  n_Refused_further : PySem.W.findIn K (.ref A.rf) "further" = some none
  m_Refused : mg "Refused" = some (.ref A.rf)
  e_Refused : PySem.W.exmOne K (.ref A.rf) (.ref A.rf) = some true
theorem bt_len : bootBuiltins "len" = some (.builtin "len") := by decide +kernel
theorem bt_tuple : bootBuiltins "tuple" = some (.type "tuple") := by decide +kernel
theorem bt_list : bootBuiltins "list" = some (.type "list") := by decide +kernel
theorem bt_all : bootBuiltins "all" = some (.builtin "all") := by decide +kernel
theorem bt_any : bootBuiltins "any" = some (.builtin "any") := by decide +kernel
theorem bt_sum : bootBuiltins "sum" = some (.builtin "sum") := by decide +kernel
theorem bt_str : bootBuiltins "str" = some (.type "str") := by decide +kernel
theorem bt_ord : bootBuiltins "ord" = some (.builtin "ord") := by decide +kernel
theorem bt_set : bootBuiltins "set" = some (.type "set") := by decide +kernel
theorem bt_zip : bootBuiltins "zip" = some (.type "zip") := by decide +kernel
theorem bt_range : bootBuiltins "range" = some (.type "range") := by decide +kernel
end Tg
end

section
set_option Elab.async false
set_option linter.all false
set_option maxRecDepth 100000
set_option maxHeartbeats 4000000
/-! From a body's reading to the bundle. -/
namespace Tg
open PySem PySem.Spec PyProof.Rows L2
section
variable {P : Program} {w : World} {K : PySem.W.Frag} {mg : Str → Option Value} {base : Heap} {k : Nat} {x qual : Str} {st : Stmt} {N ps : List Str} {f C : Addr} {fd : FuncData}
theorem Env.len {H : Hp} : ∀ {σ : L2.St} {ρ : List (Option Dat)}, Env K H σ ρ → σ.length = ρ.length
  | _, _, .nil => rfl
  | _, _, .skip r => congrArg (· + 1) r.len
  | _, _, .cons _ r => congrArg (· + 1) r.len
theorem Acc.begin {H H' : Hp} {i : Nat} {ρ : List (Option Dat)} {ds : List Dat} {p : Addr} {σ : L2.St} {vs : List V} (e : Env K H σ ρ) (n : H p = none) (s : Same H H') (h : H' p = some (.lst vs)) (r : RpL K H' vs ds) (st : Dat.stills ds = true) (hr : i < ρ.length := by exact Nat.le_of_ble_eq_true rfl) :
    Acc K H i (ρ.set i none) ds p (σ.set i (some (.ref p))) H' := Acc.start n s h r st e (by rw [e.len]; exact hr) hr
/-- the reading of a body that hands back data -/
def Pure1 (K : PySem.W.Frag) (N : List Str) (R : List Dat → Dat → Prop) (t : TS) : Prop := ∀ ds d, R ds d → ∀ (σ : L2.St) (H : Hp) (Q : VK), Env K H σ (begin N ds) → (∀ v H', Same H H' → Rp K H' v d → Q v H') → t { nx := fun _ H' => Q .non H', rt := Q } σ H
def New1 (K : PySem.W.Frag) (N : List Str) (R : List Dat → List Dat → Prop) (t : TS) : Prop := ∀ ds es, R ds es → ∀ (σ : L2.St) (H : Hp) (Q : VK), Env K H σ (begin N ds) → (∀ p ws H', H p = none → Same H H' → H' p = some (.lst ws) → RpL K H' ws es → Q (.ref p) H') → t { nx := fun _ H' => Q .non H', rt := Q } σ H
def May1 (K : PySem.W.Frag) (C : Addr) (N : List Str) (R : List Dat → Except Err Dat → Prop) (E : XK) (t : TS) : Prop := ∀ ds r, R ds r → ∀ (σ : L2.St) (H : Hp) (Q : VK), Env K H σ (begin N ds) → (∀ d, r = .ok d → ∀ v H', Same H H' → Rp K H' v d → Q v H') →
  (∀ e, r = .error e → ∀ a H', Same H H' → XErr K H' a e → E (.ref C) (some a) H') → t { nx := fun _ H' => Q .non H', rt := Q } σ H
theorem ok_pure {R : List Dat → Dat → Prop} (F : Fun K x qual st f fd) (S : FnScope N ps (defScope st)) (len : ∀ ds d, R ds d → ds.length = ps.length)
    (hb : ∀ (cdv : Value) (A : Around) (outer : List PySem.Env) (s : Shared) (H : Hp) (E : XK), Room k (A.deeper (envOfC qual (defScope st) s.heap.objs.size f cdv)) → ∃ t, PSs (cxOf CX0 P w K mg base N qual (defScope st) f cdv A outer s H E).nox (defBody st) t ∧ Pure1 K N R t) :
    FnOk P w K mg base CX0 (k + 1) f fd ps (PureSp K R) := by
  refine F.ok S (fun vs H Q E h => ?_) (fun cdv A outer s H vs Q E hr h => ?_)
  · obtain ⟨ds, d, h1, h2, _⟩ := h
    rw [h1.length]
    exact len ds d h2
  · obtain ⟨ds, d, h1, h2, h3⟩ := h
    obtain ⟨t, ht, q⟩ := hb cdv A outer s H E hr
    exact ⟨t, ht, q ds d h2 _ H Q (env_begin h1) h3⟩
theorem ok_new {R : List Dat → List Dat → Prop} (F : Fun K x qual st f fd) (S : FnScope N ps (defScope st)) (len : ∀ ds d, R ds d → ds.length = ps.length)
    (hb : ∀ (cdv : Value) (A : Around) (outer : List PySem.Env) (s : Shared) (H : Hp) (E : XK), Room k (A.deeper (envOfC qual (defScope st) s.heap.objs.size f cdv)) → ∃ t, PSs (cxOf CX0 P w K mg base N qual (defScope st) f cdv A outer s H E).nox (defBody st) t ∧ New1 K N R t) :
    FnOk P w K mg base CX0 (k + 1) f fd ps (NewSp K R) := by
  refine F.ok S (fun vs H Q E h => ?_) (fun cdv A outer s H vs Q E hr h => ?_)
  · obtain ⟨ds, d, h1, h2, _⟩ := h
    rw [h1.length]
    exact len ds d h2
  · obtain ⟨ds, d, h1, h2, h3⟩ := h
    obtain ⟨t, ht, q⟩ := hb cdv A outer s H E hr
    exact ⟨t, ht, q ds d h2 _ H Q (env_begin h1) h3⟩
theorem ok_may {R : List Dat → Except Err Dat → Prop} (F : Fun K x qual st f fd) (S : FnScope N ps (defScope st)) (len : ∀ ds d, R ds d → ds.length = ps.length)
    (hb : ∀ (cdv : Value) (A : Around) (outer : List PySem.Env) (s : Shared) (H : Hp) (E : XK), Room k (A.deeper (envOfC qual (defScope st) s.heap.objs.size f cdv)) → ∃ t, PSs (cxOf (L2N.CX P w) P w K mg base N qual (defScope st) f cdv A outer s H E) (defBody st) t ∧ May1 K C N R E t) :
    FnOk P w K mg base (L2N.CX P w) (k + 1) f fd ps (MaySp K C R) := by
  refine F.okN S (fun vs H Q E h => ?_) (fun cdv A outer s H vs Q E hr h => ?_)
  · obtain ⟨ds, d, h1, h2, _⟩ := h
    rw [h1.length]
    exact len ds d h2
  · obtain ⟨ds, d, h1, h2, h3, h4⟩ := h
    obtain ⟨t, ht, q⟩ := hb cdv A outer s H E hr
    exact ⟨t, ht, q ds d h2 _ H Q (env_begin h1) h3 h4⟩
end
end Tg
end

section
set_option Elab.async false
set_option linter.all false
set_option maxRecDepth 100000
set_option maxHeartbeats 4000000
/-! Loops beside one filled list; further operators by data. -/
namespace Tg
open PySem PySem.Spec PyProof.Rows L2
section
variable {K : PySem.W.Frag} {H0 : Hp} {i : Nat} {ρ : List (Option Dat)} {ds es : List Dat} {d : Dat} {p : Addr} {σ : L2.St} {H H' : Hp} {te tl : TE} {ta : TA} {tt : TT} {D : Ends} {tb : TS}
theorem Acc.rebase (a : Acc K H0 i ρ ds p σ H) : Acc K (hid p H) i ρ ds p σ H :=
  ⟨by unfold hid; rw [if_pos rfl], Same.refl _, a.env, a.slot, a.off, a.at_, a.still⟩
theorem Acc.unbase (a : Acc K H0 i ρ ds p σ H) {ρ' : List (Option Dat)} {es : List Dat} {σ' : L2.St} (b : Acc K (hid p H) i ρ' es p σ' H') : Acc K H0 i ρ' es p σ' H' :=
  ⟨a.new, a.same.trans b.same, b.env, b.slot, b.off, b.at_, b.still⟩
/-- over a name's list -/
theorem a_forL {α : Type} {l : List α} {s j : Nat} (c : α → Dat) (ρs : Nat → List (Option Dat)) (dss : Nat → List Dat) (a : Acc K H0 i (ρs 0) (dss 0) p σ H) (hsl : (ρs 0)[s]? = some (some (.lst (l.map c)))) (hj : j ≠ i)
    (hs : ∀ (G : Hp) (t : Nat) x σ' H', l[t]? = some x → Acc K G i ((ρs t).set j (some (c x))) (dss t) p σ' H' → tb { D with nx := Acc K G i (ρs (t + 1)) (dss (t + 1)) p, ct := Acc K G i (ρs (t + 1)) (dss (t + 1)) p, bk := D.nx } σ' H')
    (st : ∀ x ∈ l, (c x).still = true)
    (hd : ∀ σ' H', Acc K H0 i (ρs l.length) (dss l.length) p σ' H' → D.nx σ' H') : tFor (iSeq K (tVar s)) (gName j) tb D σ H := by
  obtain ⟨v, h1, h2⟩ := a.env.get hsl
  cases h2 with
  | lst ha r =>
    rename_i b xs
    refine s_forL c (hid p H) (fun t σ' H' => Acc K (hid p H) i (ρs t) (dss t) p σ' H') (fun Q q => ⟨_, h1, q⟩) hid_same ha r a.rebase (fun t σ' H' q => q.out) (fun t x v σ' H' hx rv q => ?_) (fun σ' H' q => hd σ' H' (a.unbase q))
    exact hs _ t x _ H' hx (q.set (rv.mono q.out) (st x (List.mem_of_getElem? hx)) hj)
/-- over a new list -/
theorem a_forN {α : Type} {l : List α} {j : Nat} (c : α → Dat) (ρs : Nat → List (Option Dat)) (dss : Nat → List Dat) (a : Acc K H0 i (ρs 0) (dss 0) p σ H) (h : EvN K tl ((ρs 0).set i (some (.lst (dss 0)))) (l.map c)) (hj : j ≠ i)
    (hs : ∀ (G : Hp) (t : Nat) x σ' H', l[t]? = some x → Acc K G i ((ρs t).set j (some (c x))) (dss t) p σ' H' → tb { D with nx := Acc K G i (ρs (t + 1)) (dss (t + 1)) p, ct := Acc K G i (ρs (t + 1)) (dss (t + 1)) p, bk := D.nx } σ' H')
    (st : ∀ x ∈ l, (c x).still = true)
    (hd : ∀ σ' H', Acc K H0 i (ρs l.length) (dss l.length) p σ' H' → D.nx σ' H') : tFor (iSeq K tl) (gName j) tb D σ H := by
  refine .inl (h σ H a.all _ fun q vs H1 nq s1 hq rq => ?_)
  have a1 := a.grow s1
  obtain ⟨ws, hp, _⟩ := a.at_
  have hne : q ≠ p := fun z => by
    rw [z, hp] at nq
    cases nq
  have hG : hid p H1 q = some (.lst vs) := by
    rw [hid_ne hne]
    exact hq
  have hp1 := s1 _ _ hp
  have hst : Dat.stills (l.map c) = true := stills_iff.mpr fun d hd => by
    obtain ⟨x, hx, rfl⟩ := List.mem_map.mp hd
    exact st x hx
  have rG : RpL K (hid p H1) vs (l.map c) := rq.stay (hid_t hp1) hst
  have hl : vs.length = l.length := by rw [rG.length, List.length_map]
  refine ⟨q, rfl, ⟨_, SqL.of hq⟩, for_list (K := K) (a := q) (xs := vs) (fun t σ' H' => Acc K (hid p H1) i (ρs t) (dss t) p σ' H') a1.rebase (fun t σ' H' _ b => SqL.of (b.out _ _ hG)) (fun t x σ' H' hx b => ?_) (fun σ' H' b => hd σ' H' (a1.unbase (by rw [← hl]; exact b)))⟩
  obtain ⟨d, hd', rd⟩ := rG.back hx
  rw [List.getElem?_map] at hd'
  cases hz : l[t]? with
  | none =>
    rw [hz] at hd'
    cases hd'
  | some z =>
    rw [hz] at hd'
    cases hd'
    exact hs _ t z _ H' hz (b.set (rd.mono b.out) (st z (List.mem_of_getElem? hz)) hj)
/-- over a tuple -/
theorem a_forT {α : Type} {l : List α} {j : Nat} (c : α → Dat) (ρs : Nat → List (Option Dat)) (dss : Nat → List Dat) (a : Acc K H0 i (ρs 0) (dss 0) p σ H) (h : EvD K tl ((ρs 0).set i (some (.lst (dss 0)))) (.tup (l.map c))) (hj : j ≠ i)
    (hs : ∀ (G : Hp) (t : Nat) x σ' H', l[t]? = some x → Acc K G i ((ρs t).set j (some (c x))) (dss t) p σ' H' → tb { D with nx := Acc K G i (ρs (t + 1)) (dss (t + 1)) p, ct := Acc K G i (ρs (t + 1)) (dss (t + 1)) p, bk := D.nx } σ' H')
    (st : ∀ x ∈ l, (c x).still = true)
    (hd : ∀ σ' H', Acc K H0 i (ρs l.length) (dss l.length) p σ' H' → D.nx σ' H') : tFor (iSeq K tl) (gName j) tb D σ H := by
  refine .inr (h σ H a.all _ fun v H1 s1 r1 => ?_)
  have a1 := a.grow s1
  obtain ⟨ws, hp, _⟩ := a.at_
  have hp1 := s1 _ _ hp
  cases r1 with
  | tup ht rt =>
    rename_i q xs
    have hl : xs.length = l.length := by rw [rt.length, List.length_map]
    have hst : Dat.stills (l.map c) = true := stills_iff.mpr fun d hd => by
      obtain ⟨x, hx, rfl⟩ := List.mem_map.mp hd
      exact st x hx
    have rG : RpL K (hid p H1) xs (l.map c) := rt.stay (hid_t hp1) hst
    have tG := hid_t hp1 q xs ht
    refine ⟨q, rfl, ⟨_, ht⟩, for_tup (K := K) (a := q) (xs := xs) (fun t σ' H' => Acc K (hid p H1) i (ρs t) (dss t) p σ' H') a1.rebase (fun t σ' H' _ b => same_t b.out tG) (fun t x σ' H' hx b => ?_) (fun σ' H' b => hd σ' H' (a1.unbase (by rw [← hl]; exact b)))⟩
    obtain ⟨d, hd', rd⟩ := rG.back hx
    rw [List.getElem?_map] at hd'
    cases hz : l[t]? with
    | none =>
      rw [hz] at hd'
      cases hd'
    | some z =>
      rw [hz] at hd'
      cases hd'
      exact hs _ t z _ H' hz (b.set (rd.mono b.out) (st z (List.mem_of_getElem? hz)) hj)
/-- what the def hands back is the list -/
theorem a_ret {to : TE} {Q : VK} (a : Acc K H0 i ρ ds p σ H) (ho : to = tVar i) (k : ∀ p ws H', H0 p = none → Same H0 H' → H' p = some (.lst ws) → RpL K H' ws ds → Q (.ref p) H') : to σ H Q := by
  subst ho
  obtain ⟨vs, h, r⟩ := a.at_
  exact ⟨_, a.slot, k p vs H a.new a.out h r⟩
theorem a_done {Q : VK} {es : List Dat} (a : Acc K H0 i ρ ds p σ H) (h : EvN K te (ρ.set i (some (.lst ds))) es) (k : ∀ p ws H', H0 p = none → Same H0 H' → H' p = some (.lst ws) → RpL K H' ws es → Q (.ref p) H') : te σ H Q :=
  h σ H a.all Q fun q vs H1 n s1 h1 r1 => k q vs H1 (a.out.free n) (a.out.trans s1) h1 r1
/-- found if .. else [..]: the list itself, or a new one -/
theorem a_retIf {to : TE} {b : Bool} {es fs : List Dat} {Q : VK} (a : Acc K H0 i ρ ds p σ H) (ho : to = tVar i) (ht : EvT K tt (ρ.set i (some (.lst ds))) b) (h1 : b = true → ds = fs) (h2 : b = false → EvN K te (ρ.set i (some (.lst ds))) es ∧ es = fs)
    (k : ∀ p ws H', H0 p = none → Same H0 H' → H' p = some (.lst ws) → RpL K H' ws fs → Q (.ref p) H') : tIf tt to te σ H Q :=
  ht σ H a.all _ fun H1 s1 => by
    cases b with
    | true =>
      rw [if_pos rfl]
      have e := h1 rfl
      subst e
      exact a_ret (a.grow s1) ho k
    | false =>
      rw [if_neg (by decide)]
      obtain ⟨hn, e⟩ := h2 rfl
      subst e
      exact a_done (a.grow s1) hn k
end
section
variable {K : PySem.W.Frag}
theorem rv_inFlat {x : V} {vs : List V} (hx : flatV x = true) (h : vs.all flatV = true) : RvD K (rInG K) (.v x) (.tup (sc id vs)) (.v (.bl (inV x vs))) := fun y z H h1 h2 Q q => .inl (by
  have e := h1.v_eq
  subst e
  cases h2 with
  | tup a r =>
    have e := sc_rpl r
    rw [List.map_id] at e
    subst e
    exact ⟨_, _, rfl, .inr a, hx, h, q _ H (Same.refl H) (.v _)⟩)
end
end Tg
end

section
set_option Elab.async false
set_option linter.all false
set_option maxRecDepth 100000
set_option maxHeartbeats 4000000
/-! The rules with the written part named (within comprehensions it must not hang on the block). -/
namespace Tg
open PySem PySem.Spec PyProof.Rows L2
section
variable {X : Cx} (K : PySem.W.Frag)
theorem op_plusK (h : X.K = K := by rfl) : OpR X (binaryOp .Add) (rPlus K) := by
  subst h
  exact op_plus
theorem op_eqGK (hu : X.A.units + 64 < cLine) (h : X.K = K := by rfl) : OpR X (compareOp .Eq) (rEqG K) := by
  subst h
  exact op_eqG hu
theorem op_neGK (hu : X.A.units + 64 < cLine) (h : X.K = K := by rfl) : OpR X (compareOp .NotEq) (rNeG K) := by
  subst h
  exact op_neG hu
theorem op_inGK (hu : X.A.units + 65 < cLine) (h : X.K = K := by rfl) : OpR X (compareOp .In) (rInG K) := by
  subst h
  exact op_inG hu
theorem op_notInGK (hu : X.A.units + 65 < cLine) (h : X.K = K := by rfl) : OpR X (compareOp .NotIn) (rNotInG K) := by
  subst h
  exact op_notInG hu
theorem sl_gK (h : X.K = K := by rfl) : SlR X (rSlG K) := by
  subst h
  exact sl_g
theorem ix_seqK (h : X.K = K := by rfl) : IxR X (rIx K) := by
  subst h
  exact ix_seq
theorem call_lenGK (h : X.K = K := by rfl) : CallR X (.builtin "len") (rLen K) := by
  subst h
  exact call_lenG
theorem call_listGK (h : X.K = K := by rfl) : CallR X (.type "list") (rListOf K) := by
  subst h
  exact call_listG
theorem call_tupGK (h : X.K = K := by rfl) : CallR X (.type "tuple") (rTupOf K) := by
  subst h
  exact call_tupG
theorem cr_allK (hc : X.calm = true) (h : X.K = K := by rfl) : CallR X (.builtin "all") (rAll K) := by
  subst h
  exact cr_all hc
theorem cr_anyK (hc : X.calm = true) (h : X.K = K := by rfl) : CallR X (.builtin "any") (rAny K) := by
  subst h
  exact cr_any hc
theorem cr_sumK (hc : X.calm = true) (h : X.K = K := by rfl) : CallR X (.builtin "sum") (rSum K) := by
  subst h
  exact cr_sum hc
theorem pe_fldK {e : Expr} {f : Str} {pos : Pos} {ta : TE} (he : PE X e ta) (hb : attributeBase e f X.env (eval e X.env) = eval e X.env) (h : X.K = K := by rfl) : PE X (.Attribute e f pos) (tFld K ta f) := by
  subst h
  exact pe_fld he hb
theorem pi_seqK {tg l : Expr} {tl : TE} (hl : PE X l tl) (h : X.K = K := by rfl) : PI X tg l (iSeq K tl) := by
  subst h
  exact pi_seq hl
theorem mt_indexDK (hu : X.A.units + 65 < cLine) (h : X.K = K := by rfl) : MtR X "list.index" (rIndexD K) := by
  subst h
  exact mt_indexD hu
theorem mt_extendGK (h : X.K = K := by rfl) : MtR X "list.extend" (rExtG K) := by
  subst h
  exact mt_extendG
theorem pe_bmK {o e : Expr} {es : List Expr} {to : TE} {t : TA} {name : Str} {apos cpos : Pos} {T id : String} {r : V → List V → Hp → VK → Prop} (pa : PlainAttrs T) (slot : Slot T name id) (hty : typeOf (.builtin id) = pure (.type "method_descriptor"))
    (hm : MtR X id r) (ho : PE X o to) (ha : PA X (e :: es) t) (hbase : attributeBase o name X.env (eval o X.env) = eval o X.env := by rfl)
    (hfew : ((backTo cpos (starEach (e :: es) X.env)).all (fun x => !x.1) && (backToKw cpos (keywordEach [] X.env)).all (fun x => x.1.isSome)
      && decide ((e :: es).length + ([] : List Keyword).length + (if ([] : List Keyword).isEmpty then 0 else 1) < 30)) = true := by rfl)
    (hline : (apos.endLine == cpos.line) = true := by rfl) (hs : starEach (e :: es) X.env = (false, eval e X.env) :: starEach es X.env := by rfl)
    (hplain : (backTo cpos (starEach es X.env)).any (·.1) = false := by rfl) (h : X.K = K := by rfl) :
    PE X (.Call (.Attribute o name apos) (e :: es) [] cpos) (tBM K T r to t) := by
  subst h
  exact pe_bm pa slot hty hm ho ha hbase hfew hline hs hplain
theorem pg_tupK {es : List Expr} {k : Nat} {t : TGs} {n : Nat} {pos : Pos} (hc : X.calm = true) (hg : PGs X es t)
    (hn : (assignEach es X.env).length = n := by rfl) (hst : (assignEach es X.env).findIdx? (·.1) = none := by rfl) (h : X.K = K := by rfl) : PG X (.Tuple es k pos) (gTup K n t) := by
  subst h
  exact pg_tup hc hg hn hst
theorem pi_zipK {e e2 : Expr} {ta : TA} {p pos tpos : Pos} {elts : List Expr} {kk : Nat} (hg : Gl X "zip") (hm : X.mg "zip" = none) (ha : PA X [e, e2] ta)
    (hs : starEach [e, e2] X.env = (false, eval e X.env) :: starEach [e2] X.env := by rfl) (hpl : (backTo pos (starEach [e2] X.env)).any (·.1) = false := by rfl) (h : X.K = K := by rfl) :
    PI X (.Tuple elts kk tpos) (.Call (.Name "zip" p) [e, e2] [] pos) (iZip K ta) := by
  subst h
  exact pi_zip hg hm ha hs hpl
theorem pe_lenSet2K {a : Expr} {ta : TE} {p p2 q pos : Pos} (hc : X.calm = true) (hg : Gl X "len") (hm : X.mg "len" = none) (hg2 : Gl X "set") (hm2 : X.mg "set" = none) (hu : X.A.units + 64 < cLine) (ha : PE X a ta)
    (na : starEach [a] X.env = (false, eval a X.env) :: starEach [] X.env := by rfl) (h : X.K = K := by rfl) : PE X (.Call (.Name "len" p) [.Call (.Name "set" p2) [a] [] q] [] pos) (tLenSet2 K ta) := by
  subst h
  exact pe_lenSet2 hc hg hm hg2 hm2 hu ha na
theorem ps_fldK {o value : Expr} {f : Str} {pos pos' : Pos} {ta tv : TE} (ha : PE X o ta) (hv : PE X value tv) (hs : swapsWith value (some (.Attribute o f pos')) pos.line X.env = pure false) (h : X.K = K := by rfl) :
    PS X (.Assign [.Attribute o f pos'] value pos) (sFld K ta tv f) := by
  subst h
  exact ps_fld ha hv hs
theorem ps_fldaugK {o value : Expr} {f : Str} {pos tpos : Pos} {ta tv : TE} {op : Operator} {rd : V → V → Hp → VK → Prop} (ha : PE X o ta) (hv : PE X value tv) (hop : InOp X op rd) (h : X.K = K := by rfl) :
    PS X (.AugAssign (.Attribute o f tpos) op value pos) (sFldAug K ta tv rd f) := by
  subst h
  exact ps_fldaug ha hv hop
end
section
variable {K : PySem.W.Frag} {ρ : List (Option Dat)} {α : Type}
theorem EvN.to {te : TE} {ds es : List Dat} (h : EvN K te ρ ds) (e : ds = es) : EvN K te ρ es := e ▸ h
theorem ev_yes : EvT K tYes ρ true := fun σ H e Q q => q H (Same.refl H)
theorem filter_yes (l : List α) : (l.filter fun _ => true) = l := by simp
theorem ev_lcL1 {tl te : TE} {j : Nat} {l : List α} (c : α → Dat) (e : α → Dat) (h : EvD K tl ρ (.lst (l.map c))) (hl : l.length ≤ 1000000) (he : ∀ x ∈ l, (e x).still = true)
    (hv : ∀ x ∈ l, EvD K te (ρ.set j (some (c x))) (e x)) : EvN K (tLc (iSeq K tl) (gName j) tYes te [j]) ρ (l.map e) :=
  (ev_lcL c (fun _ => true) e h hl he (fun _ _ => ev_yes) fun x hx _ => hv x hx).to (by rw [filter_yes])
theorem ev_lcT1 {tl te : TE} {j : Nat} {l : List α} (c : α → Dat) (e : α → Dat) (h : EvD K tl ρ (.tup (l.map c))) (hl : l.length ≤ 1000000) (he : ∀ x ∈ l, (e x).still = true)
    (hv : ∀ x ∈ l, EvD K te (ρ.set j (some (c x))) (e x)) : EvN K (tLc (iSeq K tl) (gName j) tYes te [j]) ρ (l.map e) :=
  (ev_lcT c (fun _ => true) e h hl he (fun _ _ => ev_yes) fun x hx _ => hv x hx).to (by rw [filter_yes])
theorem ev_lcR1 {ta : TA} {te : TE} {j : Nat} (n : Nat) (e : Nat → Dat) (h : EvA K ta ρ [.v (.int n)]) (hl : n ≤ 1000000) (he : ∀ x, x < n → (e x).still = true)
    (hv : ∀ x, x < n → EvD K te (ρ.set j (some (.v (.int (x : Nat))))) (e x)) : EvN K (tLc (iRng1 ta) (gName j) tYes te [j]) ρ ((List.range n).map e) :=
  (ev_lcR n (fun _ => true) e h hl he (fun _ _ => ev_yes) fun x hx _ => hv x hx).to (by rw [filter_yes])
theorem ev_lcS1 {tl te : TE} {j : Nat} (z : Str) (e : Nat → Dat) (h : EvD K tl ρ (.v (.str z))) (hl : z.cps.size ≤ 1000000) (he : ∀ x, (e x).still = true)
    (hv : ∀ x, EvD K te (ρ.set j (some (.v (.str ⟨#[x]⟩)))) (e x)) : EvN K (tLc (iStr tl) (gName j) tYes te [j]) ρ (z.cps.toList.map e) :=
  (ev_lcS z (fun _ => true) e h hl he (fun _ => ev_yes) fun x _ => hv x).to (by rw [filter_yes])
end
end Tg
end

section
set_option Elab.async false
set_option linter.all false
set_option maxRecDepth 100000
set_option maxHeartbeats 4000000
/-! The small defs. -/
namespace Tg
open PySem PySem.Spec PyProof.Rows L2
open R7292f
/-! ### the data of the specification's things -/
def uI (c : UInt16) : V := .int (c.toNat : Nat)
def uD (u : Spec.Units) : Dat := .tup (sc uI u)
def tagsD (l : List Spec.Units) : Dat := .lst (l.map uD)
def bsD (l : List Bool) : Dat := .lst (sc V.bl l)
def nI (n : Nat) : V := .int (n : Nat)
def nsD (l : List Nat) : Dat := .lst (sc nI l)
def oI : Option Bool → V
  | some true => .int 0
  | some false => .int 1
  | none => .int 2
def termD (t : Spec.Term) : Dat := .tup (sc oI t)
def txtD (u : Spec.Units) : Dat := .lst (sc uI u)
def intD (i : Int) : Dat := .v (.int i)
def blD (b : Bool) : Dat := .v (.bl b)
def strD (z : Str) : Dat := .v (.str z)
theorem uD_still (u : Spec.Units) : (uD u).still = true := sc_stills _ _
theorem termD_still (u : Spec.Term) : (termD u).still = true := sc_stills _ _
theorem uD_stills (l : List Spec.Units) : Dat.stills (l.map uD) = true := stills_iff.mpr fun d hd => by
  obtain ⟨u, _, rfl⟩ := List.mem_map.mp hd
  exact uD_still u
section
variable {P : Program} {w : World} {K : PySem.W.Frag} {mg : Str → Option Value} {base : Heap} {A : Ad} {f : Addr} {fd : FuncData} {ρ : List (Option Dat)}
/-! ### is_letter -/
abbrev s_is_letter : Stmt := top 36
abbrev N_is_letter : List Str := ["code"]
theorem sc_is_letter : FnScope N_is_letter ["code"] (defScope s_is_letter) :=
  ⟨rfl, rfl, rfl, by decide +kernel, rfl, by decide +kernel, by decide +kernel⟩
def R_is_letter (ds : List Dat) (d : Dat) : Prop := ∃ c : UInt16, ds = [.v (uI c)] ∧ d = .v (.bl (Spec.isLetter c))
theorem letter_eq (c : UInt16) : ((decide ((65 : Int) ≤ (c.toNat : Nat)) && decide (((c.toNat : Nat) : Int) ≤ 90)) || (decide ((97 : Int) ≤ (c.toNat : Nat)) && decide (((c.toNat : Nat) : Int) ≤ 122))) = Spec.isLetter c := by
  unfold Spec.isLetter
  have e1 : decide ((65 : Int) ≤ (c.toNat : Nat)) = decide ((65 : UInt16) ≤ c) :=
    decide_eq_decide.mpr (by rw [UInt16.le_iff_toNat_le]; show _ ↔ 65 ≤ c.toNat; omega)
  have e2 : decide (((c.toNat : Nat) : Int) ≤ 90) = decide (c ≤ (90 : UInt16)) :=
    decide_eq_decide.mpr (by rw [UInt16.le_iff_toNat_le]; show _ ↔ c.toNat ≤ 90; omega)
  have e3 : decide ((97 : Int) ≤ (c.toNat : Nat)) = decide ((97 : UInt16) ≤ c) :=
    decide_eq_decide.mpr (by rw [UInt16.le_iff_toNat_le]; show _ ↔ 97 ≤ c.toNat; omega)
  have e4 : decide (((c.toNat : Nat) : Int) ≤ 122) = decide (c ≤ (122 : UInt16)) :=
    decide_eq_decide.mpr (by rw [UInt16.le_iff_toNat_le]; show _ ↔ c.toNat ≤ 122; omega)
  rw [e1, e2, e3, e4, Bool.or_comm]
theorem ok_is_letter (D : Df K mg "is_letter" s_is_letter ["code"] f fd) (T : Txt K mg A) : Cl P w K mg base CX0 1 "is_letter" (PureSp K R_is_letter) := by
  refine D.cl (ok_pure D.fn sc_is_letter (fun ds d h => ?_) fun cdv A outer s H E hr => ⟨_, (pss_one (ps_ret (pe_or (pe_chain op_leI op_leI pe_int (pv 0) pe_int) (pe_one (pe_chain op_leI op_leI pe_int (pv 0) pe_int))))), ?_⟩)
  · obtain ⟨c, rfl, rfl⟩ := h
    rfl
  · rintro ds d ⟨c, rfl, rfl⟩ σ H Q e k
    refine s_ret e ?_ k
    refine EvD.to (ev_orV (ev_chain ev_c (ev_var rfl) ev_c rv_le rv_le) fun _ => ev_chain ev_c (ev_var rfl) ev_c rv_le rv_le) ?_
    rw [letter_eq]
/-! ### many_items, has -/
def weights : List Int := [1, 2, 4, 8, 16, 32]
abbrev s_many_items : Stmt := top 37
abbrev N_many_items : List Str := ["many"]
theorem sc_many_items : FnScope N_many_items ["many"] (defScope s_many_items) :=
  ⟨rfl, rfl, rfl, by decide +kernel, rfl, by decide +kernel, by decide +kernel⟩
def R_many_items (ds : List Dat) (d : Dat) : Prop := ∃ n : Nat, ds = [.v (.int n)] ∧ n ≤ 5 ∧ d = .v (.int (2 ^ n : Nat))
theorem weight_at {n : Nat} (h : n ≤ 5) : (sc V.int weights)[n]? = some (.v (.int (2 ^ n : Nat))) := by
  rcases n with _ | _ | _ | _ | _ | _ | n <;> first | rfl | omega
theorem ev_weights (T : Txt K mg A) {ρ : List (Option Dat)} : EvD K (tC (.ref A.cWeights)) ρ (.tup (sc V.int weights)) := ev_ct T.t_WEIGHTS fun H => rpl_sc V.int weights
theorem ok_many_items (D : Df K mg "many_items" s_many_items ["many"] f fd) (T : Txt K mg A) : Cl P w K mg base CX0 1 "many_items" (PureSp K R_many_items) := by
  refine D.cl (ok_pure D.fn sc_many_items (fun ds d h => ?_) fun cdv A outer s H E hr => ⟨_, (pss_one (ps_ret (pe_ix (ix_seqK K) (C8.pe_gc rfl T.c_WEIGHTS) (pv 0) (fun _ _ => rfl)))), ?_⟩)
  · obtain ⟨c, rfl, _, rfl⟩ := h
    rfl
  · rintro ds d ⟨n, rfl, hn, rfl⟩ σ H Q e k
    refine s_ret e ?_ k
    exact ev_op (ev_weights T) (ev_var rfl) (rv_ixT (by omega) (weight_at hn))
abbrev s_has : Stmt := top 38
abbrev N_has : List Str := ["item", "tag"]
theorem sc_has : FnScope N_has ["item", "tag"] (defScope s_has) :=
  ⟨rfl, rfl, rfl, by decide +kernel, rfl, by decide +kernel, by decide +kernel⟩
def R_has (ds : List Dat) (d : Dat) : Prop := ∃ m i : Nat, ds = [.v (.int m), .v (.int i)] ∧ i ≤ 5 ∧ d = .v (.bl (m.testBit i))
theorem bit_eq (m i : Nat) : decide (((m : Nat) : Int) / ((2 ^ i : Nat) : Int) % 2 = 1) = m.testBit i := by
  rw [Nat.testBit_eq_decide_div_mod_eq]
  refine decide_eq_decide.mpr ?_
  rw [← Int.natCast_ediv]
  omega
theorem ok_has (D : Df K mg "has" s_has ["item", "tag"] f fd) (T : Txt K mg A) : Cl P w K mg base CX0 1 "has" (PureSp K R_has) := by
  refine D.cl (ok_pure D.fn sc_has (fun ds d h => ?_) fun cdv A outer s H E hr => ⟨_, (pss_one (ps_ret (pe_cmpR (op_eqGK K hr.units) (pe_op op_md (pe_op op_fd (pv 0) (pe_ix (ix_seqK K) (C8.pe_gc rfl T.c_WEIGHTS) (pv 1) (fun _ _ => rfl))) pe_int) pe_int (nomark _)))), ?_⟩)
  · obtain ⟨m, i, rfl, _, rfl⟩ := h
    rfl
  · rintro ds d ⟨m, i, rfl, hi, rfl⟩ σ H Q e k
    refine s_ret e ?_ k
    have hp : (0 : Int) < ((2 ^ i : Nat) : Int) ∧ ((2 ^ i : Nat) : Int) < 1073741824 := by
      rcases i with _ | _ | _ | _ | _ | _ | i <;> first | decide | omega
    refine EvD.to (ev_op (ev_op (ev_op (ev_var rfl) (ev_op (ev_weights T) (ev_var rfl) (rv_ixT (by omega) (weight_at hi))) (rv_fd hp)) ev_c (rv_md (by decide))) ev_c rv_eqI) ?_
    rw [bit_eq]
    rfl
/-! ### integer, truth, listed -/
abbrev s_integer : Stmt := top 13
abbrev N_integer : List Str := ["number"]
theorem sc_integer : FnScope N_integer ["number"] (defScope s_integer) :=
  ⟨rfl, rfl, rfl, by decide +kernel, rfl, by decide +kernel, by decide +kernel⟩
def R_integer (ds : List Dat) (d : Dat) : Prop := ∃ i : Int, ds = [.v (.int i)] ∧ d = .tup [.v (.int 4), .v (.int i)]
theorem ok_integer (D : Df K mg "integer" s_integer ["number"] f fd) (T : Txt K mg A) : Cl P w K mg base CX0 1 "integer" (PureSp K R_integer) := by
  refine D.cl (ok_pure D.fn sc_integer (fun ds d h => ?_) fun cdv A outer s H E hr => ⟨_, (pss_one (ps_ret (pe_tup (pa_cons (C8.pe_gc rfl T.c_INTEGER) (pa_cons (pv 0) pa_nil))))), ?_⟩)
  · obtain ⟨i, rfl, rfl⟩ := h
    rfl
  · rintro ds d ⟨i, rfl, rfl⟩ σ H Q e k
    exact s_ret e (ev_tup (ev_cons ev_c (ev_cons (ev_var rfl) ev_nil))) k
abbrev s_truth : Stmt := top 14
abbrev N_truth : List Str := ["told"]
theorem sc_truth : FnScope N_truth ["told"] (defScope s_truth) :=
  ⟨rfl, rfl, rfl, by decide +kernel, rfl, by decide +kernel, by decide +kernel⟩
def R_truth (ds : List Dat) (d : Dat) : Prop := ∃ b : Bool, ds = [.v (.bl b)] ∧ d = .tup [.v (.int (if b then 3 else 2))]
theorem ev_one {x : Addr} {n : Int} (h : ∀ H : Hp, SqT K H x [.int n]) : EvD K (tC (.ref x)) ρ (.tup [.v (.int n)]) := ev_ct h fun H => rpl_sc V.int [n]
theorem ok_truth (D : Df K mg "truth" s_truth ["told"] f fd) (T : Txt K mg A) : Cl P w K mg base CX0 1 "truth" (PureSp K R_truth) := by
  refine D.cl (ok_pure D.fn sc_truth (fun ds d h => ?_) fun cdv A outer s H E hr => ⟨_, (pss_one (ps_ret (pe_ifExp (pt_val (pv 0)) (C8.pe_gc rfl T.c_TRUE) (C8.pe_gc rfl T.c_FALSE)))), ?_⟩)
  · obtain ⟨i, rfl, rfl⟩ := h
    rfl
  · rintro ds d ⟨b, rfl, rfl⟩ σ H Q e k
    refine s_ret e (ev_if (ev_B (ev_var rfl)) (fun h => ?_) fun h => ?_) k
    · subst h
      exact ev_one T.t_TRUE
    · subst h
      exact ev_one T.t_FALSE
abbrev s_listed : Stmt := top 15
abbrev N_listed : List Str := ["rows"]
theorem sc_listed : FnScope N_listed ["rows"] (defScope s_listed) :=
  ⟨rfl, rfl, rfl, by decide +kernel, rfl, by decide +kernel, by decide +kernel⟩
def R_listed (ds : List Dat) (d : Dat) : Prop := ∃ l : List Dat, ds = [.lst l] ∧ d = .tup [.v (.int 7), .tup l]
theorem ok_listed (D : Df K mg "listed" s_listed ["rows"] f fd) (T : Txt K mg A) : Cl P w K mg base CX0 1 "listed" (PureSp K R_listed) := by
  refine D.cl (ok_pure D.fn sc_listed (fun ds d h => ?_) fun cdv A outer s H E hr => ⟨_, (pss_one (ps_ret (pe_tup (pa_cons (C8.pe_gc rfl T.c_LIST) (pa_cons (pe_callTy (call_tupGK K) (by rfl) T.b_tuple bt_tuple (pa_cons (pv 0) pa_nil)) pa_nil))))), ?_⟩)
  · obtain ⟨i, rfl, rfl⟩ := h
    rfl
  · rintro ds d ⟨l, rfl, rfl⟩ σ H Q e k
    exact s_ret e (ev_tup (ev_cons ev_c (ev_cons (ev_cb (ev_cons (ev_var rfl) ev_nil) rc_tupL) ev_nil))) k
/-! ### low_first -/
abbrev s_low_first : Stmt := top 17
abbrev N_low_first : List Str := ["number", "many", "found", "turn"]
theorem sc_low_first : FnScope N_low_first ["number", "many"] (defScope s_low_first) :=
  ⟨rfl, rfl, rfl, by decide +kernel, rfl, by decide +kernel, by decide +kernel⟩
/-- a number in so many octets -/
def lowN : Nat → Nat → List Nat
  | 0, _ => []
  | k + 1, n => (n % 256) :: lowN k (n / 256)
theorem lowN_snoc : ∀ (k n : Nat), lowN (k + 1) n = lowN k n ++ [n / 256 ^ k % 256]
  | 0, n => by simp [lowN]
  | k + 1, n => by
    show (n % 256) :: lowN (k + 1) (n / 256) = (n % 256) :: lowN k (n / 256) ++ [n / 256 ^ (k + 1) % 256]
    rw [lowN_snoc k (n / 256), Nat.div_div_eq_div_mul, show 256 * 256 ^ k = 256 ^ (k + 1) by rw [Nat.pow_succ]; omega]
    rfl
theorem lowN_len : ∀ (k n : Nat), (lowN k n).length = k
  | 0, _ => rfl
  | k + 1, n => congrArg (· + 1) (lowN_len k _)
def R_low_first (ds : List Dat) (es : List Dat) : Prop := ∃ n k : Nat, ds = [.v (.int n), .v (.int k)] ∧ k ≤ 100 ∧ es = sc nI (lowN k n)
theorem ok_low_first (D : Df K mg "low_first" s_low_first ["number", "many"] f fd) (T : Txt K mg A) : Cl P w K mg base CX0 1 "low_first" (NewSp K R_low_first) := by
  refine D.cl (ok_new D.fn sc_low_first (fun ds d h => ?_) fun cdv A outer s H E hr => ⟨_, (pss_cons (ps_set (i := 2) sc_low_first.nd rfl (Or.inl rfl) (pe_lst pa_nil))
    (pss_cons (ps_for PassesOwn.never rfl (pi_range1 rfl T.b_range (pa_cons (pv 1) pa_nil)) (pg_name (i := 3) sc_low_first.nd rfl (Or.inl rfl)) (pss_cons (ps_expr (pe_bmK K PySem.F.plainAttrs_list PySem.F.slot_list_append PySem.F.type_list_append mt_append (pv 2) (pa_cons (pe_op op_md (pv 0) pe_int) pa_nil)))
    (pss_one (ps_set (i := 0) sc_low_first.nd rfl (Or.inl rfl) (pe_op op_fd (pv 0) pe_int)))))
    (pss_one (ps_ret (pv 2))))), ?_⟩)
  · obtain ⟨n, k, rfl, _, rfl⟩ := h
    rfl
  · rintro ds es ⟨n, m, rfl, hm, rfl⟩ σ H Q e k
    refine s_seq (s_asgN e (ev_lst ev_nil) fun p vs H1 np s1 h1 r1 => ?_)
    have a := Acc.begin (i := 2) e np s1 h1 r1 rfl
    refine s_seq (a_forR (fun t => [some (.v (.int (n / 256 ^ t : Nat))), some (.v (.int m)), none, none]) (fun t => sc nI (lowN t n)) (by simpa [begin, N_low_first, lowN] using a) (ev_cons (ev_var rfl) ev_nil) (by omega) (by decide) ?_ ?_)
    · intro t σ' H' ht a
      refine s_seq (a_app a rfl (ev_op (ev_var rfl) ev_c (rv_md (by decide))) rfl (by rw [List.length_map, lowN_len]; omega) fun H2 a2 => ?_)
      refine a_asg a2 (ev_op (ev_var rfl) ev_c (rv_fd (by decide))) rfl (by decide) fun σ3 H3 a3 => ?_
      have z1 : ((n / 256 ^ t : Nat) : Int) / 256 = ((n / 256 ^ (t + 1) : Nat) : Int) := by
        rw [Nat.pow_succ, ← Nat.div_div_eq_div_mul]
        omega
      have z2 : sc nI (lowN t n) ++ [Dat.v (V.int (((n / 256 ^ t : Nat) : Int) % 256))] = sc nI (lowN (t + 1) n) := by
        rw [lowN_snoc]
        simp [sc, nI]
      rw [z1, z2] at a3
      have a4 := a3.forget (j := 3) (by decide)
      exact a4
    · intro σ' H' a
      have ⟨vs', h', r'⟩ := a.at_
      exact ⟨_, a.slot, k p vs' H' a.new a.out h' r'⟩
end
end Tg
end

section
set_option Elab.async false
set_option linter.all false
set_option maxRecDepth 100000
set_option maxHeartbeats 4000000
/-! Terms, prime terms, canonical texts. -/
namespace Tg
open PySem PySem.Spec PyProof.Rows L2
open R7292f
/-! ### the mathematics -/
def termsUp : Nat → List Spec.Term
  | 0 => [[]]
  | n + 1 => (termsUp n).flatMap fun r => [some true, some false, none].map fun o => r ++ [o]
theorem allTerms_snoc : ∀ n : Nat, Spec.allTerms (n + 1) = (Spec.allTerms n).flatMap fun r => [some true, some false, none].map fun o => r ++ [o]
  | 0 => rfl
  | n + 1 => by
    have ih := allTerms_snoc n
    have e : Spec.allTerms (n + 1 + 1) = [some true, some false, none].flatMap fun o => (Spec.allTerms (n + 1)).map fun c => o :: c := rfl
    have e2 : Spec.allTerms (n + 1) = [some true, some false, none].flatMap fun o => (Spec.allTerms n).map fun c => o :: c := rfl
    rw [e, ih]
    conv => rhs; rw [← ih, e2]
    simp [List.flatMap_assoc, List.map_flatMap, List.flatMap_map]
theorem termsUp_eq : ∀ n : Nat, termsUp n = Spec.allTerms n
  | 0 => rfl
  | n + 1 => by
    rw [allTerms_snoc, ← termsUp_eq n]
    rfl
theorem allTerms_len : ∀ (n : Nat) (t : Spec.Term), t ∈ Spec.allTerms n → t.length = n
  | 0, t, h => by
    have : t = [] := by simpa [Spec.allTerms] using h
    rw [this]
    rfl
  | n + 1, t, h => by
    have h' : t ∈ [some true, some false, none].flatMap fun o => (Spec.allTerms n).map fun c => o :: c := h
    rw [List.mem_flatMap] at h'
    obtain ⟨o, _, h2⟩ := h'
    obtain ⟨c, hc, rfl⟩ := List.mem_map.mp h2
    rw [List.length_cons, allTerms_len n c hc]
theorem allTerms_many : ∀ n : Nat, (Spec.allTerms n).length = 3 ^ n
  | 0 => rfl
  | n + 1 => by
    have ih := allTerms_many n
    have e2 : Spec.allTerms (n + 1) = [some true, some false, none].flatMap fun o => (Spec.allTerms n).map fun c => o :: c := rfl
    rw [e2, Nat.pow_succ, ← ih]
    simp
    omega
section
variable {P : Program} {w : World} {K : PySem.W.Frag} {mg : Str → Option Value} {base : Heap} {A : Ad} {f : Addr} {fd : FuncData} {ρ : List (Option Dat)}
/-! ### all_terms -/
abbrev s_all_terms : Stmt := top 40
abbrev N_all_terms : List Str := ["many", "rows", "tag", "longer", "row", "own"]
theorem sc_all_terms : FnScope N_all_terms ["many"] (defScope s_all_terms) :=
  ⟨rfl, rfl, rfl, by decide +kernel, rfl, by decide +kernel, by decide +kernel⟩
def R_all_terms (ds : List Dat) (es : List Dat) : Prop := ∃ n : Nat, ds = [.v (.int n)] ∧ n ≤ 5 ∧ es = (Spec.allTerms n).map termD
theorem sc_app {α : Type} (c : α → V) (l m : List α) : sc c l ++ sc c m = sc c (l ++ m) := (List.map_append ..).symm
theorem ok_all_terms (D : Df K mg "all_terms" s_all_terms ["many"] f fd) (T : Txt K mg A) : Cl P w K mg base CX0 1 "all_terms" (NewSp K R_all_terms) := by
  refine D.cl (ok_new D.fn sc_all_terms (fun ds d h => ?_) fun cdv A outer s H E hr => ⟨_, (pss_cons (ps_set (i := 1) sc_all_terms.nd rfl (Or.inl rfl) (pe_lst (pa_cons (pe_tup pa_nil) pa_nil)))
    (pss_cons (ps_for PassesOwn.never rfl (pi_range1 rfl T.b_range (pa_cons (pv 0) pa_nil)) (pg_name (i := 2) sc_all_terms.nd rfl (Or.inl rfl)) (pss_cons (ps_set (i := 3) sc_all_terms.nd rfl (Or.inl rfl) (pe_lst pa_nil))
    (pss_cons (ps_for PassesOwn.never rfl (pi_seqK K (pv 1)) (pg_name (i := 4) sc_all_terms.nd rfl (Or.inr rfl)) (pss_one (ps_expr (pe_bmK K PySem.F.plainAttrs_list PySem.F.slot_list_extend PySem.F.type_list_extend (mt_extendGK K) (pv 3) (pa_cons (pe_lc (own := [("own", 5)]) (by rfl) sc_all_terms.nd (pi_seqK K (pe_tup (pa_cons (C8.pe_gc rfl T.c_WANTED) (pa_cons (C8.pe_gc rfl T.c_UNWANTED) (pa_cons (C8.pe_gc rfl T.c_EITHER) pa_nil))))) (blkOk_by (own := [("own", 5)]) (N := N_all_terms) (sc := defScope s_all_terms) (by decide +kernel)) (fun _ _ _ _ _ => (pg_name (i := 5) sc_all_terms.nd rfl (Or.inl rfl))) (fun _ _ _ _ _ => pts_nil) (fun _ _ _ _ _ => (pe_op (op_plusK K) (pv 4) (pe_tup (pa_cons (pv 5) pa_nil))))) pa_nil)))))
    (pss_one (ps_set (i := 1) sc_all_terms.nd rfl (Or.inl rfl) (pv 3))))))
    (pss_one (ps_ret (pv 1))))), ?_⟩)
  · obtain ⟨n, rfl, _, rfl⟩ := h
    rfl
  · rintro ds es ⟨n, rfl, hn, rfl⟩ σ H Q e k
    have hd : ∀ (ρ : List (Option Dat)) (σ : L2.St) (H1 : Hp), Same H H1 → (∃ p vs, H p = none ∧ H1 p = some (.lst vs) ∧ RpL K H1 vs ((termsUp n).map termD) ∧ σ[1]? = some (some (.ref p))) → tVar 1 σ H1 Q := by
      rintro ρ σ H1 s1 ⟨p, vs, np, hp, r, hs⟩
      rw [termsUp_eq] at r
      exact ⟨_, hs, k p vs H1 np s1 hp r⟩
    refine s_seq (s_asgN (ds := [termD []]) e (ev_lst (ev_cons (ev_tup ev_nil) ev_nil)) fun p vs H1 np s1 h1 r1 => ?_)
    have e1 : Env K H1 (σ.set 1 (some (.ref p))) [some (.v (.int n)), some (.lst ((termsUp 0).map termD)), none, none, none, none] := (e.mono s1).set 1 (.lst h1 r1)
    refine s_seq (s_forR (n := n) (fun t σ' H' => Same H H' ∧ (∃ p vs, H p = none ∧ H' p = some (.lst vs) ∧ RpL K H' vs ((termsUp t).map termD) ∧ σ'[1]? = some (some (.ref p))) ∧ Env K H' σ' [some (.v (.int n)), some (.lst ((termsUp t).map termD)), none, none, none, none])
      e1 (ev_cons (ev_var rfl) ev_nil) (by omega) (fun H' s' => ⟨s1.trans s', ⟨p, vs, np, s' _ _ h1, r1.mono s', by have := e1.len; simp at this; simp [this]⟩, e1.mono s'⟩) ?_ ?_)
    · rintro t σ' H' ht ⟨s', _, e'⟩
      have e2 := e'.set 2 (d := .v (.int (t : Nat))) (.v _)
      refine s_seq (s_asgN e2 (ev_lst ev_nil) fun q ws H2 nq s2 h2 r2 => ?_)
      have a := Acc.begin (i := 3) e2 nq s2 h2 r2 rfl
      refine s_seq (a_forL (l := termsUp t) termD (fun _ => [some (.v (.int n)), some (.lst ((termsUp t).map termD)), some (.v (.int (t : Nat))), none, none, none])
        (fun i => (((termsUp t).take i).flatMap fun r => [some true, some false, none].map fun o => r ++ [o]).map termD) (by simpa using a) rfl (by decide) ?_ (fun x _ => termD_still x) ?_)
      · intro G i x σ3 H3 hx a3
        have hlen : (termsUp t).length ≤ 243 := by
          rw [termsUp_eq, allTerms_many]
          calc 3 ^ t ≤ 3 ^ 5 := Nat.pow_le_pow_right (by decide) (by omega)
            _ ≤ 243 := by decide
        have ex : x.length = t := by
          have hm := List.mem_of_getElem? hx
          rw [termsUp_eq] at hm
          exact allTerms_len t x hm
        refine a_ext a3 rfl (EvN.toD (ev_lcT (α := Option Bool) (l := [some true, some false, none]) (fun o => .v (oI o)) (fun _ => true) (fun o => termD (x ++ [o]))
            (ev_tup (ev_cons ev_c (ev_cons ev_c (ev_cons ev_c ev_nil)))) (by decide) (fun o _ => termD_still _)
            (fun o _ => fun σ H e Q q => q H (Same.refl H))
            (fun o _ _ => EvD.to (ev_op (ev_var rfl) (ev_tup (ev_cons (ev_var rfl) ev_nil)) (rv_plusT (ds := sc oI x) (es := sc oI [o]) (by simp [ex]; exact Nat.le_trans (show t + 1 ≤ 1000 by omega) (by decide))))
              (by rw [sc_app]; rfl)))) ?_ ?_ fun H4 a4 => ?_
        · refine stills_iff.mpr fun d hd => ?_
          obtain ⟨o, _, rfl⟩ := List.mem_map.mp hd
          exact termD_still _
        · have h1 : (((termsUp t).take i).flatMap fun r => [some true, some false, none].map fun o => r ++ [o]).length ≤ 3 * 243 := by
            rw [List.length_flatMap]
            have : ((((termsUp t).take i).map fun r => ([some true, some false, none].map fun o => r ++ [o]).length)).sum = 3 * ((termsUp t).take i).length := by
              generalize (termsUp t).take i = l
              induction l with
              | nil => rfl
              | cons a l ih =>
                rw [List.map_cons, List.sum_cons, ih, List.length_cons]
                simp
                omega
            rw [this, List.length_take]
            omega
          have h2 : (([some true, some false, none] : List (Option Bool)).filter fun _ => true).length = 3 := rfl
          rw [List.length_map, List.length_map, h2]
          omega
        · have a5 := a4.forget (j := 4) (by decide)
          have tk : (termsUp t).take (i + 1) = (termsUp t).take i ++ [x] := by rw [List.take_add_one, hx] <;> rfl
          rw [tk]
          simpa using a5
      · intro σ3 H3 a3
        have e3 := a3.all
        rw [List.take_length] at e3
        obtain ⟨zs, hz, rz⟩ := a3.at_
        rw [List.take_length] at rz
        refine ⟨_, a3.slot, s'.trans a3.out, ⟨q, zs, s'.free a3.new, hz, rz, ?_⟩, ?_⟩
        · have := e3.len
          simp at this
          simp [this]
        · exact (((e3.set 1 (.lst hz rz)).forget 3).forget 2)
    · rintro σ' H' ⟨s', hx, _⟩
      exact hd [] σ' H' s' hx
end
end Tg
end

section
set_option Elab.async false
set_option linter.all false
set_option maxRecDepth 100000
set_option maxHeartbeats 4000000
/-! Terms that find, prime terms. -/
namespace Tg
open PySem PySem.Spec PyProof.Rows L2
open R7292f
/-! ### the mathematics -/
def fitsAt (t : Spec.Term) (m i : Nat) : Bool := inV (oI (t.getD i none)) [.int 2, .int (if m.testBit i then 0 else 1)]
theorem fits_one (o : Option Bool) (b : Bool) : inV (oI o) [.int 2, .int (if b then 0 else 1)] = (match o with
    | some x => b == x
    | none => true) := by
  cases o with
  | none => cases b <;> rfl
  | some x => cases x <;> cases b <;> rfl
theorem coversFrom_all : ∀ (t : Spec.Term) (i m : Nat), Spec.coversFrom i t m = (List.range t.length).all fun k => inV (oI (t.getD k none)) [.int 2, .int (if m.testBit (i + k) then 0 else 1)]
  | [], _, _ => rfl
  | o :: t, i, m => by
    have ih := coversFrom_all t (i + 1) m
    show ((match o with
      | some b => m.testBit i == b
      | none => true) && Spec.coversFrom (i + 1) t m) = _
    rw [ih, List.length_cons, List.range_succ_eq_map, List.all_cons, List.all_map]
    congr 1
    · rw [← fits_one]
      rfl
    · refine congrArg (fun g => (List.range t.length).all g) (funext fun k => ?_)
      show _ = inV (oI ((o :: t).getD (k + 1) none)) [.int 2, .int (if m.testBit (i + (k + 1)) then 0 else 1)]
      rw [show i + 1 + k = i + (k + 1) by omega]
      rfl
theorem covers_all (t : Spec.Term) (m : Nat) : Spec.covers t m = (List.range t.length).all fun i => fitsAt t m i := by
  unfold Spec.covers
  rw [coversFrom_all]
  refine congrArg (fun g => (List.range t.length).all g) (funext fun k => ?_)
  unfold fitsAt
  rw [Nat.zero_add]
section
variable {P : Program} {w : World} {K : PySem.W.Frag} {mg : Str → Option Value} {base : Heap} {A : Ad} {f : Addr} {fd : FuncData} {ρ : List (Option Dat)}
theorem rc_allM {α : Type} {l : List α} {g : α → Bool} : RcD K (rAll K) [.lst (l.map fun x => .v (.bl (g x)))] (.v (.bl (l.all g))) := by
  have h := rc_all (K := K) (bs := l.map g)
  have e1 : sc V.bl (l.map g) = l.map fun x => Dat.v (.bl (g x)) := by simp [sc]
  have e2 : (l.map g).all id = l.all g := by simp
  rw [e1, e2] at h
  exact h
theorem rc_anyM {α : Type} {l : List α} {g : α → Bool} : RcD K (rAny K) [.lst (l.map fun x => .v (.bl (g x)))] (.v (.bl (l.any g))) := by
  have h := rc_any (K := K) (bs := l.map g)
  have e1 : sc V.bl (l.map g) = l.map fun x => Dat.v (.bl (g x)) := by simp [sc]
  have e2 : (l.map g).any id = l.any g := by simp
  rw [e1, e2] at h
  exact h
theorem sc_get {α : Type} {c : α → V} {l : List α} {i : Nat} {x : α} (h : l[i]? = some x) : (sc c l)[i]? = some (.v (c x)) := by simp [h]
theorem getD_of {α : Type} {l : List α} {i : Nat} {d : α} (h : i < l.length) : l[i]? = some (l.getD i d) := by
  rw [List.getD_eq_getElem?_getD]
  simp [h]
/-! ### fulfils -/
abbrev s_fulfils : Stmt := top 41
abbrev N_fulfils : List Str := ["item", "term", "tag"]
theorem sc_fulfils : FnScope N_fulfils ["item", "term"] (defScope s_fulfils) :=
  ⟨rfl, rfl, rfl, by decide +kernel, rfl, by decide +kernel, by decide +kernel⟩
def R_fulfils (ds : List Dat) (d : Dat) : Prop := ∃ (m : Nat) (t : Spec.Term), ds = [.v (.int m), termD t] ∧ t.length ≤ 5 ∧ d = .v (.bl (Spec.covers t m))
theorem flat_oI (o : Option Bool) : flatV (oI o) = true := by
  cases o with
  | none => rfl
  | some b => cases b <;> rfl
theorem ok_fulfils (D : Df K mg "fulfils" s_fulfils ["item", "term"] f fd) (T : Txt K mg A) (g_has : Cl P w K mg base CX0 1 "has" (PureSp K R_has)) : Cl P w K mg base CX0 2 "fulfils" (PureSp K R_fulfils) := by
  refine D.cl (ok_pure D.fn sc_fulfils (fun ds d h => ?_) fun cdv A outer s H E hr => ⟨_, (pss_one (ps_ret (pe_callB (cr_allK K rfl) (by rfl) T.b_all bt_all (pa_cons (pe_lc (own := [("tag", 2)]) (by rfl) sc_fulfils.nd (pi_range1 rfl T.b_range (pa_cons (pe_callB (call_lenGK K) (by rfl) T.b_len bt_len (pa_cons (pv 1) pa_nil)) pa_nil)) (blkOk_by (own := [("tag", 2)]) (N := N_fulfils) (sc := defScope s_fulfils) (by decide +kernel)) (fun _ _ _ _ _ => (pg_name (i := 2) sc_fulfils.nd rfl (Or.inl rfl))) (fun _ _ _ _ _ => pts_nil) (fun _ _ _ _ _ => (pe_cmpR (op_inGK K (units65 hr)) (pe_ix (ix_seqK K) (pv 1) (pv 2) (fun _ _ => rfl)) (pe_tup (pa_cons (C8.pe_gc rfl T.c_EITHER) (pa_cons (pe_ifExp (pt_val (pe_cl g_has hr (by omega) pass0 (by rfl) (pa_cons (pv 0) (pa_cons (pv 2) pa_nil)))) (C8.pe_gc rfl T.c_WANTED) (C8.pe_gc rfl T.c_UNWANTED)) pa_nil))) (by rfl)))) pa_nil)))), ?_⟩)
  · obtain ⟨m, t, rfl, _, rfl⟩ := h
    rfl
  · rintro ds d ⟨m, t, rfl, ht, rfl⟩ σ H Q e k
    refine s_ret e ?_ k
    rw [covers_all]
    refine ev_cb (ev_cons (EvN.toD (ev_lcR1 t.length (fun i => .v (.bl (fitsAt t m i))) (ev_cons (ev_cb (ev_cons (ev_var rfl) ev_nil) (by simpa [termD] using rc_lenT (ds := sc oI t))) ev_nil) (by omega) (fun _ _ => rfl) fun i hi => ?_)) ev_nil) rc_allM
    refine ev_op (ev_op (ev_var rfl) (ev_var rfl) (rv_ixT (ds := sc oI t) (by omega) (sc_get (getD_of (d := none) (show (i : Int).toNat < t.length by simpa using hi))))) (ev_tup (ev_cons ev_c (ev_cons (a := .v (.int (if m.testBit i then 0 else 1))) (ev_if (ev_B (ev_call (R := R_has) (ev_cons (ev_var rfl) (ev_cons (ev_var rfl) ev_nil)) ⟨m, i, rfl, by omega, rfl⟩)) (fun h => ?_) fun h => ?_) ev_nil)))
      (rv_inFlat (vs := [.int 2, .int (if m.testBit i then 0 else 1)]) (flat_oI _) rfl)
    · rw [h]
      exact ev_c
    · rw [h]
      exact ev_c
end
end Tg
end

section
set_option Elab.async false
set_option linter.all false
set_option maxRecDepth 100000
set_option maxHeartbeats 4000000
/-! Prime terms. -/
namespace Tg
open PySem PySem.Spec PyProof.Rows L2
open R7292f
/-- a table over the items of so many tags -/
def tabD (n : Nat) (on : Nat → Bool) : Dat := bsD ((Spec.items n).map on)
theorem tab_len (n : Nat) (on : Nat → Bool) : ((Spec.items n).map on).length = 2 ^ n := by simp [Spec.items]
theorem tab_at {n m : Nat} {on : Nat → Bool} (h : m < 2 ^ n) : (sc V.bl ((Spec.items n).map on))[m]? = some (.v (.bl (on m))) := by
  simp [Spec.items, h]
theorem inside_eq (n : Nat) (ok : Nat → Bool) (c : Spec.Term) : Spec.inside n ok c = ((List.range (2 ^ n)).filter fun m => Spec.covers c m).all ok := by
  unfold Spec.inside Spec.items
  rw [List.all_filter]
theorem any_eq (n : Nat) (on : Nat → Bool) (c : Spec.Term) : ((Spec.items n).any fun m => Spec.covers c m && on m) = ((List.range (2 ^ n)).filter fun m => Spec.covers c m).any on := by
  unfold Spec.items
  rw [List.any_filter]
/-- a place is given up -/
theorem cut_set (t : Spec.Term) (i : Nat) (h : i < t.length) : cutD (sc oI t) none (some (i : Int)) ++ [Dat.v (.int 2)] ++ cutD (sc oI t) (some ((i : Int) + 1)) none = sc oI (t.set i none) := by
  have e1 : HT.sIx (sc oI t).length 0 none = 0 := rfl
  have e2 : HT.sIx (sc oI t).length (sc oI t).length (some (i : Int)) = i := by
    rw [HT.sIx_nat]
    simp
    omega
  have e3 : HT.sIx (sc oI t).length 0 (some ((i : Int) + 1)) = i + 1 := by
    have : ((i : Int) + 1) = ((i + 1 : Nat) : Int) := by omega
    rw [this, HT.sIx_nat]
    simp
    omega
  have e4 : HT.sIx (sc oI t).length (sc oI t).length none = (sc oI t).length := rfl
  unfold cutD
  rw [e1, e2, e3, e4]
  have e5 : (sc oI t).length - (i + 1) = ((sc oI t).drop (i + 1)).length := by simp
  rw [e5, List.take_length, List.drop_zero, Nat.sub_zero, List.set_eq_take_append_cons_drop, if_pos h]
  simp [sc, List.map_take, List.map_drop, oI]
section
variable {P : Program} {w : World} {K : PySem.W.Frag} {mg : Str → Option Value} {base : Heap} {A : Ad} {f : Addr} {fd : FuncData} {ρ : List (Option Dat)}
abbrev s_is_held : Stmt := top 42
abbrev N_is_held : List Str := ["term", "wanted", "free", "item"]
theorem sc_is_held : FnScope N_is_held ["term", "wanted", "free"] (defScope s_is_held) :=
  ⟨rfl, rfl, rfl, by decide +kernel, rfl, by decide +kernel, by decide +kernel⟩
def R_is_held (ds : List Dat) (d : Dat) : Prop := ∃ (n : Nat) (t : Spec.Term) (on any : Nat → Bool), ds = [termD t, tabD n on, tabD n any] ∧ t.length = n ∧ n ≤ 5 ∧ d = .v (.bl (Spec.inside n (fun m => on m || any m) t))
theorem small_pow {n : Nat} (h : n ≤ 5) : 2 ^ n ≤ 32 := by
  rcases n with _ | _ | _ | _ | _ | _ | n <;> first | decide | omega
theorem ev_lenTab {n i : Nat} {on : Nat → Bool} (h : ρ[i]? = some (some (tabD n on))) : EvD K (tCB (rLen K) (tCons (tVar i) tNil)) ρ (.v (.int (2 ^ n : Nat))) := by
  refine (ev_cb (ev_cons (ev_var h) ev_nil) rc_lenL).to ?_
  simp [Spec.items]
theorem ok_is_held (D : Df K mg "is_held" s_is_held ["term", "wanted", "free"] f fd) (T : Txt K mg A) (g_fulfils : Cl P w K mg base CX0 2 "fulfils" (PureSp K R_fulfils)) : Cl P w K mg base CX0 3 "is_held" (PureSp K R_is_held) := by
  refine D.cl (ok_pure D.fn sc_is_held (fun ds d h => ?_) fun cdv A outer s H E hr => ⟨_, (pss_one (ps_ret (pe_callB (cr_allK K rfl) (by rfl) T.b_all bt_all (pa_cons (pe_lc (own := [("item", 3)]) (by rfl) sc_is_held.nd (pi_range1 rfl T.b_range (pa_cons (pe_callB (call_lenGK K) (by rfl) T.b_len bt_len (pa_cons (pv 1) pa_nil)) pa_nil)) (blkOk_by (own := [("item", 3)]) (N := N_is_held) (sc := defScope s_is_held) (by decide +kernel)) (fun _ _ _ _ _ => (pg_name (i := 3) sc_is_held.nd rfl (Or.inl rfl))) (fun _ _ _ _ _ => (pts_one (pt_val (pe_cl g_fulfils hr (by omega) pass0 (by rfl) (pa_cons (pv 3) (pa_cons (pv 0) pa_nil)))))) (fun _ _ _ _ _ => (pe_or (pe_ix (ix_seqK K) (pv 1) (pv 3) (fun _ _ => rfl)) (pe_one (pe_ix (ix_seqK K) (pv 2) (pv 3) (fun _ _ => rfl)))))) pa_nil)))), ?_⟩)
  · obtain ⟨n, t, on, any, rfl, _, _, rfl⟩ := h
    rfl
  · rintro ds d ⟨n, t, on, any, rfl, ht, hn, rfl⟩ σ H Q e k
    refine s_ret e ?_ k
    rw [inside_eq]
    have h32 := small_pow hn
    refine ev_cb (ev_cons (EvN.toD (ev_lcR (2 ^ n) (fun m => Spec.covers t m) (fun m => .v (.bl (on m || any m))) (ev_cons (ev_lenTab rfl) ev_nil) (by omega) (fun _ _ => rfl) (fun i hi => ?_) fun i hi _ => ?_)) ev_nil) rc_allM
    · exact ev_B (ev_call (R := R_fulfils) (ev_cons (ev_var rfl) (ev_cons (ev_var rfl) ev_nil)) ⟨i, t, rfl, by omega, rfl⟩)
    · exact ev_orV (ev_op (ev_var rfl) (ev_var rfl) (rv_ixL (by omega) (tab_at (show (i : Int).toNat < 2 ^ n by simpa using hi)))) fun _ => ev_op (ev_var rfl) (ev_var rfl) (rv_ixL (by omega) (tab_at (show (i : Int).toNat < 2 ^ n by simpa using hi)))
abbrev s_is_prime : Stmt := top 43
abbrev N_is_prime : List Str := ["term", "wanted", "free", "tag", "item"]
theorem sc_is_prime : FnScope N_is_prime ["term", "wanted", "free"] (defScope s_is_prime) :=
  ⟨rfl, rfl, rfl, by decide +kernel, rfl, by decide +kernel, by decide +kernel⟩
def R_is_prime (ds : List Dat) (d : Dat) : Prop := ∃ (n : Nat) (t : Spec.Term) (on any : Nat → Bool), ds = [termD t, tabD n on, tabD n any] ∧ t.length = n ∧ n ≤ 5 ∧ d = .v (.bl (Spec.isPrime n on any t))
theorem oI_ne (o : Option Bool) : (!decide ((match oI o with | .int i => i | _ => 0) = 2)) = !o.isNone := by
  cases o with
  | none => rfl
  | some b => cases b <;> rfl
theorem ev_ne2 {te : TE} {o : Option Bool} (h : EvD K te ρ (.v (oI o))) : EvT K (tTest (tOp (rNeG K) te (tC (.int 2)))) ρ (!o.isNone) := by
  refine ev_test ?_
  cases o with
  | none => exact ev_op (a := .v (.int 2)) h ev_c rv_neI
  | some b =>
    cases b with
    | true => exact ev_op (a := .v (.int 0)) h ev_c rv_neI
    | false => exact ev_op (a := .v (.int 1)) h ev_c rv_neI
theorem ok_is_prime (D : Df K mg "is_prime" s_is_prime ["term", "wanted", "free"] f fd) (T : Txt K mg A) (g_fulfils : Cl P w K mg base CX0 2 "fulfils" (PureSp K R_fulfils)) (g_is_held : Cl P w K mg base CX0 3 "is_held" (PureSp K R_is_held)) :
    Cl P w K mg base CX0 4 "is_prime" (PureSp K R_is_prime) := by
  refine D.cl (ok_pure D.fn sc_is_prime (fun ds d h => ?_) fun cdv A outer s H E hr => ⟨_, (pss_cons (ps_if (pt_not (pt_val (pe_cl g_is_held hr (by omega) pass0 (by rfl) (pa_cons (pv 0) (pa_cons (pv 1) (pa_cons (pv 2) pa_nil)))))) (pss_one (ps_ret pe_bl)) pss_nil)
    (pss_cons (ps_if (pt_not (pt_val (pe_callB (cr_anyK K rfl) (by rfl) T.b_any bt_any (pa_cons (pe_lc (own := [("item", 4)]) (by rfl) sc_is_prime.nd (pi_range1 rfl T.b_range (pa_cons (pe_callB (call_lenGK K) (by rfl) T.b_len bt_len (pa_cons (pv 1) pa_nil)) pa_nil)) (blkOk_by (own := [("item", 4)]) (N := N_is_prime) (sc := defScope s_is_prime) (by decide +kernel)) (fun _ _ _ _ _ => (pg_name (i := 4) sc_is_prime.nd rfl (Or.inl rfl))) (fun _ _ _ _ _ => (pts_one (pt_val (pe_cl g_fulfils hr (by omega) pass0 (by rfl) (pa_cons (pv 4) (pa_cons (pv 0) pa_nil)))))) (fun _ _ _ _ _ => (pe_ix (ix_seqK K) (pv 1) (pv 4) (fun _ _ => rfl)))) pa_nil)))) (pss_one (ps_ret pe_bl)) pss_nil)
    (pss_cons (ps_for PassesOwn.never rfl (pi_range1 rfl T.b_range (pa_cons (pe_callB (call_lenGK K) (by rfl) T.b_len bt_len (pa_cons (pv 0) pa_nil)) pa_nil)) (pg_name (i := 3) sc_is_prime.nd rfl (Or.inl rfl)) (pss_one (ps_if (PW.pt (pw_and (pt_cmpR (op_neGK K hr.units) (pe_ix (ix_seqK K) (pv 0) (pv 3) (fun _ _ => rfl)) (C8.pe_gc rfl T.c_EITHER) (nomark _)) (pw_and1 (pt_val (pe_cl g_is_held hr (by omega) pass0 (by rfl) (pa_cons (pe_op (op_plusK K) (pe_op (op_plusK K) (pe_slice (sl_gK K) (pv 0) po_none (po_some (pv 3))) (pe_tup (pa_cons (C8.pe_gc rfl T.c_EITHER) pa_nil))) (pe_slice (sl_gK K) (pv 0) (po_some (pe_op (op_plusK K) (pv 3) pe_int)) po_none)) (pa_cons (pv 1) (pa_cons (pv 2) pa_nil)))))))) (pss_one (ps_ret pe_bl)) pss_nil)))
    (pss_one (ps_ret pe_bl))))), ?_⟩)
  · obtain ⟨n, t, on, any, rfl, _, _, rfl⟩ := h
    rfl
  · rintro ds d ⟨n, t, on, any, rfl, ht, hn, rfl⟩ σ H Q e k
    have h32 := small_pow hn
    refine s_seq (s_if e (ev_not (ev_B (ev_call (R := R_is_held) (ev_cons (ev_var rfl) (ev_cons (ev_var rfl) (ev_cons (ev_var rfl) ev_nil))) ⟨n, t, on, any, rfl, ht, hn, rfl⟩))) (fun hb H1 s1 e1 => ?_) fun hb H1 s1 e1 => ?_)
    · have hb' : Spec.inside n (fun m => on m || any m) t = false := by simpa using hb
      have hz : Spec.isPrime n on any t = false := by simp [Spec.isPrime, hb']
      rw [hz] at k
      exact s_ret e1 ev_c fun v H2 s2 r2 => k v H2 (s1.trans s2) r2
    have hb1 : Spec.inside n (fun m => on m || any m) t = true := by simpa using hb
    have hany : EvD K (tCB (rAny K) (tCons (tLc (iRng1 (tCons (tCB (rLen K) (tCons (tVar 1) tNil)) tNil)) (gName 4) (tB (tCall (PureSp K R_fulfils) [] E0 (tCons (tVar 4) (tCons (tVar 0) tNil)))) (tOp (rIx K) (tVar 1) (tVar 4)) [4]) tNil)) [some (termD t), some (tabD n on), some (tabD n any), none, none]
        (.v (.bl ((Spec.items n).any fun m => Spec.covers t m && on m))) := by
      rw [any_eq]
      refine ev_cb (ev_cons (EvN.toD (ev_lcR (2 ^ n) (fun m => Spec.covers t m) (fun m => .v (.bl (on m))) (ev_cons (ev_lenTab rfl) ev_nil) (by omega) (fun _ _ => rfl) (fun i hi => ?_) fun i hi _ => ?_)) ev_nil) rc_anyM
      · exact ev_B (ev_call (R := R_fulfils) (ev_cons (ev_var rfl) (ev_cons (ev_var rfl) ev_nil)) ⟨i, t, rfl, by omega, rfl⟩)
      · exact ev_op (ev_var rfl) (ev_var rfl) (rv_ixL (by omega) (tab_at (show (i : Int).toNat < 2 ^ n by simpa using hi)))
    refine s_seq (s_if e1 (ev_not (ev_B hany)) (fun hb H2 s2 e2 => ?_) fun hb H2 s2 e2 => ?_)
    · have hb' : ((Spec.items n).any fun m => Spec.covers t m && on m) = false := by simpa using hb
      have hz : Spec.isPrime n on any t = false := by
        unfold Spec.isPrime
        rw [hb']
        simp
      rw [hz] at k
      exact s_ret e2 ev_c fun v H3 s3 r3 => k v H3 ((s1.trans s2).trans s3) r3
    have hb2 : ((Spec.items n).any fun m => Spec.covers t m && on m) = true := by simpa using hb
    have hp : Spec.isPrime n on any t = (List.range n).all fun i => (t.getD i none).isNone || !Spec.inside n (fun m => on m || any m) (t.set i none) := by
      unfold Spec.isPrime
      rw [hb1, hb2]
      simp
    rw [hp] at k
    have e2 : Env K H2 σ [some (termD t), some (tabD n on), some (tabD n any), none, none] := e2
    have hlen : EvD K (tCB (rLen K) (tCons (tVar 0) tNil)) [some (termD t), some (tabD n on), some (tabD n any), none, none] (.v (.int (n : Nat))) :=
      (ev_cb (ev_cons (ev_var rfl) ev_nil) (rc_lenT (ds := sc oI t))).to (by simp [ht])
    refine s_seq ?_
    refine (s_forR (n := n) (fun i σ' H' => Same H H' ∧ Env K H' σ' [some (termD t), some (tabD n on), some (tabD n any), none, none] ∧ ((List.range i).all fun i => (t.getD i none).isNone || !Spec.inside n (fun m => on m || any m) (t.set i none)) = true)
      e2 (ev_cons hlen ev_nil) (by omega)
      (fun H' s' => ⟨(s1.trans s2).trans s', e2.mono s', rfl⟩) ?_ ?_)
    · rintro i σ' H' hi ⟨s', e', hall⟩
      have e3 := e'.set 3 (d := .v (.int (i : Nat))) (.v _)
      have hix : EvD K (tOp (rIx K) (tVar 0) (tVar 3)) [some (termD t), some (tabD n on), some (tabD n any), some (.v (.int (i : Nat))), none] (.v (oI (t.getD i none))) :=
        ev_op (ev_var rfl) (ev_var rfl) (rv_ixT (ds := sc oI t) (by omega) (sc_get (getD_of (d := none) (show (i : Int).toNat < t.length by simp; omega))))
      refine s_if e3 (ev_and (ev_ne2 hix) fun _ => ev_B (ev_call (R := R_is_held) (ev_cons (ev_op (ev_op (ev_slT (ev_var rfl) ev_oNone (ev_oSome (ev_var rfl))) (ev_tup (ev_cons ev_c ev_nil)) (rv_plusT ?_)) (ev_slT (ev_var rfl) (ev_oSome (ev_op (ev_var rfl) ev_c rv_plusI)) ev_oNone) (rv_plusT ?_)) (ev_cons (ev_var rfl) (ev_cons (ev_var rfl) ev_nil)))
        ⟨n, t.set i none, on, any, by rw [cut_set t i (by omega)]; rfl, by simpa using ht, hn, rfl⟩)) (fun hb H4 s4 e4 => ?_) fun hb H4 s4 e4 => ?_
      · simp [cutD]
        exact Nat.le_trans (show _ ≤ 1000 by omega) (by decide)
      · simp [cutD]
        exact Nat.le_trans (show _ ≤ 1000 by omega) (by decide)
      · have hz : ((List.range n).all fun i => (t.getD i none).isNone || !Spec.inside n (fun m => on m || any m) (t.set i none)) = false := by
          refine List.all_eq_false.mpr ⟨i, List.mem_range.mpr hi, ?_⟩
          have q := Bool.and_eq_true_iff.mp hb
          have q1 : (t.getD i none).isNone = false := by simpa using q.1
          rw [q1, q.2]
          decide
        rw [hz] at k
        exact s_ret e4 ev_c fun v H5 s5 r5 => k v H5 ((s'.trans s4).trans s5) r5
      · refine ⟨s'.trans s4, e4.forget 3, ?_⟩
        rw [List.range_succ, List.all_append, hall]
        simp only [List.all_cons, List.all_nil, Bool.and_true, Bool.true_and]
        have q := Bool.and_eq_false_iff.mp hb
        rcases q with q | q
        · have q1 : (t.getD i none).isNone = true := by simpa using q
          rw [q1]
          rfl
        · rw [q]
          simp
    · rintro σ' H' ⟨s', e', hall⟩
      rw [hall] at k
      dsimp only
      exact s_ret e' ev_c fun v H5 s5 r5 => k v H5 (s'.trans s5) r5
end
end Tg
end

section
set_option Elab.async false
set_option linter.all false
/-! The texts of terms: joined from the left. Plain Lean. -/
namespace Tg
open R7292f
/-- one more part, behind a separator if there is something ahead of it -/
def addSep (sep acc x : Spec.Units) : Spec.Units := acc ++ (if 0 < acc.length then sep else []) ++ x
def joinU (sep : Spec.Units) : List Spec.Units → Spec.Units
  | [] => []
  | [a] => a
  | a :: b :: l => a ++ sep ++ joinU sep (b :: l)
theorem joinU_cons (sep : Spec.Units) : ∀ (a : Spec.Units) (l : List Spec.Units), joinU sep (a :: l) = a ++ l.flatMap fun x => sep ++ x
  | a, [] => by simp [joinU]
  | a, b :: l => by
    show a ++ sep ++ joinU sep (b :: l) = _
    rw [joinU_cons sep b l]
    simp
theorem addSep_pos {sep acc : Spec.Units} (h : acc ≠ []) (x : Spec.Units) : addSep sep acc x = acc ++ (sep ++ x) := by
  unfold addSep
  rw [if_pos (List.length_pos_iff.mpr h), List.append_assoc]
theorem fold_pos (sep : Spec.Units) : ∀ (l : List Spec.Units) (acc : Spec.Units), acc ≠ [] → l.foldl (addSep sep) acc = acc ++ l.flatMap fun x => sep ++ x
  | [], acc, _ => by simp
  | x :: l, acc, h => by
    rw [List.foldl_cons, addSep_pos h, fold_pos sep l _ (by simp [h])]
    simp
theorem fold_join (sep : Spec.Units) (l : List Spec.Units) (h : ∀ x ∈ l, x ≠ []) : l.foldl (addSep sep) [] = joinU sep l := by
  cases l with
  | nil => rfl
  | cons a l =>
    have ha := h a (List.mem_cons_self ..)
    rw [List.foldl_cons, joinU_cons]
    have e : addSep sep [] a = a := by simp [addSep]
    rw [e, fold_pos sep l a ha]
theorem joinBy_spell (tk : Spec.Token) : ∀ l : List (List Spec.Token), (Spec.joinBy tk l).flatMap Spec.spell = joinU (Spec.spell tk) (l.map fun x => x.flatMap Spec.spell)
  | [] => rfl
  | [a] => rfl
  | a :: b :: l => by
    have ih := joinBy_spell tk (b :: l)
    show (a ++ tk :: Spec.joinBy tk (b :: l)).flatMap Spec.spell = a.flatMap Spec.spell ++ Spec.spell tk ++ joinU (Spec.spell tk) ((b :: l).map fun x => x.flatMap Spec.spell)
    rw [List.flatMap_append, List.flatMap_cons, ih, List.append_assoc]
/-- a tag's text in a term -/
def litOf (o : Option Bool) (u : Spec.Units) : Option Spec.Units := o.map fun b => (if b then [] else [33]) ++ u
def litsUp (t : Spec.Term) (tags : List Spec.Units) (i : Nat) : List Spec.Units := (List.range i).filterMap fun k => litOf (t.getD k none) (tags.getD k [])
theorem lits_eq : ∀ (t : Spec.Term) (tags : List Spec.Units), t.length = tags.length → litsUp t tags t.length = (Spec.literals tags t).map fun x => x.flatMap Spec.spell
  | [], tags, h => by
    cases tags with
    | nil => rfl
    | cons u r => simp at h
  | o :: t, tags, h => by
    cases tags with
    | nil => simp at h
    | cons u r =>
      have ih := lits_eq t r (by simpa using h)
      have e : litsUp (o :: t) (u :: r) (t.length + 1) = (litOf o u).toList ++ litsUp t r t.length := by
        unfold litsUp
        rw [List.range_succ_eq_map, List.filterMap_cons, List.filterMap_map]
        have e2 : ((fun k => litOf ((o :: t).getD k none) ((u :: r).getD k [])) ∘ Nat.succ) = fun k => litOf (t.getD k none) (r.getD k []) := by
          funext k
          rfl
        rw [e2]
        simp only [List.getD_cons_zero]
        cases litOf o u <;> rfl
      show litsUp (o :: t) (u :: r) (t.length + 1) = _
      rw [e, ih]
      cases o with
      | none => simp [Spec.literals, litOf]
      | some b =>
        cases b with
        | true => simp [Spec.literals, litOf, Spec.spell]
        | false =>
          have e3 : Spec.units "!" = [33] := by decide
          simp [Spec.literals, litOf, Spec.spell, e3]
def textUp (t : Spec.Term) (tags : List Spec.Units) (i : Nat) : Spec.Units := (litsUp t tags i).foldl (addSep [32, 38, 32]) []
theorem litsUp_succ (t : Spec.Term) (tags : List Spec.Units) (i : Nat) : litsUp t tags (i + 1) = litsUp t tags i ++ (litOf (t.getD i none) (tags.getD i [])).toList := by
  unfold litsUp
  rw [List.range_succ, List.filterMap_append]
  congr 1
theorem textUp_none {t : Spec.Term} {tags : List Spec.Units} {i : Nat} (h : t.getD i none = none) : textUp t tags (i + 1) = textUp t tags i := by
  unfold textUp
  rw [litsUp_succ, h]
  simp [litOf]
theorem textUp_some {t : Spec.Term} {tags : List Spec.Units} {i : Nat} {b : Bool} (h : t.getD i none = some b) : textUp t tags (i + 1) = addSep [32, 38, 32] (textUp t tags i) ((if b then [] else [33]) ++ tags.getD i []) := by
  unfold textUp
  rw [litsUp_succ, h]
  simp [litOf, List.foldl_append]
/-- names: none is empty, none is long -/
def Good (tags : List Spec.Units) : Prop := ∀ u ∈ tags, 1 ≤ u.length ∧ u.length ≤ 8
def termText (tags : List Spec.Units) (t : Spec.Term) : Spec.Units := (Spec.termTokens tags t).flatMap Spec.spell
theorem lits_ne {t : Spec.Term} {tags : List Spec.Units} (hl : t.length = tags.length) (g : Good tags) : ∀ x ∈ litsUp t tags t.length, x ≠ [] := by
  intro x hx
  unfold litsUp at hx
  obtain ⟨k, hk, e⟩ := List.mem_filterMap.mp hx
  have hk' : k < tags.length := by
    have := List.mem_range.mp hk
    omega
  have hm : tags.getD k [] ∈ tags := by
    rw [List.getD_eq_getElem?_getD]
    simp [hk']
  have hu := (g _ hm).1
  unfold litOf at e
  cases h : t.getD k none with
  | none =>
    rw [h] at e
    cases e
  | some b =>
    rw [h] at e
    simp only [Option.map_some, Option.some.injEq] at e
    intro z
    rw [z] at e
    have := (List.append_eq_nil_iff.mp e).2
    rw [this] at hu
    simp at hu
theorem termText_eq {t : Spec.Term} {tags : List Spec.Units} (hl : t.length = tags.length) (g : Good tags) : termText tags t = if 0 < (textUp t tags t.length).length then textUp t tags t.length else [49] := by
  have e := lits_eq t tags hl
  have ne := lits_ne hl g
  have e4 : Spec.units " & " = [32, 38, 32] := by decide
  have ej : textUp t tags t.length = joinU [32, 38, 32] ((Spec.literals tags t).map fun x => x.flatMap Spec.spell) := by
    unfold textUp
    rw [fold_join _ _ ne, e]
  unfold termText Spec.termTokens
  cases h : Spec.literals tags t with
  | nil =>
    rw [ej, h]
    decide
  | cons a l =>
    rw [ej, h]
    show (Spec.joinBy .amp (a :: l)).flatMap Spec.spell = _
    rw [joinBy_spell]
    have e5 : Spec.spell .amp = [32, 38, 32] := e4
    rw [e5]
    have hne : (a.flatMap Spec.spell) ≠ [] := by
      refine ne _ ?_
      rw [e, h]
      exact List.mem_cons_self ..
    rw [List.map_cons, joinU_cons]
    rw [if_pos (by
      rw [List.length_append]
      have := List.length_pos_iff.mpr hne
      omega)]
theorem textUp_len {t : Spec.Term} {tags : List Spec.Units} (g : Good tags) : ∀ i, (textUp t tags i).length ≤ 12 * i
  | 0 => by simp [textUp, litsUp]
  | i + 1 => by
    have ih := textUp_len (t := t) g i
    cases h : t.getD i none with
    | none =>
      rw [textUp_none h]
      omega
    | some b =>
      rw [textUp_some h]
      unfold addSep
      have hu : (tags.getD i []).length ≤ 8 := by
        by_cases hi : i < tags.length
        · have hm : tags.getD i [] ∈ tags := by
            rw [List.getD_eq_getElem?_getD]
            simp [hi]
          exact (g _ hm).2
        · rw [List.getD_eq_getElem?_getD]
          simp [show tags.length ≤ i by omega]
      have h1 : (if 0 < (textUp t tags i).length then ([32, 38, 32] : Spec.Units) else []).length ≤ 3 := by split <;> simp
      have h2 : (if b = true then ([] : Spec.Units) else [33]).length ≤ 1 := by split <;> simp
      simp only [List.length_append]
      omega
theorem termText_len {t : Spec.Term} {tags : List Spec.Units} (hl : t.length = tags.length) (g : Good tags) (hn : tags.length ≤ 5) : (termText tags t).length ≤ 60 := by
  rw [termText_eq hl g]
  have := textUp_len (t := t) g t.length
  split
  · omega
  · simp
theorem termText_ne {t : Spec.Term} {tags : List Spec.Units} (hl : t.length = tags.length) (g : Good tags) : termText tags t ≠ [] := by
  rw [termText_eq hl g]
  split
  · rename_i h
    exact List.length_pos_iff.mp h
  · simp
/-! ### canonical texts -/
def canonUp (tags : List Spec.Units) (l : List Spec.Term) : Spec.Units := (l.map (termText tags)).foldl (addSep [32, 124, 32]) []
theorem canonical_eq {tags : List Spec.Units} (g : Good tags) (on any : Nat → Bool) (hall : ∀ t ∈ Spec.primes tags.length on any, t.length = tags.length) :
    Spec.canonical tags on any = if 0 < (canonUp tags (Spec.primes tags.length on any)).length then canonUp tags (Spec.primes tags.length on any) else [48] := by
  have ne : ∀ x ∈ (Spec.primes tags.length on any).map (termText tags), x ≠ [] := by
    intro x hx
    obtain ⟨t, ht, rfl⟩ := List.mem_map.mp hx
    exact termText_ne (hall t ht) g
  unfold canonUp
  rw [fold_join _ _ ne]
  unfold Spec.canonical Spec.filterTokens
  cases h : Spec.primes tags.length on any with
  | nil => rfl
  | cons a l =>
    show (Spec.joinBy .bar ((a :: l).map (Spec.termTokens tags))).flatMap Spec.spell = _
    rw [joinBy_spell, List.map_map]
    have e5 : Spec.spell .bar = [32, 124, 32] := by decide
    rw [e5]
    have e6 : ((fun x : List Spec.Token => x.flatMap Spec.spell) ∘ Spec.termTokens tags) = termText tags := rfl
    rw [e6]
    have hne : termText tags a ≠ [] := ne _ (by rw [h]; exact List.mem_cons_self ..)
    rw [List.map_cons, joinU_cons]
    rw [if_pos (by
      rw [List.length_append]
      have := List.length_pos_iff.mpr hne
      omega)]
theorem canonUp_snoc (tags : List Spec.Units) (l : List Spec.Term) (t : Spec.Term) : canonUp tags (l ++ [t]) = addSep [32, 124, 32] (canonUp tags l) (termText tags t) := by
  unfold canonUp
  rw [List.map_append, List.foldl_append]
  rfl
theorem foldSep_len {sep : Spec.Units} {n : Nat} (hs : sep.length ≤ 3) : ∀ (l : List Spec.Units) (acc : Spec.Units), (∀ x ∈ l, x.length ≤ n) → (l.foldl (addSep sep) acc).length ≤ acc.length + (n + 3) * l.length
  | [], acc, _ => by simp
  | x :: l, acc, h => by
    have ih := foldSep_len hs l (addSep sep acc x) fun y hy => h y (List.mem_cons_of_mem _ hy)
    have hx := h x (List.mem_cons_self ..)
    have h3 : (addSep sep acc x).length ≤ acc.length + (n + 3) := by
      unfold addSep
      have : (if 0 < acc.length then sep else []).length ≤ 3 := by split <;> simp [hs]
      simp only [List.length_append]
      omega
    rw [List.foldl_cons, List.length_cons, Nat.mul_add]
    omega
theorem canonUp_len {tags : List Spec.Units} (g : Good tags) (hn : tags.length ≤ 5) (l : List Spec.Term) (h : ∀ t ∈ l, t.length = tags.length) : (canonUp tags l).length ≤ 63 * l.length := by
  have := foldSep_len (sep := [32, 124, 32]) (n := 60) (by decide) (l.map (termText tags)) [] (fun x hx => by
    obtain ⟨t, ht, rfl⟩ := List.mem_map.mp hx
    exact termText_len (h t ht) g hn)
  rw [List.length_map] at this
  simpa [canonUp] using this
end Tg
end

section
set_option Elab.async false
set_option linter.all false
set_option maxRecDepth 100000
set_option maxHeartbeats 4000000
/-! The texts of terms, canonical texts: the walk. -/
namespace Tg
open PySem PySem.Spec PyProof.Rows L2
open R7292f
section
variable {P : Program} {w : World} {K : PySem.W.Frag} {mg : Str → Option Value} {base : Heap} {A : Ad} {f : Addr} {fd : FuncData} {ρ : List (Option Dat)}
theorem txt_sep (b : Bool) (u v : Spec.Units) : (if b then sc uI u else sc uI v) = sc uI (if b then u else v) := by cases b <;> rfl
theorem sc_stillU (u : Spec.Units) : Dat.stills (sc uI u) = true := sc_stills _ _
/-- [..] if len(found) > 0 else [] -/
theorem ev_sepIf {te : TE} {i : Nat} {u v : Spec.Units} (h : ρ[i]? = some (some (.lst (sc uI u)))) (hs : EvN K te ρ (sc uI v)) :
    EvN K (tIf (tTest (tOp rGtI (tCB (rLen K) (tCons (tVar i) tNil)) (tC (.int 0)))) te (tLst tNil)) ρ (sc uI (if 0 < u.length then v else [])) := by
  have ht : EvT K (tTest (tOp rGtI (tCB (rLen K) (tCons (tVar i) tNil)) (tC (.int 0)))) ρ (decide (0 < u.length)) :=
    (ev_test (ev_op (ev_cb (ev_cons (ev_var h) ev_nil) rc_lenL) ev_c rv_gt)).to (decide_eq_decide.mpr (by simp))
  refine ev_ifN ht (fun hb => ?_) fun hb => ?_
  · rw [if_pos (of_decide_eq_true hb)]
    exact hs
  · rw [if_neg (of_decide_eq_false hb)]
    exact ev_lst ev_nil
abbrev s_term_text : Stmt := top 44
abbrev N_term_text : List Str := ["term", "tags", "found", "tag"]
theorem sc_term_text : FnScope N_term_text ["term", "tags"] (defScope s_term_text) :=
  ⟨rfl, rfl, rfl, by decide +kernel, rfl, by decide +kernel, by decide +kernel⟩
def R_term_text (ds : List Dat) (es : List Dat) : Prop := ∃ (t : Spec.Term) (tags : List Spec.Units), ds = [termD t, tagsD tags] ∧ t.length = tags.length ∧ tags.length ≤ 5 ∧ Good tags ∧ es = sc uI (termText tags t)
theorem ev_eq1 {te : TE} {b : Bool} (h : EvD K te ρ (.v (oI (some b)))) : EvT K (tTest (tOp (rEqG K) te (tC (.int 1)))) ρ (!b) := by
  refine ev_test ?_
  cases b with
  | true => exact ev_op (a := .v (.int 0)) h ev_c rv_eqI
  | false => exact ev_op (a := .v (.int 1)) h ev_c rv_eqI
theorem tags_at {tags : List Spec.Units} {i : Nat} (h : i < tags.length) : (tags.map uD)[i]? = some (uD (tags.getD i [])) := by
  rw [List.getElem?_map, getD_of (d := []) h]
  rfl
theorem ok_term_text (D : Df K mg "term_text" s_term_text ["term", "tags"] f fd) (T : Txt K mg A) : Cl P w K mg base CX0 1 "term_text" (NewSp K R_term_text) := by
  refine D.cl (ok_new D.fn sc_term_text (fun ds d h => ?_) fun cdv A outer s H E hr => ⟨_, (pss_cons (ps_set (i := 2) sc_term_text.nd rfl (Or.inl rfl) (pe_lst pa_nil))
    (pss_cons (ps_for PassesOwn.never rfl (pi_range1 rfl T.b_range (pa_cons (pe_callB (call_lenGK K) (by rfl) T.b_len bt_len (pa_cons (pv 0) pa_nil)) pa_nil)) (pg_name (i := 3) sc_term_text.nd rfl (Or.inl rfl)) (pss_one (ps_if (pt_cmpR (op_neGK K hr.units) (pe_ix (ix_seqK K) (pv 0) (pv 3) (fun _ _ => rfl)) (C8.pe_gc rfl T.c_EITHER) (nomark _)) (pss_cons (ps_expr (pe_bmK K PySem.F.plainAttrs_list PySem.F.slot_list_extend PySem.F.type_list_extend (mt_extendGK K) (pv 2) (pa_cons (pe_ifExp (pt_cmpR op_gtI (pe_callB (call_lenGK K) (by rfl) T.b_len bt_len (pa_cons (pv 2) pa_nil)) pe_int (nomark _)) (pe_lst (pa_cons (C8.pe_gc rfl T.c_SPACE) (pa_cons (C8.pe_gc rfl T.c_AND) (pa_cons (C8.pe_gc rfl T.c_SPACE) pa_nil)))) (pe_lst pa_nil)) pa_nil)))
    (pss_cons (ps_expr (pe_bmK K PySem.F.plainAttrs_list PySem.F.slot_list_extend PySem.F.type_list_extend (mt_extendGK K) (pv 2) (pa_cons (pe_ifExp (pt_cmpR (op_eqGK K hr.units) (pe_ix (ix_seqK K) (pv 0) (pv 3) (fun _ _ => rfl)) (C8.pe_gc rfl T.c_UNWANTED) (nomark _)) (pe_lst (pa_cons (C8.pe_gc rfl T.c_NOT) pa_nil)) (pe_lst pa_nil)) pa_nil)))
    (pss_one (ps_expr (pe_bmK K PySem.F.plainAttrs_list PySem.F.slot_list_extend PySem.F.type_list_extend (mt_extendGK K) (pv 2) (pa_cons (pe_ix (ix_seqK K) (pv 1) (pv 3) (fun _ _ => rfl)) pa_nil)))))) pss_nil)))
    (pss_one (ps_ret (pe_ifExp (pt_cmpR op_gtI (pe_callB (call_lenGK K) (by rfl) T.b_len bt_len (pa_cons (pv 2) pa_nil)) pe_int (nomark _)) (pv 2) (pe_lst (pa_cons (C8.pe_gc rfl T.c_ALL) pa_nil))))))), ?_⟩)
  · obtain ⟨t, tags, rfl, _, _, _, rfl⟩ := h
    rfl
  · rintro ds es ⟨t, tags, rfl, ht, hn, g, rfl⟩ σ H Q e k
    refine s_seq (s_asgN e (ev_lst ev_nil) fun p vs H1 np s1 h1 r1 => ?_)
    have a := Acc.begin (i := 2) e np s1 h1 r1 rfl
    have hlen : EvD K (tCB (rLen K) (tCons (tVar 0) tNil)) [some (termD t), some (tagsD tags), some (.lst (sc uI (textUp t tags 0))), none] (.v (.int (t.length : Nat))) :=
      (ev_cb (ev_cons (ev_var rfl) ev_nil) (rc_lenT (ds := sc oI t))).to (by simp)
    refine s_seq (a_forR (n := t.length) (fun _ => [some (termD t), some (tagsD tags), none, none]) (fun i => sc uI (textUp t tags i)) a (ev_cons hlen ev_nil) (by omega) (by decide) ?_ ?_)
    · intro i σ' H' hi a
      have hb := textUp_len (t := t) g i
      have hix : ∀ u, EvD K (tOp (rIx K) (tVar 0) (tVar 3)) [some (termD t), some (tagsD tags), some (.lst (sc uI u)), some (.v (.int (i : Nat)))] (.v (oI (t.getD i none))) := fun u =>
        ev_op (ev_var rfl) (ev_var rfl) (rv_ixT (ds := sc oI t) (by omega) (sc_get (getD_of (d := none) (show (i : Int).toNat < t.length by simpa using hi))))
      refine a_if a (ev_ne2 (hix _)) (fun hb H2 a2 => ?_) fun hb H2 a2 => ?_
      · have ho : ∃ b, t.getD i none = some b := by
          cases h : t.getD i none with
          | none =>
            rw [h] at hb
            cases hb
          | some b => exact ⟨b, rfl⟩
        obtain ⟨b, ho⟩ := ho
        have hu : (tags.getD i []).length ≤ 8 := (g _ (List.mem_of_getElem? (getD_of (d := []) (show i < tags.length by omega)))).2
        refine s_seq (a_ext a2 rfl (EvN.toD (ev_sepIf (u := textUp t tags i) (v := [32, 38, 32]) rfl (ev_lst (ev_cons ev_c (ev_cons ev_c (ev_cons ev_c ev_nil)))))) (sc_stillU _) ?_ fun H3 a3 => ?_)
        · have : (if 0 < (textUp t tags i).length then ([32, 38, 32] : Spec.Units) else []).length ≤ 3 := by split <;> simp
          simp only [List.length_map]
          omega
        rw [sc_app] at a3
        refine s_seq (a_ext (es := sc uI (if b then [] else [33])) a3 rfl (EvN.toD (ev_ifN (ev_eq1 (ho ▸ hix _)) (fun hb => ?_) fun hb => ?_)) (sc_stillU _) ?_ fun H4 a4 => ?_)
        · have : b = false := by simpa using hb
          subst this
          exact ev_lst (ev_cons ev_c ev_nil)
        · have : b = true := by simpa using hb
          subst this
          exact ev_lst ev_nil
        · have : (if 0 < (textUp t tags i).length then ([32, 38, 32] : Spec.Units) else []).length ≤ 3 := by split <;> simp
          have h2 : (if b = true then ([] : Spec.Units) else [33]).length ≤ 1 := by split <;> simp
          simp only [List.length_map, List.length_append]
          omega
        rw [sc_app] at a4
        refine a_extT (es := sc uI (tags.getD i [])) a4 rfl (ev_op (ev_var rfl) (ev_var rfl) (rv_ixL (by omega) (tags_at (show (i : Int).toNat < tags.length by simp; omega)))) (sc_stillU _) ?_ fun H5 a5 => ?_
        · have : (if 0 < (textUp t tags i).length then ([32, 38, 32] : Spec.Units) else []).length ≤ 3 := by split <;> simp
          have h2 : (if b = true then ([] : Spec.Units) else [33]).length ≤ 1 := by split <;> simp
          simp only [List.length_map, List.length_append]
          omega
        rw [sc_app] at a5
        have a6 := a5.forget (j := 3) (by decide)
        rw [textUp_some ho]
        unfold addSep
        rw [List.append_assoc, List.append_assoc] at *
        exact a6
      · have ho : t.getD i none = none := by
          cases h : t.getD i none with
          | none => rfl
          | some b =>
            rw [h] at hb
            cases hb
        rw [textUp_none ho]
        exact a2.forget (j := 3) (by decide)
    · intro σ' H' a
      have ht2 : EvT K (tTest (tOp rGtI (tCB (rLen K) (tCons (tVar 2) tNil)) (tC (.int 0)))) [some (termD t), some (tagsD tags), some (.lst (sc uI (textUp t tags t.length))), none] (decide (0 < (textUp t tags t.length).length)) :=
        (ev_test (ev_op (ev_cb (ev_cons (ev_var rfl) ev_nil) rc_lenL) ev_c rv_gt)).to (decide_eq_decide.mpr (by simp))
      refine a_retIf (fs := sc uI (termText tags t)) a rfl ht2 (fun hb => ?_) (fun hb => ⟨ev_lst (ev_cons ev_c ev_nil), ?_⟩) k
      · rw [termText_eq ht g, if_pos (of_decide_eq_true hb)]
      · rw [termText_eq ht g, if_neg (of_decide_eq_false hb)]
        rfl
abbrev s_canonical : Stmt := top 45
abbrev N_canonical : List Str := ["tags", "wanted", "free", "found", "term"]
theorem sc_canonical : FnScope N_canonical ["tags", "wanted", "free"] (defScope s_canonical) :=
  ⟨rfl, rfl, rfl, by decide +kernel, rfl, by decide +kernel, by decide +kernel⟩
def R_canonical (ds : List Dat) (es : List Dat) : Prop := ∃ (tags : List Spec.Units) (on any : Nat → Bool), ds = [tagsD tags, tabD tags.length on, tabD tags.length any] ∧ tags.length ≤ 5 ∧ Good tags ∧ es = sc uI (Spec.canonical tags on any)
theorem primes_take {n : Nat} {on any : Nat → Bool} {i : Nat} {t : Spec.Term} (h : (Spec.allTerms n)[i]? = some t) : ((Spec.allTerms n).take (i + 1)).filter (Spec.isPrime n on any) = ((Spec.allTerms n).take i).filter (Spec.isPrime n on any) ++ (if Spec.isPrime n on any t then [t] else []) := by
  rw [List.take_add_one, h, List.filter_append]
  congr 1
  simp [List.filter]
  cases Spec.isPrime n on any t <;> rfl
theorem ok_canonical (D : Df K mg "canonical" s_canonical ["tags", "wanted", "free"] f fd) (T : Txt K mg A) (g_all_terms : Cl P w K mg base CX0 1 "all_terms" (NewSp K R_all_terms)) (g_is_prime : Cl P w K mg base CX0 4 "is_prime" (PureSp K R_is_prime))
    (g_term_text : Cl P w K mg base CX0 1 "term_text" (NewSp K R_term_text)) : Cl P w K mg base CX0 5 "canonical" (NewSp K R_canonical) := by
  refine D.cl (ok_new D.fn sc_canonical (fun ds d h => ?_) fun cdv A outer s H E hr => ⟨_, (pss_cons (ps_set (i := 3) sc_canonical.nd rfl (Or.inl rfl) (pe_lst pa_nil))
    (pss_cons (ps_for PassesOwn.never rfl (pi_seqK K (pe_cl g_all_terms hr (by omega) pass0 (by rfl) (pa_cons (pe_callB (call_lenGK K) (by rfl) T.b_len bt_len (pa_cons (pv 0) pa_nil)) pa_nil))) (pg_name (i := 4) sc_canonical.nd rfl (Or.inl rfl)) (pss_one (ps_if (pt_val (pe_cl g_is_prime hr (by omega) pass0 (by rfl) (pa_cons (pv 4) (pa_cons (pv 1) (pa_cons (pv 2) pa_nil))))) (pss_cons (ps_expr (pe_bmK K PySem.F.plainAttrs_list PySem.F.slot_list_extend PySem.F.type_list_extend (mt_extendGK K) (pv 3) (pa_cons (pe_ifExp (pt_cmpR op_gtI (pe_callB (call_lenGK K) (by rfl) T.b_len bt_len (pa_cons (pv 3) pa_nil)) pe_int (nomark _)) (pe_lst (pa_cons (C8.pe_gc rfl T.c_SPACE) (pa_cons (C8.pe_gc rfl T.c_OR) (pa_cons (C8.pe_gc rfl T.c_SPACE) pa_nil)))) (pe_lst pa_nil)) pa_nil)))
    (pss_one (ps_expr (pe_bmK K PySem.F.plainAttrs_list PySem.F.slot_list_extend PySem.F.type_list_extend (mt_extendGK K) (pv 3) (pa_cons (pe_cl g_term_text hr (by omega) pass0 (by rfl) (pa_cons (pv 4) (pa_cons (pv 0) pa_nil))) pa_nil))))) pss_nil)))
    (pss_one (ps_ret (pe_ifExp (pt_cmpR op_gtI (pe_callB (call_lenGK K) (by rfl) T.b_len bt_len (pa_cons (pv 3) pa_nil)) pe_int (nomark _)) (pv 3) (pe_lst (pa_cons (C8.pe_gc rfl T.c_NONE) pa_nil))))))), ?_⟩)
  · obtain ⟨tags, on, any, rfl, _, _, rfl⟩ := h
    rfl
  · rintro ds es ⟨tags, on, any, rfl, hn, g, rfl⟩ σ H Q e k
    have hlens : ∀ t ∈ Spec.primes tags.length on any, t.length = tags.length := fun t ht => allTerms_len _ t (List.mem_filter.mp ht).1
    refine s_seq (s_asgN e (ev_lst ev_nil) fun p vs H1 np s1 h1 r1 => ?_)
    have a := Acc.begin (i := 3) e np s1 h1 r1 rfl
    have hmany : (Spec.allTerms tags.length).length ≤ 243 := by
      rw [allTerms_many]
      calc 3 ^ tags.length ≤ 3 ^ 5 := Nat.pow_le_pow_right (by decide) hn
        _ ≤ 243 := by decide
    have hlen : EvD K (tCB (rLen K) (tCons (tVar 0) tNil)) [some (tagsD tags), some (tabD tags.length on), some (tabD tags.length any), some (.lst (sc uI (canonUp tags (((Spec.allTerms tags.length).take 0).filter (Spec.isPrime tags.length on any))))), none] (.v (.int (tags.length : Nat))) :=
      (ev_cb (ev_cons (ev_var rfl) ev_nil) (rc_lenL (ds := tags.map uD))).to (by simp)
    refine s_seq (a_forN (l := Spec.allTerms tags.length) termD (fun _ => [some (tagsD tags), some (tabD tags.length on), some (tabD tags.length any), none, none]) (fun i => sc uI (canonUp tags (((Spec.allTerms tags.length).take i).filter (Spec.isPrime tags.length on any)))) a
      (ev_callN (R := R_all_terms) (ev_cons hlen ev_nil) ⟨tags.length, rfl, hn, rfl⟩) (by decide) ?_ (fun x _ => termD_still x) ?_)
    · intro G i t σ' H' ht a
      have htl : t.length = tags.length := allTerms_len _ t (List.mem_of_getElem? ht)
      have hsub : ∀ t ∈ ((Spec.allTerms tags.length).take i).filter (Spec.isPrime tags.length on any), t.length = tags.length := fun t ht => allTerms_len _ t (List.mem_of_mem_take (List.mem_filter.mp ht).1)
      have hb := canonUp_len g hn _ hsub
      have hbl : (((Spec.allTerms tags.length).take i).filter (Spec.isPrime tags.length on any)).length ≤ 243 := Nat.le_trans (List.length_filter_le _ _) (by rw [List.length_take]; omega)
      have htx := termText_len htl g hn
      refine a_if a (ev_B (ev_call (R := R_is_prime) (ev_cons (ev_var rfl) (ev_cons (ev_var rfl) (ev_cons (ev_var rfl) ev_nil))) ⟨tags.length, t, on, any, rfl, htl, hn, rfl⟩)) (fun hb H2 a2 => ?_) fun hb H2 a2 => ?_
      · refine s_seq (a_ext a2 rfl (EvN.toD (ev_sepIf (u := canonUp tags (((Spec.allTerms tags.length).take i).filter (Spec.isPrime tags.length on any))) (v := [32, 124, 32]) rfl (ev_lst (ev_cons ev_c (ev_cons ev_c (ev_cons ev_c ev_nil)))))) (sc_stillU _) ?_ fun H3 a3 => ?_)
        · have : (if 0 < (canonUp tags (((Spec.allTerms tags.length).take i).filter (Spec.isPrime tags.length on any))).length then ([32, 124, 32] : Spec.Units) else []).length ≤ 3 := by split <;> simp
          simp only [List.length_map]
          omega
        rw [sc_app] at a3
        refine a_ext a3 rfl (EvN.toD (ev_callN (R := R_term_text) (ev_cons (ev_var rfl) (ev_cons (ev_var rfl) ev_nil)) ⟨t, tags, rfl, htl, hn, g, rfl⟩)) (sc_stillU _) ?_ fun H4 a4 => ?_
        · have : (if 0 < (canonUp tags (((Spec.allTerms tags.length).take i).filter (Spec.isPrime tags.length on any))).length then ([32, 124, 32] : Spec.Units) else []).length ≤ 3 := by split <;> simp
          simp only [List.length_map, List.length_append]
          omega
        rw [sc_app] at a4
        have a5 := a4.forget (j := 4) (by decide)
        rw [primes_take ht, if_pos hb, canonUp_snoc]
        exact a5
      · rw [primes_take ht, if_neg (by rw [hb]; decide), List.append_nil]
        exact a2.forget (j := 4) (by decide)
    · intro σ' H' a
      rw [List.take_length] at a
      have ht2 : EvT K (tTest (tOp rGtI (tCB (rLen K) (tCons (tVar 3) tNil)) (tC (.int 0)))) [some (tagsD tags), some (tabD tags.length on), some (tabD tags.length any), some (.lst (sc uI (canonUp tags (Spec.primes tags.length on any)))), none] (decide (0 < (canonUp tags (Spec.primes tags.length on any)).length)) :=
        (ev_test (ev_op (ev_cb (ev_cons (ev_var rfl) ev_nil) rc_lenL) ev_c rv_gt)).to (decide_eq_decide.mpr (by simp))
      refine a_retIf (fs := sc uI (Spec.canonical tags on any)) a rfl ht2 (fun hb => ?_) (fun hb => ⟨ev_lst (ev_cons ev_c ev_nil), ?_⟩) k
      · rw [canonical_eq g on any hlens, if_pos (of_decide_eq_true hb)]
        rfl
      · rw [canonical_eq g on any hlens, if_neg (of_decide_eq_false hb)]
        rfl
end
end Tg
end

section
set_option Elab.async false
set_option linter.all false
set_option maxRecDepth 100000
set_option maxHeartbeats 4000000
/-! The refusals. -/
namespace Tg
open PySem PySem.Spec PyProof.Rows L2
section
variable {P : Program} {w : World} {K : PySem.W.Frag} {mg : Str → Option Value} {base : Heap} {A : Ad} {f : Addr} {fd : FuncData} {ρ : List (Option Dat)}
abbrev s_Refused_init : Stmt := inClass (top 20) 0
abbrev N_Refused_init : List Str := ["self", "order", "message", "further"]
theorem sc_Refused_init : FnScope N_Refused_init ["self", "order", "message", "further"] (defScope s_Refused_init) :=
  ⟨rfl, rfl, rfl, by decide +kernel, rfl, by decide +kernel, by decide +kernel⟩
def refFs (o m fu : V) : List (Str × V) := [("further", fu), ("message", m), ("order", o)]
theorem lk_here {k : Str} {v : V} {r : List (Str × V)} : List.lookup k ((k, v) :: r) = some v := by
  have e : (k == k) = true := beq_self_eq_true k
  simp only [List.lookup, e]
theorem lk_past {k g : Str} {v : V} {r : List (Str × V)} (h : (k == g) = false) : List.lookup k ((g, v) :: r) = List.lookup k r := by
  simp only [List.lookup, h]
theorem ref_o (o m fu : V) : (refFs o m fu).lookup ("order" : Str) = some o := (lk_past (by decide +kernel)).trans ((lk_past (by decide +kernel)).trans lk_here)
theorem ref_m (o m fu : V) : (refFs o m fu).lookup ("message" : Str) = some m := (lk_past (by decide +kernel)).trans lk_here
theorem ref_f (o m fu : V) : (refFs o m fu).lookup ("further" : Str) = some fu := lk_here
def spRef (C : Addr) : Sp := fun vs H Q _ => ∃ (a : Addr) (o m fu : V), vs = [.ref a, o, m, fu] ∧ H a = some (exo a C none) ∧
  ∀ (d : Addr) (H' : Hp), H d = none → d ≠ a → H' a = some (exo a C (some d)) → H' d = some (exd d (refFs o m fu)) → (∀ b u, b ≠ a → H b = some u → H' b = some u) → Q .non H'
theorem ok_Refused (F : Fun K "__init__" "Refused.__init__" s_Refused_init f fd) (T : Txt K mg A) : FnOk P w K mg base CX0 1 f fd ["self", "order", "message", "further"] (spRef A.rf) := by
  refine F.ok sc_Refused_init (fun vs H Q E h => ?_) (fun cdv _ outer s H vs Q E hr h => ⟨_, (pss_cons (ps_ost (pv 0) (pv 1))
    (pss_cons (ps_ost (pv 0) (pv 2))
    (pss_one (ps_ost (pv 0) (pv 3))))), ?_⟩)
  · obtain ⟨a, o, m, fu, rfl, _⟩ := h
    rfl
  · obtain ⟨a, o, m, fu, rfl, ha, k⟩ := h
    refine ⟨_, rfl, _, rfl, a, A.rf, rfl, T.x_Refused, T.n_Refused_order, .inl ⟨ha, fun d hd hne => ?_⟩⟩
    refine ⟨_, rfl, _, rfl, a, A.rf, rfl, T.x_Refused, T.n_Refused_message, .inr ⟨d, [("order", o)], upd_same, ?_, by simp, ?_⟩⟩
    · rw [upd_ne hne]
      exact upd_same
    refine ⟨_, rfl, _, rfl, a, A.rf, rfl, T.x_Refused, T.n_Refused_further, .inr ⟨d, [("message", m), ("order", o)], ?_, upd_same, by simp, ?_⟩⟩
    · rw [upd_ne (Ne.symm hne)]
      exact upd_same
    refine k d _ hd hne ?_ upd_same fun b u hb e => ?_
    · rw [upd_ne (Ne.symm hne), upd_ne (Ne.symm hne)]
      exact upd_same
    · have hbd : b ≠ d := ne_of_none e hd
      rw [upd_ne hbd, upd_ne hbd, upd_ne hb, upd_ne hbd]
      exact e
/-- the error's class made and raised -/
structure Mr (P : Program) (w : World) (K : PySem.W.Frag) (mg : Str → Option Value) (base : Heap) (k : Nat) (C : Addr) (sp : Sp) : Prop where
  ex : ∃ (f : Addr) (fd : FuncData) (ps : List Str), PySem.W.findIn K (.ref C) "__init__" = some (some (.ref f)) ∧ PySem.W.typeIn K (.ref f) = some (.type "function") ∧ FnOk P w K mg base CX0 k f fd ps sp ∧ Binds K fd ps []
theorem pmk_ref {X : Cx} {x : Str} {C : Addr} {k j : Nat} {sp : Sp} {e : Expr} {es : List Expr} {p pos : Pos} {ta : TA} (T : OexC X.K C) (c : Mr X.prog X.w X.K X.mg X.base k C sp) (hr : Room j X.A) (hk : k + 1 ≤ j) (hg : Gl X x) (hm : X.mg x = some (.ref C)) (ha : PA X (e :: es) ta)
    (hdb : (x == ("__debug__" : Str)) = false := by decide) (he : starEach (e :: es) X.env = (false, eval e X.env) :: starEach es X.env := by rfl) (hpl : (backTo pos (starEach es X.env)).any (·.1) = false := by rfl) :
    L2N.PMk X (.Call (.Name x p) (e :: es) [] pos) (tMkO C sp [] ta) := by
  obtain ⟨f, fd, ps, h1, h2, F, b⟩ := c.ex
  exact pmk_oexN T h1 h2 F (hr.mono hk) b pass0 hg hm ha hdb he hpl
/-- raise Refused(order, message, ()) -/
theorem raise_ref {C : Addr} {E : XK} {σ : L2.St} {H : Hp} {ρ : List (Option Dat)} {ta : TA} {o : Int} {m : Str} (e : Env K H σ ρ) (h : EvA K ta ρ [.v (.int o), .v (.str m), .tup []])
    (k : ∀ a H', Same H H' → XErr K H' a (o, m) → E (.ref C) (some a) H') : tMkO C (spRef C) [] ta σ H fun cls d H' => E cls d H' := by
  refine h σ H e _ fun vs H1 s1 r1 => ?_
  cases r1 with
  | cons q1 r1 =>
    cases r1 with
    | cons q2 r1 =>
      cases r1 with
      | cons q3 r1 =>
        cases r1
        have e1 := q1.v_eq
        have e2 := q2.v_eq
        subst e1
        subst e2
        cases q3 with
        | tup ht rt =>
          rename_i t xs
          cases rt
          refine ⟨by simp, fun a ha => ⟨a, _, _, _, rfl, upd_same, fun d H2 hd hne h1 h2 h3 => ⟨rfl, d, _, h1, h2, ?_, ?_⟩⟩⟩
          · rw [upd_ne hne] at hd
            exact hd
          · rw [upd_ne hne] at hd
            have keep : Same H1 (upd (del H2 a) d (.xd (refFs (.int o) (.str m) (.ref t)))) := fun b u eb => by
              have hba : b ≠ a := ne_of_none eb ha
              have hbd : b ≠ d := ne_of_none eb hd
              rw [upd_ne hbd, del_ne hba]
              exact h3 b u hba (by rw [upd_ne hba]; exact eb)
            refine k d _ (s1.trans keep) ⟨_, t, upd_same, ref_o _ _ _, ref_m _ _ _, ref_f _ _ _, same_t keep ht⟩
abbrev s_wrong_kind : Stmt := top 21
abbrev N_wrong_kind : List Str := ["wrong", "message"]
theorem sc_wrong_kind : FnScope N_wrong_kind ["wrong", "message"] (defScope s_wrong_kind) :=
  ⟨rfl, rfl, rfl, by decide +kernel, rfl, by decide +kernel, by decide +kernel⟩
abbrev s_out_of_range : Stmt := top 22
abbrev N_out_of_range : List Str := ["wrong", "message"]
theorem sc_out_of_range : FnScope N_out_of_range ["wrong", "message"] (defScope s_out_of_range) :=
  ⟨rfl, rfl, rfl, by decide +kernel, rfl, by decide +kernel, by decide +kernel⟩
def R_refuse (n : Int) (ds : List Dat) (r : Except Err Dat) : Prop := ∃ (b : Bool) (m : Str), ds = [.v (.bl b), .v (.str m)] ∧ r = if b then .error (n, m) else .ok (.v .non)
theorem ok_wrong_kind (D : Df K mg "wrong_kind" s_wrong_kind ["wrong", "message"] f fd) (T : Txt K mg A) (g_ref : Mr P w K mg base 1 A.rf (spRef A.rf)) : Cl P w K mg base (L2N.CX P w) 3 "wrong_kind" (MaySp K A.rf (R_refuse 1)) := by
  refine D.cl (ok_may D.fn sc_wrong_kind (fun ds d h => ?_) fun cdv _ outer s H E hr => ⟨_, (pss_one (ps_if (pt_val (pv 0)) (pss_one (L2N.ps_raise rfl (L2N.takes_of rfl rfl rfl rfl) (pmk_ref T.x_Refused g_ref hr (by omega) (by rfl) T.m_Refused (pa_cons pe_int (pa_cons (pv 1) (pa_cons (pe_tup pa_nil) pa_nil)))))) pss_nil)), ?_⟩)
  · obtain ⟨b, m, rfl, _⟩ := h
    rfl
  · rintro ds r ⟨b, m, rfl, rfl⟩ σ H Q e k x
    refine s_if e (ev_B (ev_var rfl)) (fun hb H1 s1 e1 => ?_) fun hb H1 s1 e1 => ?_
    · subst hb
      exact raise_ref e1 (ev_cons ev_c (ev_cons (ev_var rfl) (ev_cons (ev_tup ev_nil) ev_nil))) fun a H2 s2 xe => x _ rfl a H2 (s1.trans s2) xe
    · subst hb
      exact k _ rfl _ H1 s1 (.v _)
theorem ok_out_of_range (D : Df K mg "out_of_range" s_out_of_range ["wrong", "message"] f fd) (T : Txt K mg A) (g_ref : Mr P w K mg base 1 A.rf (spRef A.rf)) : Cl P w K mg base (L2N.CX P w) 3 "out_of_range" (MaySp K A.rf (R_refuse 2)) := by
  refine D.cl (ok_may D.fn sc_out_of_range (fun ds d h => ?_) fun cdv _ outer s H E hr => ⟨_, (pss_one (ps_if (pt_val (pv 0)) (pss_one (L2N.ps_raise rfl (L2N.takes_of rfl rfl rfl rfl) (pmk_ref T.x_Refused g_ref hr (by omega) (by rfl) T.m_Refused (pa_cons pe_int (pa_cons (pv 1) (pa_cons (pe_tup pa_nil) pa_nil)))))) pss_nil)), ?_⟩)
  · obtain ⟨b, m, rfl, _⟩ := h
    rfl
  · rintro ds r ⟨b, m, rfl, rfl⟩ σ H Q e k x
    refine s_if e (ev_B (ev_var rfl)) (fun hb H1 s1 e1 => ?_) fun hb H1 s1 e1 => ?_
    · subst hb
      exact raise_ref e1 (ev_cons ev_c (ev_cons (ev_var rfl) (ev_cons (ev_tup ev_nil) ev_nil))) fun a H2 s2 xe => x _ rfl a H2 (s1.trans s2) xe
    · subst hb
      exact k _ rfl _ H1 s1 (.v _)
end
end Tg
end

section
set_option Elab.async false
set_option linter.all false
/-! The tokens of a text, by place. Plain Lean. -/
namespace Tg
open R7292f
open R7292f.Spec (Units Token)
theorem cut_nil (f i : Nat) : Spec.cutBy f i [] = [] := by cases f <;> rfl
theorem drop_takeWhile {α : Type} (p : α → Bool) : ∀ l : List α, l.drop (l.takeWhile p).length = l.dropWhile p
  | [] => rfl
  | x :: l => by
    by_cases h : p x = true
    · simp [List.takeWhile, List.dropWhile, h, drop_takeWhile p l]
    · simp [List.takeWhile, List.dropWhile, h]
theorem len_dropWhile {α : Type} (p : α → Bool) : ∀ l : List α, (l.dropWhile p).length ≤ l.length
  | [] => Nat.le_refl _
  | x :: l => by
    have ih := len_dropWhile p l
    by_cases h : p x = true
    · simp [List.dropWhile, h]
      omega
    · simp [List.dropWhile, h]
theorem cut_fuel : ∀ (f : Nat) (i : Nat) (v : Units), v.length ≤ f → Spec.cutBy f i v = Spec.cutBy v.length i v
  | f, i, [], _ => by rw [cut_nil, cut_nil]
  | 0, _, c :: v, h => by simp at h
  | f + 1, i, c :: v, h => by
    have hv : v.length ≤ f := by simpa using h
    have hd : (v.dropWhile Spec.isLetter).length ≤ v.length := len_dropWhile ..
    show (if c = 32 then Spec.cutBy f (i + 1) v
      else if Spec.isLetter c then (i, Token.name (c :: v.takeWhile Spec.isLetter)) :: Spec.cutBy f (i + 1 + (v.takeWhile Spec.isLetter).length) (v.dropWhile Spec.isLetter)
      else (i, Spec.signOf c) :: Spec.cutBy f (i + 1) v) = (if c = 32 then Spec.cutBy v.length (i + 1) v
      else if Spec.isLetter c then (i, Token.name (c :: v.takeWhile Spec.isLetter)) :: Spec.cutBy v.length (i + 1 + (v.takeWhile Spec.isLetter).length) (v.dropWhile Spec.isLetter)
      else (i, Spec.signOf c) :: Spec.cutBy v.length (i + 1) v)
    rw [cut_fuel f (i + 1) v hv, cut_fuel f _ (v.dropWhile Spec.isLetter) (by omega), cut_fuel v.length _ (v.dropWhile Spec.isLetter) hd]
/-- the tokens from place n on -/
def toks (u : Units) (n : Nat) : List (Nat × Token) := Spec.cutBy (u.drop n).length n (u.drop n)
theorem toks_zero (u : Units) : toks u 0 = Spec.cut u := by
  unfold toks Spec.cut
  rw [List.drop_zero]
theorem toks_end {u : Units} {n : Nat} (h : u.length ≤ n) : toks u n = [] := by
  unfold toks
  rw [List.drop_eq_nil_of_le h]
  rfl
theorem drop_at {u : Units} {n : Nat} (h : n < u.length) : u.drop n = u[n] :: u.drop (n + 1) := List.drop_eq_getElem_cons h
theorem toks_at {u : Units} {n : Nat} (h : n < u.length) : toks u n = if u[n] = 32 then toks u (n + 1) else if Spec.isLetter u[n] then (n, Token.name (u[n] :: (u.drop (n + 1)).takeWhile Spec.isLetter)) :: toks u (n + 1 + ((u.drop (n + 1)).takeWhile Spec.isLetter).length)
    else (n, Spec.signOf u[n]) :: toks u (n + 1) := by
  have e1 : toks u n = Spec.cutBy ((u.drop (n + 1)).length + 1) n (u[n] :: u.drop (n + 1)) := by
    unfold toks
    rw [drop_at h]
    rfl
  rw [e1]
  have e2 : (u.drop (n + 1)).dropWhile Spec.isLetter = u.drop (n + 1 + ((u.drop (n + 1)).takeWhile Spec.isLetter).length) := by
    rw [← drop_takeWhile, List.drop_drop]
  have hd : ((u.drop (n + 1)).dropWhile Spec.isLetter).length ≤ (u.drop (n + 1)).length := len_dropWhile ..
  show (if u[n] = 32 then Spec.cutBy (u.drop (n + 1)).length (n + 1) (u.drop (n + 1))
    else if Spec.isLetter u[n] then (n, Token.name (u[n] :: (u.drop (n + 1)).takeWhile Spec.isLetter)) :: Spec.cutBy (u.drop (n + 1)).length (n + 1 + ((u.drop (n + 1)).takeWhile Spec.isLetter).length) ((u.drop (n + 1)).dropWhile Spec.isLetter)
    else (n, Spec.signOf u[n]) :: Spec.cutBy (u.drop (n + 1)).length (n + 1) (u.drop (n + 1))) = _
  rw [cut_fuel _ _ _ hd, e2]
  rfl
/-- the first place from n on that holds no space -/
def skipN (u : Units) (n : Nat) : Nat := n + ((u.drop n).takeWhile (· == 32)).length
theorem skip_at {u : Units} {n : Nat} (h : n < u.length) (h2 : u[n] = 32) : skipN u n = skipN u (n + 1) := by
  unfold skipN
  rw [drop_at h]
  simp [List.takeWhile, h2]
  omega
theorem skip_stop {u : Units} {n : Nat} (h : n < u.length) (h2 : u[n] ≠ 32) : skipN u n = n := by
  unfold skipN
  rw [drop_at h]
  have e : (u[n] == 32) = false := by simpa using h2
  simp [List.takeWhile, e]
theorem skip_end {u : Units} {n : Nat} (h : u.length ≤ n) : skipN u n = n := by
  unfold skipN
  rw [List.drop_eq_nil_of_le h]
  rfl
/-- at a token's place, or at the end -/
structure AtTok (u : Units) (n : Nat) (ts : List (Nat × Token)) : Prop where
  le : n ≤ u.length
  ne : u[n]? ≠ some 32
  is : ts = toks u n
theorem at_skip (u : Units) : ∀ (k n : Nat), u.length - n = k → n ≤ u.length → AtTok u (skipN u n) (toks u n)
  | 0, n, hk, hn => by
    have h : n = u.length := by omega
    rw [skip_end (by omega)]
    exact ⟨hn, by simp [h], rfl⟩
  | k + 1, n, hk, hn => by
    have h : n < u.length := by omega
    by_cases c : u[n] = 32
    · rw [skip_at h c, toks_at h, if_pos c]
      exact at_skip u k (n + 1) (by omega) (by omega)
    · rw [skip_stop h c]
      exact ⟨hn, by simp [h, c], rfl⟩
theorem AtTok.skip {u : Units} {n : Nat} (h : n ≤ u.length) : AtTok u (skipN u n) (toks u n) := at_skip u _ n rfl h
theorem AtTok.nil {u : Units} {n : Nat} (a : AtTok u n []) : n = u.length := by
  have h := a.is
  have hle := a.le
  by_cases c : n < u.length
  · rw [toks_at c] at h
    have hne : u[n] ≠ 32 := by
      have := a.ne
      simpa [c] using this
    rw [if_neg hne] at h
    split at h <;> cases h
  · omega
theorem AtTok.cons {u : Units} {n : Nat} {e : Nat × Token} {ts : List (Nat × Token)} (a : AtTok u n (e :: ts)) : ∃ h : n < u.length, e.1 = n ∧ u[n] ≠ 32 ∧
    ((Spec.isLetter u[n] = true ∧ e.2 = .name (u[n] :: (u.drop (n + 1)).takeWhile Spec.isLetter) ∧ ts = toks u (n + 1 + ((u.drop (n + 1)).takeWhile Spec.isLetter).length)) ∨
     (Spec.isLetter u[n] = false ∧ e.2 = Spec.signOf u[n] ∧ ts = toks u (n + 1))) := by
  have h := a.is
  by_cases c : n < u.length
  · rw [toks_at c] at h
    have hne : u[n] ≠ 32 := by
      have := a.ne
      simpa [c] using this
    rw [if_neg hne] at h
    refine ⟨c, ?_⟩
    split at h
    · rename_i hl
      cases h
      exact ⟨rfl, hne, .inl ⟨hl, rfl, rfl⟩⟩
    · rename_i hl
      cases h
      exact ⟨rfl, hne, .inr ⟨by simpa using hl, rfl, rfl⟩⟩
  · rw [toks_end (by omega)] at h
    cases h
/-- a sign stands here exactly if it is the first token -/
def signTok : List (UInt16 × Token) := [(33, .bang), (38, .amp), (124, .bar), (40, .left), (41, .right), (48, .zero), (49, .one)]
theorem sign_letter {c : UInt16} {t : Token} (h : (c, t) ∈ signTok) : Spec.isLetter c = false ∧ Spec.signOf c = t ∧ c ≠ 32 := by
  simp [signTok] at h
  rcases h with ⟨rfl, rfl⟩ | ⟨rfl, rfl⟩ | ⟨rfl, rfl⟩ | ⟨rfl, rfl⟩ | ⟨rfl, rfl⟩ | ⟨rfl, rfl⟩ | ⟨rfl, rfl⟩ <;> exact ⟨by decide, by rfl, by decide⟩
theorem sign_of {c d : UInt16} {t : Token} (h : (c, t) ∈ signTok) (e : Spec.signOf d = t) : d = c := by
  unfold Spec.signOf at e
  simp [signTok] at h
  split at e
  · rename_i q
    subst e
    simp at h
    rw [q, h]
  split at e
  · rename_i q
    subst e
    simp at h
    rw [q, h]
  split at e
  · rename_i q
    subst e
    simp at h
    rw [q, h]
  split at e
  · rename_i q
    subst e
    simp at h
    rw [q, h]
  split at e
  · rename_i q
    subst e
    simp at h
    rw [q, h]
  split at e
  · rename_i q
    subst e
    simp at h
    rw [q, h]
  split at e
  · rename_i q
    subst e
    simp at h
    rw [q, h]
  · subst e
    simp at h
theorem AtTok.sign_yes {u : Units} {n : Nat} {ts : List (Nat × Token)} {c : UInt16} {t : Token} (a : AtTok u n ts) (hs : (c, t) ∈ signTok) (h : u[n]? = some c) : ∃ ts', ts = (n, t) :: ts' ∧ ts' = toks u (n + 1) := by
  obtain ⟨s1, s2, s3⟩ := sign_letter hs
  obtain ⟨hn, hc⟩ := List.getElem?_eq_some_iff.mp h
  have e := a.is
  rw [toks_at hn, hc, if_neg s3, if_neg (by rw [s1]; decide), s2] at e
  exact ⟨_, e, rfl⟩
theorem AtTok.sign_no {u : Units} {n : Nat} {ts : List (Nat × Token)} {c : UInt16} {t : Token} (a : AtTok u n ts) (hs : (c, t) ∈ signTok) (h : u[n]? ≠ some c) : ∀ ts', ts ≠ (n, t) :: ts' := by
  intro ts' e
  subst e
  obtain ⟨hn, _, _, q | q⟩ := a.cons
  · have e2 : t = .name (u[n] :: (u.drop (n + 1)).takeWhile Spec.isLetter) := q.2.1
    rw [e2] at hs
    simp [signTok] at hs
  · have e2 : t = Spec.signOf u[n] := q.2.1
    have := sign_of hs e2.symm
    exact h (by rw [List.getElem?_eq_getElem hn, this])
/-! ### unknown names -/
def unkAfter (tags : List Units) (un : Int) (cs : List (Nat × Token)) : Int := if un < 0 then (match cs.find? (Spec.isUnknown tags) with
    | some e => (e.1 : Int)
    | none => un) else un
theorem unk_nil (tags : List Units) (un : Int) : unkAfter tags un [] = un := by
  unfold unkAfter
  split <;> rfl
theorem unk_app (tags : List Units) (un : Int) (c1 c2 : List (Nat × Token)) : unkAfter tags un (c1 ++ c2) = unkAfter tags (unkAfter tags un c1) c2 := by
  unfold unkAfter
  by_cases h : un < 0
  · rw [if_pos h, if_pos h, List.find?_append]
    cases h1 : c1.find? (Spec.isUnknown tags) with
    | none =>
      show _ = if un < 0 then _ else un
      rw [if_pos h]
      rfl
    | some e =>
      show _ = if (e.1 : Int) < 0 then _ else (e.1 : Int)
      rw [if_neg (by omega)]
      rfl
  · rw [if_neg h, if_neg h, if_neg h]
end Tg
end

section
set_option Elab.async false
set_option linter.all false
set_option maxRecDepth 100000
set_option maxHeartbeats 4000000
/-! Names within lists of names, lists that are equal. -/
namespace Tg
open PySem PySem.Spec PyProof.Rows L2
open R7292f
def pyU (u : Spec.Units) : PyData := .tuple (u.map fun c => .int (c.toNat : Nat))
def pyB (l : List Bool) : PyData := .list (l.map .bool)
section
variable {K : PySem.W.Frag} {H : Hp} {ρ : List (Option Dat)}
theorem dpAll_ints {α : Type} (g : α → Int) : ∀ (u : List α), DpAll K H (u.map fun c => V.int (g c)) (u.map fun c => PyData.int (g c))
  | [] => .nil
  | c :: u => .cons (.int _) (dpAll_ints g u)
theorem dpAll_bls : ∀ (u : List Bool), DpAll K H (u.map V.bl) (u.map PyData.bool)
  | [] => .nil
  | c :: u => .cons (.bl _) (dpAll_bls u)
theorem dp_u {v : V} {u : Spec.Units} (h : Rp K H v (uD u)) : Dp K H v (pyU u) := by
  cases h with
  | tup a r =>
    have e := sc_rpl r
    subst e
    exact .tup a (dpAll_ints _ u)
theorem dpAll_us : ∀ {vs : List V} {l : List Spec.Units}, RpL K H vs (l.map uD) → DpAll K H vs (l.map pyU)
  | _, [], r => by
    cases r
    exact .nil
  | _, u :: l, r => by
    cases r with
    | cons h r => exact .cons (dp_u h) (dpAll_us r)
theorem dp_tags {v : V} {l : List Spec.Units} (h : Rp K H v (tagsD l)) : Dp K H v (.list (l.map pyU)) := by
  cases h with
  | lst a r => exact .lst (SqL.of a) (dpAll_us r)
theorem dp_bs {v : V} {l : List Bool} (h : Rp K H v (bsD l)) : Dp K H v (pyB l) := by
  cases h with
  | lst a r =>
    have e := sc_rpl r
    subst e
    exact .lst (SqL.of a) (dpAll_bls l)
theorem eqvAll_ints : ∀ u w : Spec.Units, PyData.eqvAll (u.map fun c => .int (c.toNat : Nat)) (w.map fun c => .int (c.toNat : Nat)) = (u == w)
  | [], [] => rfl
  | [], _ :: _ => rfl
  | _ :: _, [] => rfl
  | a :: u, b :: w => by
    have ih := eqvAll_ints u w
    show (PyData.eqv (.int (a.toNat : Nat)) (.int (b.toNat : Nat)) && PyData.eqvAll (u.map fun c => .int (c.toNat : Nat)) (w.map fun c => .int (c.toNat : Nat))) = ((a == b) && (u == w))
    rw [ih]
    congr 1
    show (((a.toNat : Nat) : Int) == ((b.toNat : Nat) : Int)) = (a == b)
    by_cases e : a = b
    · subst e
      simp
    · have h1 : (a == b) = false := by simpa using e
      rw [h1]
      have : a.toNat ≠ b.toNat := fun z => e (UInt16.toNat_inj.mp z)
      simp
      omega
theorem eqv_u (u w : Spec.Units) : PyData.eqv (pyU u) (pyU w) = (u == w) := by
  unfold pyU
  exact eqvAll_ints u w
theorem eqvAll_us : ∀ l m : List Spec.Units, PyData.eqvAll (l.map pyU) (m.map pyU) = (l == m)
  | [], [] => rfl
  | [], _ :: _ => rfl
  | _ :: _, [] => rfl
  | a :: l, b :: m => by
    show (PyData.eqv (pyU a) (pyU b) && PyData.eqvAll (l.map pyU) (m.map pyU)) = ((a == b) && (l == m))
    rw [eqvAll_us l m, eqv_u]
theorem eqvAll_bs : ∀ l m : List Bool, PyData.eqvAll (l.map PyData.bool) (m.map PyData.bool) = (l == m)
  | [], [] => rfl
  | [], _ :: _ => rfl
  | _ :: _, [] => rfl
  | a :: l, b :: m => by
    show ((a == b) && PyData.eqvAll (l.map PyData.bool) (m.map PyData.bool)) = ((a == b) && (l == m))
    rw [eqvAll_bs l m]
theorem lay_ints {α : Type} (g : α → Int) : ∀ u : List α, PyData.canLayAll0 (u.map fun c => PyData.int (g c)) = true
  | [] => by simp [PyData.canLayAll0]
  | c :: u => by simp [PyData.canLayAll0, PyData.canLay0, lay_ints g u]
theorem depth_ints {α : Type} (g : α → Int) : ∀ u : List α, PyData.depthAll (u.map fun c => PyData.int (g c)) = 0
  | [] => by simp [PyData.depthAll]
  | c :: u => by simp [PyData.depthAll, PyData.depth, depth_ints g u]
theorem lay_u (u : Spec.Units) : (pyU u).canLay0 = true := by
  unfold pyU
  simp only [PyData.canLay0]
  exact lay_ints _ u
theorem depth_u (u : Spec.Units) : (pyU u).depth = 1 := by
  unfold pyU
  simp only [PyData.depth]
  have := depth_ints (fun c : UInt16 => ((c.toNat : Nat) : Int)) u
  rw [this]
theorem lay_us : ∀ l : List Spec.Units, PyData.canLayAll0 (l.map pyU) = true
  | [] => by simp [PyData.canLayAll0]
  | u :: l => by simp [PyData.canLayAll0, lay_u, lay_us l]
theorem depth_us : ∀ l : List Spec.Units, PyData.depthAll (l.map pyU) ≤ 1
  | [] => by simp [PyData.depthAll]
  | u :: l => by
    have ih := depth_us l
    simp only [List.map_cons, PyData.depthAll, depth_u]
    omega
theorem shaped_u (u : Spec.Units) : SeqAt.shaped (pyU u) = true := by
  unfold SeqAt.shaped
  rw [lay_u, depth_u]
  decide
theorem shaped_us (l : List Spec.Units) : SeqAt.shaped (.list (l.map pyU)) = true := by
  have h := depth_us l
  unfold SeqAt.shaped
  have h2 : (PyData.list (l.map pyU)).canLay0 = true := by
    simp only [PyData.canLay0]
    exact lay_us l
  have h3 : (PyData.list (l.map pyU)).depth ≤ 64 := by
    simp only [PyData.depth]
    omega
  rw [h2, decide_eq_true h3]
  rfl
theorem shaped_bs (l : List Bool) : SeqAt.shaped (pyB l) = true := by
  have h1 : ∀ l : List Bool, PyData.canLayAll0 (l.map PyData.bool) = true := by
    intro l
    induction l with
    | nil => simp [PyData.canLayAll0]
    | cons a l ih => simp [PyData.canLayAll0, PyData.canLay0, ih]
  have h2 : ∀ l : List Bool, PyData.depthAll (l.map PyData.bool) = 0 := by
    intro l
    induction l with
    | nil => simp [PyData.depthAll]
    | cons a l ih => simp [PyData.depthAll, PyData.depth, ih]
  unfold SeqAt.shaped pyB
  simp only [PyData.canLay0, h1, PyData.depth, h2, Bool.true_and]
  decide
theorem any_us (l : List Spec.Units) (w : Spec.Units) : ((l.map pyU).any fun z => PyData.eqv z (pyU w)) = l.contains w := by
  rw [List.any_map, List.contains_eq_any_beq]
  refine congrArg (fun g => l.any g) (funext fun z => ?_)
  show PyData.eqv (pyU z) (pyU w) = (w == z)
  rw [eqv_u]
  exact BEq.comm
theorem rv_inTags {w : Spec.Units} {l : List Spec.Units} : RvD K (rInG K) (uD w) (tagsD l) (.v (.bl (l.contains w))) := fun x y H h1 h2 Q q =>
  .inr ⟨_, _, dp_u h1, dp_tags h2, shaped_u w, shaped_us l, by rw [any_us]; exact q _ H (Same.refl H) (.v _)⟩
theorem rv_notInTags {w : Spec.Units} {l : List Spec.Units} : RvD K (rNotInG K) (uD w) (tagsD l) (.v (.bl (!l.contains w))) := fun x y H h1 h2 Q q =>
  .inr ⟨_, _, dp_u h1, dp_tags h2, shaped_u w, shaped_us l, by rw [any_us]; exact q _ H (Same.refl H) (.v _)⟩
theorem rv_neTags {l m : List Spec.Units} : RvD K (rNeG K) (tagsD l) (tagsD m) (.v (.bl (!(l == m)))) := fun x y H h1 h2 Q q =>
  .inr ⟨_, _, dp_tags h1, dp_tags h2, shaped_us l, shaped_us m, by
    have e : PyData.eqv (.list (l.map pyU)) (.list (m.map pyU)) = (l == m) := eqvAll_us l m
    rw [e]
    exact q _ H (Same.refl H) (.v _)⟩
theorem rv_eqBs {l m : List Bool} : RvD K (rEqG K) (bsD l) (bsD m) (.v (.bl (l == m))) := fun x y H h1 h2 Q q =>
  .inr ⟨_, _, dp_bs h1, dp_bs h2, shaped_bs l, shaped_bs m, by
    have e : PyData.eqv (pyB l) (pyB m) = (l == m) := eqvAll_bs l m
    rw [e]
    exact q _ H (Same.refl H) (.v _)⟩
/-- tags.index(name) -/
theorem ev_index {to te : TE} {l : List Spec.Units} {w : Spec.Units} (ho : EvD K to ρ (tagsD l)) (h : EvD K te ρ (uD w)) (hm : w ∈ l) : EvD K (tBM K "list" (rIndexD K) to (tCons te tNil)) ρ (.v (.int (l.idxOf w : Nat))) := fun σ H e Q q =>
  ho σ H e _ fun x H1 s1 r1 => by
    have r1' := r1
    cases r1' with
    | lst ha _ =>
      refine ⟨.inl ⟨rfl, _, SqL.of ha⟩, h σ H1 (e.mono s1) _ fun y H2 s2 r2 => ?_⟩
      have hi : l.idxOf w < l.length := List.idxOf_lt_length_of_mem hm
      refine ⟨_, y, pyU w, l.map pyU, l.idxOf w, pyU w, rfl, rfl, dp_tags (r1.mono s2), dp_u r2, shaped_us l, shaped_u w, ?_, by rw [eqv_u]; simp, fun m z hz e => ?_, q _ H2 (s1.trans s2) (.v _)⟩
      · rw [List.getElem?_map, List.getElem?_eq_getElem hi]
        simp
      · rw [List.getElem?_map] at e
        have hml : m < l.length := by omega
        rw [List.getElem?_eq_getElem hml] at e
        cases e
        rw [eqv_u]
        have := List.not_of_lt_findIdx (p := fun x => x == w) (xs := l) (i := m) hz
        simpa using this
end
end Tg
end

section
set_option Elab.async false
set_option linter.all false
set_option maxRecDepth 100000
set_option maxHeartbeats 4000000
/-! The reader of filters: its object, its small methods. -/
namespace Tg
open PySem PySem.Spec PyProof.Rows L2
open R7292f
/-! ### the object -/
def pF (o t : V) (z : Str) (n : Int) (un : Int) : List (Str × V) := [("octets", o), ("tags", t), ("ahead", .str z), ("at", .int n), ("unknown", .int un)]
def pG (u : Spec.Units) (tags : List Spec.Units) (z : Str) (n : Int) (un : Int) : List (Str × Dat) := [("octets", uD u), ("tags", tagsD tags), ("ahead", strD z), ("at", intD n), ("unknown", intD un)]
structure PaAt (K : PySem.W.Frag) (C : Addr) (a : Addr) (u : Spec.Units) (tags : List Spec.Units) (z : Str) (n : Nat) (un : Int) (H : Hp) : Prop where
  ex : ∃ dx o t, H a = some (.ins C dx (pF o t z n un)) ∧ Rp K (hid a H) o (uD u) ∧ Rp K (hid a H) t (tagsD tags)
theorem hid_i {K : PySem.W.Frag} {p C dx : Addr} {H : Hp} {fs : List (Str × V)} (h : H p = some (.ins C dx fs)) : SameT K H (hid p H) := fun a xs q => by
  rcases q with q | q
  · refine .inl ?_
    rcases q with q | ⟨ob, q⟩
    · refine .inl ?_
      rw [hid_ne fun z => ?_]
      · exact q
      · rw [z, h] at q
        cases q
    · refine .inr ⟨ob, ?_⟩
      rw [hid_ne fun z => ?_]
      · exact q
      · rw [z, h] at q
        cases q
  · exact .inr q
theorem lkH {β : Type} {k : Str} {v : β} {r : List (Str × β)} : List.lookup k ((k, v) :: r) = some v := by
  have e : (k == k) = true := beq_self_eq_true k
  simp only [List.lookup, e]
theorem lkP {β : Type} {k g : Str} {v : β} {r : List (Str × β)} (h : (k == g) = false) : List.lookup k ((g, v) :: r) = List.lookup k r := by
  simp only [List.lookup, h]
theorem lkN {β : Type} {k : Str} : List.lookup k ([] : List (Str × β)) = none := rfl
theorem put_here {f : Str} {v x : V} {r : List (Str × V)} : putF f v ((f, x) :: r) = (f, v) :: r := if_pos rfl
theorem put_past {f g : Str} {v x : V} {r : List (Str × V)} (h : ¬ g = f) : putF f v ((g, x) :: r) = (g, x) :: putF f v r := if_neg h
section
variable {o t : V} {z : Str} {n : Int} {un : Int} {u : Spec.Units} {tags : List Spec.Units}
theorem pF_at : (pF o t z n un).lookup ("at" : Str) = some (.int n) := (lkP (by decide +kernel)).trans ((lkP (by decide +kernel)).trans ((lkP (by decide +kernel)).trans lkH))
theorem pF_un : (pF o t z n un).lookup ("unknown" : Str) = some (.int un) := (lkP (by decide +kernel)).trans ((lkP (by decide +kernel)).trans ((lkP (by decide +kernel)).trans ((lkP (by decide +kernel)).trans lkH)))
theorem pF_m {m : Str} (h1 : (m == ("octets" : Str)) = false) (h2 : (m == ("tags" : Str)) = false) (h3 : (m == ("ahead" : Str)) = false) (h4 : (m == ("at" : Str)) = false) (h5 : (m == ("unknown" : Str)) = false) : (pF o t z n un).lookup m = none :=
  (lkP h1).trans ((lkP h2).trans ((lkP h3).trans ((lkP h4).trans ((lkP h5).trans lkN))))
theorem pF_puta (k : Int) : putF "at" (.int k) (pF o t z n un) = pF o t z k un :=
  (put_past (by decide +kernel)).trans (congrArg _ ((put_past (by decide +kernel)).trans (congrArg _ ((put_past (by decide +kernel)).trans (congrArg _ put_here)))))
theorem pF_putu (k : Int) : putF "unknown" (.int k) (pF o t z n un) = pF o t z n k :=
  (put_past (by decide +kernel)).trans (congrArg _ ((put_past (by decide +kernel)).trans (congrArg _ ((put_past (by decide +kernel)).trans (congrArg _ ((put_past (by decide +kernel)).trans (congrArg _ put_here)))))))
theorem pG_o : (pG u tags z n un).lookup ("octets" : Str) = some (uD u) := lkH
theorem pG_t : (pG u tags z n un).lookup ("tags" : Str) = some (tagsD tags) := (lkP (by decide +kernel)).trans lkH
theorem pG_z : (pG u tags z n un).lookup ("ahead" : Str) = some (strD z) := (lkP (by decide +kernel)).trans ((lkP (by decide +kernel)).trans lkH)
theorem pG_a : (pG u tags z n un).lookup ("at" : Str) = some (intD n) := (lkP (by decide +kernel)).trans ((lkP (by decide +kernel)).trans ((lkP (by decide +kernel)).trans lkH))
theorem pG_u : (pG u tags z n un).lookup ("unknown" : Str) = some (intD un) := (lkP (by decide +kernel)).trans ((lkP (by decide +kernel)).trans ((lkP (by decide +kernel)).trans ((lkP (by decide +kernel)).trans lkH)))
end
/-- a method's state: the object at a, held by slot 0; the names' data that do not hang on it -/
structure Pst (K : PySem.W.Frag) (C : Addr) (a : Addr) (u : Spec.Units) (tags : List Spec.Units) (z : Str) (n : Nat) (un : Int) (ρ : List (Option Dat)) (σ : L2.St) (H : Hp) : Prop where
  at_ : PaAt K C a u tags z n un H
  env : Env K (hid a H) σ ρ
  self : σ[0]? = some (some (.ref a))
  off : ρ[0]? = some none
section
variable {K : PySem.W.Frag} {C a : Addr} {u : Spec.Units} {tags : List Spec.Units} {z : Str} {n : Nat} {un : Int} {ρ : List (Option Dat)} {σ : L2.St} {H H' : Hp} {te : TE} {tt : TT} {D : Ends} {d : Dat} {ds : List Dat}
theorem PaAt.rp (p : PaAt K C a u tags z n un H) : Rp K H (.ref a) (.obj C (pG u tags z n un)) := by
  obtain ⟨dx, o, t, h1, h2, h3⟩ := p.ex
  exact .obj h1 (.cons (h2.mono hid_same) (.cons (h3.mono hid_same) (.cons (.v _) (.cons (.v _) (.cons (.v _) .nil)))))
theorem PaAt.st (p : PaAt K C a u tags z n un H) : SameT K H (hid a H) := by
  obtain ⟨dx, o, t, h1, _⟩ := p.ex
  exact hid_i h1
theorem PaAt.some (p : PaAt K C a u tags z n un H) : ∃ w, H a = some w := by
  obtain ⟨dx, o, t, h1, _⟩ := p.ex
  exact ⟨_, h1⟩
theorem PaAt.grow (p : PaAt K C a u tags z n un H) (s : Same H H') : PaAt K C a u tags z n un H' := by
  obtain ⟨dx, o, t, h1, h2, h3⟩ := p.ex
  exact ⟨dx, o, t, s _ _ h1, h2.mono (hid_mono s), h3.mono (hid_mono s)⟩
theorem set_self {σ : L2.St} {i : Nat} {v : V} (h : σ[i]? = some (some v)) : σ.set i (some v) = σ := by
  apply List.ext_getElem?
  intro k
  by_cases hk : k = i
  · subst hk
    have := (List.getElem?_eq_some_iff.mp h).1
    rw [List.getElem?_set_self this]
    exact h.symm
  · rw [List.getElem?_set_ne (Ne.symm hk)]
theorem Pst.all (p : Pst K C a u tags z n un ρ σ H) : Env K H σ (ρ.set 0 (some (.obj C (pG u tags z n un)))) := by
  have q := (p.env.mono hid_same).set 0 p.at_.rp
  rw [set_self p.self] at q
  exact q
theorem Pst.grow (p : Pst K C a u tags z n un ρ σ H) (s : Same H H') : Pst K C a u tags z n un ρ σ H' := ⟨p.at_.grow s, p.env.mono (hid_mono s), p.self, p.off⟩
theorem Pst.set {j : Nat} {v : V} (p : Pst K C a u tags z n un ρ σ H) (r : Rp K (hid a H) v d) (hj : j ≠ 0) : Pst K C a u tags z n un (ρ.set j (some d)) (σ.set j (some v)) H :=
  ⟨p.at_, p.env.set j r, by rw [List.getElem?_set_ne hj]; exact p.self, by rw [List.getElem?_set_ne hj]; exact p.off⟩
/-- another state of the object, all else kept -/
theorem Pst.to {n' : Nat} {un' : Int} (p : Pst K C a u tags z n un ρ σ H) (s : Same (hid a H) (hid a H')) (q : PaAt K C a u tags z n' un' H') : Pst K C a u tags z n' un' ρ σ H' :=
  ⟨q, p.env.mono s, p.self, p.off⟩
theorem Pst.forget {j : Nat} (p : Pst K C a u tags z n un ρ σ H) (hj : j ≠ 0) : Pst K C a u tags z n un (ρ.set j none) σ H :=
  ⟨p.at_, p.env.forget j, p.self, by rw [List.getElem?_set_ne hj]; exact p.off⟩
theorem rp_hid {v : V} (p : PaAt K C a u tags z n un H) (r : Rp K H v d) (st : d.still = true) : Rp K (hid a H) v d := r.stay p.st st
theorem rpN_hid {q : Addr} {vs : List V} (p : PaAt K C a u tags z n un H) (nq : H q = none) (s : Same H H') (h : H' q = some (.lst vs)) (r : RpL K H' vs ds) (st : Dat.stills ds = true) : Rp K (hid a H') (.ref q) (.lst ds) := by
  obtain ⟨w, hw⟩ := p.some
  have hne : q ≠ a := fun e => by
    rw [e, hw] at nq
    cases nq
  exact .lst (by rw [hid_ne hne]; exact h) (r.stay (p.grow s).st st)
/-- name = e: still data -/
theorem p_asg {j : Nat} (p : Pst K C a u tags z n un ρ σ H) (h : EvD K te (ρ.set 0 (some (.obj C (pG u tags z n un)))) d) (st : d.still = true) (hj : j ≠ 0)
    (k : ∀ σ' H', Same H H' → Pst K C a u tags z n un (ρ.set j (some d)) σ' H' → D.nx σ' H') : tAsg te (gName j) D σ H :=
  h σ H p.all _ fun v H1 s1 r1 => k _ H1 s1 ((p.grow s1).set (rp_hid (p.grow s1).at_ r1 st) hj)
theorem p_asgN {j : Nat} (p : Pst K C a u tags z n un ρ σ H) (h : EvN K te (ρ.set 0 (some (.obj C (pG u tags z n un)))) ds) (st : Dat.stills ds = true) (hj : j ≠ 0)
    (k : ∀ σ' H', Same H H' → Pst K C a u tags z n un (ρ.set j (some (.lst ds))) σ' H' → D.nx σ' H') : tAsg te (gName j) D σ H :=
  h σ H p.all _ fun q vs H1 nq s1 h1 r1 => k _ H1 s1 ((p.grow s1).set (rpN_hid p.at_ nq s1 h1 r1 st) hj)
theorem p_retN {Q : VK} (p : Pst K C a u tags z n un ρ σ H) (h : EvN K te (ρ.set 0 (some (.obj C (pG u tags z n un)))) ds) (st : Dat.stills ds = true)
    (k : ∀ v H', Same H H' → PaAt K C a u tags z n un H' → Rp K (hid a H') v (.lst ds) → Q v H') : te σ H Q :=
  h σ H p.all _ fun q vs H1 nq s1 h1 r1 => k _ H1 s1 (p.at_.grow s1) (rpN_hid p.at_ nq s1 h1 r1 st)
theorem p_if {tu tw : TS} {b : Bool} (p : Pst K C a u tags z n un ρ σ H) (h : EvT K tt (ρ.set 0 (some (.obj C (pG u tags z n un)))) b) (h1 : b = true → ∀ H', Same H H' → Pst K C a u tags z n un ρ σ H' → tu D σ H')
    (h2 : b = false → ∀ H', Same H H' → Pst K C a u tags z n un ρ σ H' → tw D σ H') : tIfS tt tu tw D σ H :=
  h σ H p.all _ fun H1 s1 => by
    cases b with
    | true => exact h1 rfl H1 s1 (p.grow s1)
    | false => exact h2 rfl H1 s1 (p.grow s1)
/-- self.at += e -/
theorem p_at {k : Nat} {T : Cls K C} {nT : NoAttr K C "at"} (p : Pst K C a u tags z n un ρ σ H) (h : EvD K te (ρ.set 0 (some (.obj C (pG u tags z n un)))) (.v (.int k)))
    (q : ∀ H', Same (hid a H) (hid a H') → Pst K C a u tags z (n + k) un ρ σ H' → D.nx σ H') : sFldAug K (tVar 0) te rAdd "at" D σ H := by
  obtain ⟨dx, o, t, h1, h2, h3⟩ := p.at_.ex
  refine ⟨_, p.self, a, C, dx, _, _, rfl, h1, T, nT, pF_at, h σ H p.all _ fun v H1 s1 r1 => ⟨_, _, rfl, r1.v_eq, dx, _, s1 _ _ h1, by show 5 < 1000; decide, ?_⟩⟩
  rw [pF_puta]
  have e : hid a (upd H1 a (.ins C dx (pF o t z ((n : Int) + (k : Int)) un))) = hid a H1 := hid_upd
  refine q _ (by rw [e]; exact hid_mono s1) ⟨⟨dx, o, t, ?_, by rw [e]; exact h2.mono (hid_mono s1), by rw [e]; exact h3.mono (hid_mono s1)⟩, by rw [e]; exact p.env.mono (hid_mono s1), p.self, p.off⟩
  rw [upd_same]
  have e2 : ((n : Int) + (k : Int)) = ((n + k : Nat) : Int) := by omega
  rw [e2]
/-- self.unknown = e -/
theorem p_un {k : Int} {T : Cls K C} {nT : NoAttr K C "unknown"} (p : Pst K C a u tags z n un ρ σ H) (h : EvD K te (ρ.set 0 (some (.obj C (pG u tags z n un)))) (.v (.int k)))
    (q : ∀ H', Same (hid a H) (hid a H') → Pst K C a u tags z n k ρ σ H' → D.nx σ H') : sFld K (tVar 0) te "unknown" D σ H := by
  obtain ⟨dx, o, t, h1, h2, h3⟩ := p.at_.ex
  refine h σ H p.all _ fun v H1 s1 r1 => ⟨_, p.self, a, C, dx, _, rfl, s1 _ _ h1, T, nT, by show 5 < 1000; decide, ?_⟩
  have ev := r1.v_eq
  subst ev
  rw [pF_putu]
  have e : hid a (upd H1 a (.ins C dx (pF o t z n k))) = hid a H1 := hid_upd
  exact q _ (by rw [e]; exact hid_mono s1) ⟨⟨dx, o, t, upd_same, by rw [e]; exact h2.mono (hid_mono s1), by rw [e]; exact h3.mono (hid_mono s1)⟩, by rw [e]; exact p.env.mono (hid_mono s1), p.self, p.off⟩
end
/-- a while whose test changes nothing -/
theorem s_while {K : PySem.W.Frag} {σ : L2.St} {H : Hp} {D : Ends} {tt : TT} {tb : TS} (W : Nat → L2.St → Hp → Prop) (m0 : Nat) (h0 : W m0 σ H)
    (hs : ∀ m σ H, W m σ H → ∃ b ρ, Env K H σ ρ ∧ EvT K tt ρ b ∧ (b = true → ∀ H', Same H H' → ∃ N : L2.St → Hp → Prop, (∀ σ2 H2, N σ2 H2 → ∃ m', m' < m ∧ W m' σ2 H2) ∧ tb { D with nx := N, ct := N, bk := D.nx } σ H') ∧ (b = false → ∀ H', Same H H' → D.nx σ H')) : tWhile tt tb D σ H := by
  refine ⟨W, ⟨m0, h0⟩, fun m σ H w => ?_⟩
  obtain ⟨b, ρ, e, h, h1, h2⟩ := hs m σ H w
  refine h σ H e _ fun H1 s1 => ?_
  cases b with
  | true => exact h1 rfl H1 s1
  | false => exact h2 rfl H1 s1
/-- the method's own slots at its entry -/
theorem pst_start {K : PySem.W.Frag} {C a : Addr} {u : Spec.Units} {tags : List Spec.Units} {z : Str} {n : Nat} {un : Int} {H : Hp} (N : List Str) {vs : List V} {ds : List Dat} (p : PaAt K C a u tags z n un H) (r : RpL K (hid a H) vs ds) :
    Pst K C a u tags z n un (none :: (ds.map some ++ List.replicate (N.length - (ds.length + 1)) none)) (L2.start N (.ref a :: vs)) H := by
  refine ⟨p, ?_, rfl, rfl⟩
  have e := env_start (N.length - (ds.length + 1)) r
  have e2 : L2.start N (.ref a :: vs) = some (.ref a) :: (vs.map some ++ List.replicate (N.length - (ds.length + 1)) none) := by
    unfold L2.start
    rw [List.length_cons, r.length]
    rfl
  rw [e2]
  exact .skip e
section
variable {P : Program} {w : World} {K : PySem.W.Frag} {mg : Str → Option Value} {base : Heap} {A : Ad} {f : Addr} {fd : FuncData} {ρ : List (Option Dat)} {u : Spec.Units} {tags : List Spec.Units} {z : Str} {n : Nat} {un : Int}
theorem ef_o (T : Txt K mg A) (h : ρ[0]? = some (some (.obj A.pa (pG u tags z n un)))) : EvD K (tFld K (tVar 0) "octets") ρ (uD u) := ev_fld (ev_var h) T.k_Parser T.n_Parser_octets pG_o
theorem ef_t (T : Txt K mg A) (h : ρ[0]? = some (some (.obj A.pa (pG u tags z n un)))) : EvD K (tFld K (tVar 0) "tags") ρ (tagsD tags) := ev_fld (ev_var h) T.k_Parser T.n_Parser_tags pG_t
theorem ef_z (T : Txt K mg A) (h : ρ[0]? = some (some (.obj A.pa (pG u tags z n un)))) : EvD K (tFld K (tVar 0) "ahead") ρ (strD z) := ev_fld (ev_var h) T.k_Parser T.n_Parser_ahead pG_z
theorem ef_a (T : Txt K mg A) (h : ρ[0]? = some (some (.obj A.pa (pG u tags z n un)))) : EvD K (tFld K (tVar 0) "at") ρ (intD n) := ev_fld (ev_var h) T.k_Parser T.n_Parser_at pG_a
theorem ef_u (T : Txt K mg A) (h : ρ[0]? = some (some (.obj A.pa (pG u tags z n un)))) : EvD K (tFld K (tVar 0) "unknown") ρ (intD un) := ev_fld (ev_var h) T.k_Parser T.n_Parser_unknown pG_u
theorem ef_len (T : Txt K mg A) (h : ρ[0]? = some (some (.obj A.pa (pG u tags z n un)))) : EvD K (tCB (rLen K) (tCons (tFld K (tVar 0) "octets") tNil)) ρ (intD u.length) :=
  (ev_cb (ev_cons (ef_o T h) ev_nil) rc_lenT).to (by simp [intD])
/-- self.at < len(self.octets) and self.octets[self.at] .. -/
theorem et_here (T : Txt K mg A) (h : ρ[0]? = some (some (.obj A.pa (pG u tags z n un)))) {t : TT} {g : UInt16 → Bool} (ht : ∀ c, u[n]? = some c → EvT K t ρ (g c)) :
    EvT K (tAnd (tTest (tOp rLtI (tFld K (tVar 0) "at") (tCB (rLen K) (tCons (tFld K (tVar 0) "octets") tNil)))) t) ρ (match u[n]? with
      | some c => g c
      | none => false) := by
  cases hc : u[n]? with
  | some c =>
    have hn := (List.getElem?_eq_some_iff.mp hc).1
    refine (ev_and (ev_test (ev_op (ef_a T h) (ef_len T h) rv_lt)) fun _ => ht c hc).to ?_
    have : decide (((n : Nat) : Int) < ((u.length : Nat) : Int)) = true := decide_eq_true (by omega)
    rw [this]
    rfl
  | none =>
    have hn := List.getElem?_eq_none_iff.mp hc
    refine (ev_and (c' := false) (ev_test (ev_op (ef_a T h) (ef_len T h) rv_lt)) fun hb => ?_).to ?_
    · have := of_decide_eq_true hb
      omega
    · simp
theorem ev_here (T : Txt K mg A) (h : ρ[0]? = some (some (.obj A.pa (pG u tags z n un)))) {c : UInt16} (hc : u[n]? = some c) : EvD K (tOp (rIx K) (tFld K (tVar 0) "octets") (tFld K (tVar 0) "at")) ρ (.v (uI c)) :=
  ev_op (ef_o T h) (ef_a T h) (rv_ixT (ds := sc uI u) (by omega) (sc_get' hc))
where sc_get' {c : UInt16} (hc : u[n]? = some c) : (sc uI u)[((n : Nat) : Int).toNat]? = some (.v (uI c)) := by simp [hc]
/-! ### fail -/
def msgAt (z m : Str) (n : Nat) : Str := z ++ m ++ (toString (n : Int) : String)
def spFail (K : PySem.W.Frag) (A : Ad) : Sp := fun vs H _ E => ∃ a u tags z n un, vs = [.ref a] ∧ PaAt K A.pa a u tags z n un H ∧ z.length ≤ 100 ∧ n ≤ 100 ∧
  ∀ b H', Same H H' → XErr K H' b (2, msgAt z "unexpected text at " n) → E (.ref A.rf) (some b) H'
abbrev s_Parser_fail : Stmt := inClass (top 39) 1
abbrev N_Parser_fail : List Str := ["self"]
theorem sc_Parser_fail : FnScope N_Parser_fail ["self"] (defScope s_Parser_fail) :=
  ⟨rfl, rfl, rfl, by decide +kernel, rfl, by decide +kernel, by decide +kernel⟩
theorem str_len0 : ∀ n : Fin 301, (((toString ((n.val : Nat) : Int) : String) : Str)).length ≤ 3 := by decide +kernel
theorem str_len {n : Nat} (h : n ≤ 300) : (((toString (n : Int) : String) : Str)).length ≤ 3 := str_len0 ⟨n, by omega⟩
theorem app_len (x y : Str) : (x ++ y).length = x.length + y.length := by
  have h := TL.tl_append x y
  have e : ∀ s : Str, s.length = (TL.tl s).length := fun s => by simp [TL.tl, Str.length]
  rw [e, e x, e y, h, List.length_append]
theorem ok_fail (D : Dm K A.pa "fail" "Parser.fail" s_Parser_fail ["self"] f fd) (T : Txt K mg A) (g_out_of_range : Cl P w K mg base (L2N.CX P w) 3 "out_of_range" (MaySp K A.rf (R_refuse 2))) : Mt P w K mg base (L2N.CX P w) 4 A.pa "fail" (spFail K A) := by
  refine D.mt' (D.fn.okN sc_Parser_fail (fun vs H Q E h => ?_) (fun cdv _ outer s H vs Q E hr h => ⟨_, (pss_one (ps_expr (pe_cl g_out_of_range hr (by omega) passX (by rfl) (pa_cons pe_bl (pa_cons (pe_op (op_plusK K) (pe_op (op_plusK K) (pe_fldK K (pv 0) rfl) pe_str) (pe_callTy call_strI (by rfl) T.b_str bt_str (pa_cons (pe_fldK K (pv 0) rfl) pa_nil))) pa_nil))))), ?_⟩))
  · obtain ⟨a, u, tags, z, n, un, rfl, _⟩ := h
    rfl
  · obtain ⟨a, u, tags, z, n, un, rfl, p, hz, hn, x⟩ := h
    have ps := pst_start N_Parser_fail p .nil
    have hs : (Str.ofString "unexpected text at ").length = 19 := by decide +kernel
    have hl := str_len (n := n) (by omega)
    refine ev_callX (K := K) (C := A.rf) (E := E) (R := R_refuse 2) (r := .error (2, msgAt z "unexpected text at " n)) (ev_cons ev_c (ev_cons (ev_op (ev_op (ef_z T rfl) ev_c (rv_plusS ?_)) (ev_cb (ev_cons (ef_a T rfl) ev_nil) (rc_strI ?_)) (rv_plusS ?_)) ev_nil)) ⟨true, _, rfl, rfl⟩ _ H ps.all _ (fun d hd => by cases hd) fun e he b H' s xe => ?_
    · rw [hs]
      omega
    · exact Nat.lt_of_le_of_lt (Nat.log2_le_self _) (by omega)
    · rw [app_len, hs]
      omega
    · cases he
      exact x b H' s xe
/-! ### skip -/
def spSkip (K : PySem.W.Frag) (A : Ad) : Sp := fun vs H Q _ => ∃ a u tags z n un, vs = [.ref a] ∧ PaAt K A.pa a u tags z n un H ∧ n ≤ u.length ∧
  ∀ H', Same (hid a H) (hid a H') → PaAt K A.pa a u tags z (skipN u n) un H' → Q .non H'
abbrev s_Parser_skip : Stmt := inClass (top 39) 2
abbrev N_Parser_skip : List Str := ["self"]
theorem sc_Parser_skip : FnScope N_Parser_skip ["self"] (defScope s_Parser_skip) :=
  ⟨rfl, rfl, rfl, by decide +kernel, rfl, by decide +kernel, by decide +kernel⟩
theorem uI_eq (c : UInt16) (k : Nat) (hk : k < 65536) : decide (((c.toNat : Nat) : Int) = (k : Int)) = (c == UInt16.ofNat k) := by
  by_cases e : c = UInt16.ofNat k
  · subst e
    simp [Nat.mod_eq_of_lt hk]
  · have h1 : (c == UInt16.ofNat k) = false := by simpa using e
    rw [h1]
    refine decide_eq_false fun h => e ?_
    have h2 : c.toNat = k := by omega
    rw [← h2]
    exact (UInt16.ofNat_toNat).symm
theorem ok_skip (D : Dm K A.pa "skip" "Parser.skip" s_Parser_skip ["self"] f fd) (T : Txt K mg A) : Mt P w K mg base CX0 1 A.pa "skip" (spSkip K A) := by
  refine D.mt' (D.fn.ok sc_Parser_skip (fun vs H Q E h => ?_) (fun cdv _ outer s H vs Q E hr h => ⟨_, (pss_one (ps_while PassesOwn.never (PW.pt (pw_and (pt_cmpR op_ltI (pe_fldK K (pv 0) rfl) (pe_callB (call_lenGK K) (by rfl) T.b_len bt_len (pa_cons (pe_fldK K (pv 0) rfl) pa_nil)) (nomark _)) (pw_and1 (pt_cmpR (op_eqGK K hr.units) (pe_ix (ix_seqK K) (pe_fldK K (pv 0) rfl) (pe_fldK K (pv 0) rfl) (fun _ _ => rfl)) (C8.pe_gc rfl T.c_SPACE) (nomark _))))) (pss_one (ps_fldaugK K (pv 0) pe_int in_add)))), ?_⟩))
  · obtain ⟨a, u, tags, z, n, un, rfl, _⟩ := h
    rfl
  · obtain ⟨a, u, tags, z, n, un, rfl, p, hn, k⟩ := h
    have ps := pst_start N_Parser_skip p .nil
    refine s_while (K := K) (fun m σ H1 => ∃ n', skipN u n' = skipN u n ∧ n' ≤ u.length ∧ m = u.length - n' ∧ Pst K A.pa a u tags z n' un [none] σ H1 ∧ Same (hid a H) (hid a H1)) (u.length - n) ⟨n, rfl, hn, rfl, ps, Same.refl _⟩ ?_
    rintro m σ H1 ⟨n', h1, h2, rfl, p1, s1⟩
    refine ⟨_, _, p1.all, et_here T rfl (g := fun c => c == 32) (fun c hc => (ev_test (ev_op (ev_here T rfl hc) ev_c rv_eqI)).to (uI_eq c 32 (by decide))), fun hb H2 s2 => ?_, fun hb H2 s2 => ?_⟩
    · have hc : ∃ h : n' < u.length, u[n'] = 32 := by
        cases hc : u[n']? with
        | none =>
          rw [hc] at hb
          cases hb
        | some c =>
          rw [hc] at hb
          obtain ⟨h3, h4⟩ := List.getElem?_eq_some_iff.mp hc
          exact ⟨h3, by rw [h4]; simpa using hb⟩
      obtain ⟨h3, h4⟩ := hc
      refine ⟨fun σ3 H3 => Pst K A.pa a u tags z (n' + 1) un [none] σ3 H3 ∧ Same (hid a H) (hid a H3), fun σ3 H3 ⟨q1, q2⟩ => ⟨u.length - (n' + 1), by omega, n' + 1, ?_, by omega, rfl, q1, q2⟩, ?_⟩
      · rw [← h1, skip_at h3 h4]
      · exact p_at (k := 1) (T := T.k_Parser) (nT := T.n_Parser_at) (p1.grow s2) ev_c fun H4 s4 p4 => ⟨p4, (s1.trans (hid_mono s2)).trans s4⟩
    · refine k H2 (s1.trans (hid_mono s2)) ?_
      have hst : skipN u n' = n' := by
        cases hc : u[n']? with
        | none => exact skip_end (List.getElem?_eq_none_iff.mp hc)
        | some c =>
          rw [hc] at hb
          obtain ⟨h3, h4⟩ := List.getElem?_eq_some_iff.mp hc
          exact skip_stop h3 (by rw [h4]; simpa using hb)
      rw [← h1, hst]
      exact p1.at_.grow s2
/-! ### has_sign -/
def spHas (K : PySem.W.Frag) (A : Ad) : Sp := fun vs H Q _ => ∃ a u tags z n un, ∃ c : UInt16, vs = [.ref a, uI c] ∧ PaAt K A.pa a u tags z n un H ∧ n ≤ u.length ∧
  (u[n]? = some c → ∀ H', Same (hid a H) (hid a H') → PaAt K A.pa a u tags z (skipN u (n + 1)) un H' → Q (.bl true) H') ∧
  (u[n]? ≠ some c → ∀ H', Same (hid a H) (hid a H') → PaAt K A.pa a u tags z n un H' → Q (.bl false) H')
abbrev s_Parser_has_sign : Stmt := inClass (top 39) 3
abbrev N_Parser_has_sign : List Str := ["self", "sign"]
theorem sc_Parser_has_sign : FnScope N_Parser_has_sign ["self", "sign"] (defScope s_Parser_has_sign) :=
  ⟨rfl, rfl, rfl, by decide +kernel, rfl, by decide +kernel, by decide +kernel⟩
theorem ok_has_sign (D : Dm K A.pa "has_sign" "Parser.has_sign" s_Parser_has_sign ["self", "sign"] f fd) (T : Txt K mg A) (g_Parser_skip : Mt P w K mg base CX0 1 A.pa "skip" (spSkip K A)) : Mt P w K mg base CX0 2 A.pa "has_sign" (spHas K A) := by
  refine D.mt' (D.fn.ok sc_Parser_has_sign (fun vs H Q E h => ?_) (fun cdv _ outer s H vs Q E hr h => ⟨_, (pss_cons (ps_if (PW.pt (pw_and (pt_cmpR op_ltI (pe_fldK K (pv 0) rfl) (pe_callB (call_lenGK K) (by rfl) T.b_len bt_len (pa_cons (pe_fldK K (pv 0) rfl) pa_nil)) (nomark _)) (pw_and1 (pt_cmpR (op_eqGK K hr.units) (pe_ix (ix_seqK K) (pe_fldK K (pv 0) rfl) (pe_fldK K (pv 0) rfl) (fun _ _ => rfl)) (pv 1) (nomark _))))) (pss_cons (ps_fldaugK K (pv 0) pe_int in_add)
    (pss_cons (ps_expr (pe_mt0X g_Parser_skip hr (by omega) pass0 (pv 0)))
    (pss_one (ps_ret pe_bl)))) pss_nil)
    (pss_one (ps_ret pe_bl))), ?_⟩))
  · obtain ⟨a, u, tags, z, n, un, c, rfl, _⟩ := h
    rfl
  · obtain ⟨a, u, tags, z, n, un, c, rfl, p, hn, k1, k2⟩ := h
    have ps := pst_start N_Parser_has_sign p (.cons (.v (uI c)) .nil)
    refine s_seq (p_if ps (et_here T rfl (g := fun d => d == c) (fun d hd => (ev_test (ev_op (ev_here T rfl hd) (ev_var rfl) rv_eqI)).to ?_)) (fun hb H1 s1 p1 => ?_) fun hb H1 s1 p1 => ?_)
    · have := uI_eq d c.toNat (UInt16.toNat_lt c)
      rw [UInt16.ofNat_toNat] at this
      exact this
    · have hc : u[n]? = some c := by
        cases hc : u[n]? with
        | none =>
          rw [hc] at hb
          cases hb
        | some d =>
          rw [hc] at hb
          have : d = c := by simpa using hb
          rw [this]
      have hlt := (List.getElem?_eq_some_iff.mp hc).1
      refine s_seq (p_at (k := 1) (T := T.k_Parser) (nT := T.n_Parser_at) p1 ev_c fun H2 s2 p2 => ?_)
      obtain ⟨dx, o, t, h1, _⟩ := p2.at_.ex
      refine s_seq ⟨_, p2.self, a, dx, _, rfl, h1, pF_m (by decide +kernel) (by decide +kernel) (by decide +kernel) (by decide +kernel) (by decide +kernel), a, u, tags, z, n + 1, un, rfl, p2.at_, by omega, fun H3 s3 p3 => ?_⟩
      exact k1 hc H3 (((hid_mono s1).trans s2).trans s3) p3
    · refine k2 ?_ H1 (hid_mono s1) p1.at_
      intro hc
      rw [hc] at hb
      simp at hb
end
end Tg
end

section
set_option Elab.async false
set_option linter.all false
set_option maxRecDepth 100000
set_option maxHeartbeats 4000000
/-! Comprehensions over what a method has just handed back; zip of two tables. -/
namespace Tg
open PySem PySem.Spec PyProof.Rows L2
open R7292f
section
variable {K : PySem.W.Frag} {ρ : List (Option Dat)} {α : Type}
/-- what a comprehension over J asks, its new list at Dl -/
def LcW (J : It) (g : TG) (tt : TT) (te : TE) (vs : List Nat) (σ : L2.St) (H1 : Hp) (Dl : Addr) (Q : VK) : Prop := ∃ W : Nat → Nat → Hp → Prop, (∃ m, W 0 m (upd H1 Dl (.lst []))) ∧ ∀ i m H, W i m H →
  (J.stop i H ∧ Q (.ref Dl) H) ∨ (J.go i H ∧ ∃ Nx : Hp → Prop, (∀ H', Nx H' → ∃ m', m' < m ∧ W (i + 1) m' H') ∧ ∀ x H', J.yld i H x H' → g x (wipe σ vs) H' fun σ2 H2 => wipe σ2 vs = wipe σ vs ∧ tt σ2 H2 fun b H3 =>
    if b = true then te σ2 H3 fun y H4 => ∃ acc, H4 Dl = some (.lst acc) ∧ acc.length < sizeLine ∧ Nx (upd H4 Dl (.lst (acc ++ [y]))) else Nx H3)
theorem lc_listD {te : TE} {j : Nat} {l : List α} (c : α → Dat) (e : α → Dat) {a Dl : Addr} {xs : List V} {σ : L2.St} {H1 : Hp} {Q : VK} (en : Env K H1 σ ρ) (ha : H1 a = some (.lst xs)) (r : RpL K H1 xs (l.map c)) (hl : l.length ≤ 1000000) (he : ∀ x ∈ l, (e x).still = true)
    (hv : ∀ x ∈ l, EvD K te (ρ.set j (some (c x))) (e x)) (hD : H1 Dl = none) (q : ∀ p vs H', H1 p = none → Same H1 H' → H' p = some (.lst vs) → RpL K H' vs (l.map e) → Q (.ref p) H') : LcW (Itl K a) (gName j) tYes te [j] σ H1 Dl Q := by
  refine lc_list (K := K) (a := a) (xs := xs) (fun i H' => Got K H1 Dl (((l.take i).filter fun _ => true).map e) H') (by simpa using Got.zero hD) (fun i H' _ g => SqL.of (g.same _ _ ha)) (fun i x H' hx g => ?_) fun H' g => ?_
  · obtain ⟨d, hd, rd⟩ := r.back hx
    rw [List.getElem?_map] at hd
    cases hz : l[i]? with
    | none =>
      rw [hz] at hd
      cases hd
    | some z =>
      rw [hz] at hd
      cases hd
      exact comp_turn (f := fun _ => true) hz hl en (rd.mono g.same) g he ev_yes fun _ => hv z (List.mem_of_getElem? hz)
  · exact fin_got (f := fun _ => true) (by rw [r.length, List.length_map]) g fun p vs H2 n s hp rp => q p vs H2 n s hp (by rw [filter_yes] at rp; exact rp)
theorem take_zip {β : Type} {l : List α} {m : List β} {i : Nat} {x : α} {y : β} (h1 : l[i]? = some x) (h2 : m[i]? = some y) : (l.zip m).take (i + 1) = (l.zip m).take i ++ [(x, y)] := by
  have e : (l.zip m)[i]? = some (x, y) := List.getElem?_zip_eq_some.mpr ⟨h1, h2⟩
  rw [List.take_add_one, e]
  rfl
/-- two tables, item by item -/
theorem lc_zipD {te : TE} {j k : Nat} {l m : List Bool} (g : Bool → Bool → Bool) {a b Dl : Addr} {σ : L2.St} {H1 : Hp} {Q : VK} (en : Env K H1 σ ρ) (ha : H1 a = some (.lst (l.map V.bl))) (hb : H1 b = some (.lst (m.map V.bl))) (hl : l.length = m.length) (hz : l.length ≤ 1000000) (hjk : j ≠ k)
    (hv : ∀ x y, EvD K te ((ρ.set j (some (.v (.bl x)))).set k (some (.v (.bl y)))) (.v (.bl (g x y)))) (hD : H1 Dl = none)
    (q : ∀ p vs H', H1 p = none → Same H1 H' → H' p = some (.lst vs) → RpL K H' vs (sc V.bl ((l.zip m).map fun p => g p.1 p.2)) → Q (.ref p) H') : LcW (Itz K a b) (gTup K 2 (gCons (gName j) (gCons (gName k) gNil))) tYes te [j, k] σ H1 Dl Q := by
  refine ⟨fun i mm H' => mm = l.length - i ∧ i ≤ l.length ∧ Got K H1 Dl (sc V.bl (((l.zip m).take i).map fun p => g p.1 p.2)) H', ⟨l.length, by simp, Nat.zero_le _, by simpa using Got.zero hD⟩, ?_⟩
  rintro i mm H ⟨rfl, hi, G⟩
  have ha' := G.same _ _ ha
  have hb' := G.same _ _ hb
  by_cases hlt : i < l.length
  · have hx : l[i]? = some l[i] := List.getElem?_eq_getElem hlt
    have hy : m[i]? = some (m[i]'(by omega)) := List.getElem?_eq_getElem (by omega)
    refine .inr ⟨⟨l.map V.bl, m.map V.bl, .bl l[i], .bl (m[i]'(by omega)), SqL.of ha', SqL.of hb', by rw [List.getElem?_map, hx]; rfl, by rw [List.getElem?_map, hy]; rfl⟩,
      fun H' => Got K H1 Dl (sc V.bl (((l.zip m).take (i + 1)).map fun p => g p.1 p.2)) H', fun H' G' => ⟨l.length - (i + 1), by omega, rfl, hlt, G'⟩, ?_⟩
    rintro v H' ⟨T, x, y, rfl, nT, rfl, h1, h2⟩
    have ex : x = .bl l[i] := by
      have := h1 _ (SqL.of ha')
      rw [List.getElem?_map, hx] at this
      exact (Option.some.inj this).symm
    have ey : y = .bl (m[i]'(by omega)) := by
      have := h2 _ (SqL.of hb')
      rw [List.getElem?_map, hy] at this
      exact (Option.some.inj this).symm
    subst ex
    subst ey
    have sT : Same H (upd H T (.tup [.bl l[i], .bl (m[i]'(by omega))])) := same_new nT
    refine ⟨T, _, rfl, SqT.of upd_same, rfl, _, _, rfl, _, _, rfl, rfl, ?_, ?_⟩
    · show ((((((σ.set k none).set j none).set j _).set k _).set k none).set j none) = (σ.set k none).set j none
      apply List.ext_getElem?
      intro t
      simp only [List.getElem?_set, List.length_set]
      by_cases t1 : j = t
      · by_cases t2 : k = t
        · exact absurd (t1.trans t2.symm) hjk
        · simp [t1, t2]
      · by_cases t2 : k = t <;> simp [t1, t2]
    · have en1 : Env K (upd H T (.tup [.bl l[i], .bl (m[i]'(by omega))])) ((((σ.set k none).set j none).set j (some (.bl l[i]))).set k (some (.bl (m[i]'(by omega))))) ((ρ.set j (some (.v (.bl l[i])))).set k (some (.v (.bl (m[i]'(by omega)))))) := by
        have e0 := ((((en.mono (G.same.trans sT)).drop k none).drop j none).set j (d := .v (.bl l[i])) (.v _)).set k (d := .v (.bl (m[i]'(by omega)))) (.v _)
        have z : (((ρ.set k none).set j none).set j (some (Dat.v (.bl l[i])))).set k (some (Dat.v (.bl (m[i]'(by omega))))) = (ρ.set j (some (.v (.bl l[i])))).set k (some (.v (.bl (m[i]'(by omega))))) := by
          apply List.ext_getElem?
          intro t
          simp only [List.getElem?_set, List.length_set]
          by_cases t1 : k = t
          · simp [t1]
          · by_cases t2 : j = t <;> simp [t1, t2]
        rw [z] at e0
        exact e0
      refine hv _ _ _ _ en1 _ fun w H4 s4 r4 => ?_
      obtain ⟨acc, q1, q2, q3⟩ := G.more (d := .v (.bl (g l[i] (m[i]'(by omega))))) (sc_stills _ _) rfl (sT.trans s4) r4
      refine ⟨acc, q1, ?_, ?_⟩
      · rw [q2, List.length_map, List.length_map, List.length_take]
        exact Nat.lt_of_lt_of_le (show _ < 1000001 by omega) (by decide)
      · rw [take_zip hx hy, List.map_append]
        have z : sc V.bl ((((l.zip m).take i).map fun p => g p.1 p.2) ++ [(l[i], m[i]'(by omega))].map fun p => g p.1 p.2) = sc V.bl (((l.zip m).take i).map fun p => g p.1 p.2) ++ [.v (.bl (g l[i] (m[i]'(by omega))))] := by simp [sc]
        rw [z]
        exact q3
  · have hi' : i = l.length := by omega
    subst hi'
    refine .inl ⟨⟨l.map V.bl, m.map V.bl, SqL.of ha', SqL.of hb', .inl (by simp)⟩, ?_⟩
    have zl : (l.zip m).length = l.length := by rw [List.length_zip]; omega
    rw [← zl, List.take_length] at G
    obtain ⟨vs, v1, v2⟩ := G.at_
    exact q Dl vs H G.new G.same v1 v2
end
end Tg
end

section
set_option Elab.async false
set_option linter.all false
set_option maxRecDepth 100000
set_option maxHeartbeats 4000000
/-! The reader of filters: a name. -/
namespace Tg
open PySem PySem.Spec PyProof.Rows L2
open R7292f
/-! ### names by place -/
def letN (u : Spec.Units) (n : Nat) : Nat := n + ((u.drop n).takeWhile Spec.isLetter).length
theorem let_at {u : Spec.Units} {n : Nat} (h : n < u.length) (h2 : Spec.isLetter u[n] = true) : letN u n = letN u (n + 1) := by
  unfold letN
  rw [drop_at h]
  simp [List.takeWhile, h2]
  omega
theorem let_stop {u : Spec.Units} {n : Nat} (h : n < u.length) (h2 : Spec.isLetter u[n] = false) : letN u n = n := by
  unfold letN
  rw [drop_at h]
  simp [List.takeWhile, h2]
theorem let_end {u : Spec.Units} {n : Nat} (h : u.length ≤ n) : letN u n = n := by
  unfold letN
  rw [List.drop_eq_nil_of_le h]
  rfl
theorem let_le {u : Spec.Units} {n : Nat} (h : n ≤ u.length) : letN u n ≤ u.length := by
  unfold letN
  have h1 : ((u.drop n).takeWhile Spec.isLetter).length ≤ (u.drop n).length := by
    have := List.takeWhile_prefix (p := Spec.isLetter) (l := u.drop n)
    exact this.length_le
  rw [List.length_drop] at h1
  omega
theorem take_let (u : Spec.Units) (n : Nat) : (u.drop n).take (letN u n - n) = (u.drop n).takeWhile Spec.isLetter := by
  unfold letN
  rw [Nat.add_sub_cancel_left]
  have := List.takeWhile_prefix (p := Spec.isLetter) (l := u.drop n)
  exact (List.prefix_iff_eq_take.mp this).symm
theorem cut_mid (u : Spec.Units) (i j : Nat) (h : i ≤ j) (hj : j ≤ u.length) : cutD (sc uI u) (some (i : Int)) (some (j : Int)) = sc uI ((u.drop i).take (j - i)) := by
  unfold cutD
  rw [HT.sIx_nat, HT.sIx_nat]
  have e1 : min i (sc uI u).length = i := by simp; omega
  have e2 : min j (sc uI u).length = j := by simp; omega
  rw [e1, e2]
  simp [sc, List.map_take, List.map_drop]
/-- the first token is a name exactly if a letter stands here -/
theorem AtTok.name {u : Spec.Units} {n : Nat} {ts : List (Nat × Spec.Token)} (a : AtTok u n ts) (h : letN u n ≠ n) : ts = (n, .name ((u.drop n).takeWhile Spec.isLetter)) :: toks u (letN u n) := by
  have hn : n < u.length := by
    by_cases c : n < u.length
    · exact c
    · exact absurd (let_end (by omega)) h
  have hl : Spec.isLetter u[n] = true := by
    cases c : Spec.isLetter u[n] with
    | true => rfl
    | false => exact absurd (let_stop hn c) h
  have hne : u[n] ≠ 32 := by
    have := a.ne
    simpa [hn] using this
  have e := a.is
  rw [toks_at hn, if_neg hne, if_pos hl] at e
  rw [e]
  have e1 : (u.drop n).takeWhile Spec.isLetter = u[n] :: (u.drop (n + 1)).takeWhile Spec.isLetter := by
    rw [drop_at hn]
    simp [List.takeWhile, hl]
  have e2 : letN u n = n + 1 + ((u.drop (n + 1)).takeWhile Spec.isLetter).length := by
    unfold letN
    rw [e1, List.length_cons]
    omega
  rw [e1, e2]
theorem AtTok.noName {u : Spec.Units} {n : Nat} {ts : List (Nat × Spec.Token)} (a : AtTok u n ts) (h : letN u n = n) : ∀ w ts', ts ≠ (n, .name w) :: ts' := by
  intro w ts' e
  subst e
  obtain ⟨hn, _, _, q | q⟩ := a.cons
  · have := let_at hn q.1
    have h2 : n + 1 ≤ letN u (n + 1) := by
      unfold letN
      omega
    omega
  · have e2 : Spec.Token.name w = Spec.signOf u[n] := q.2.1
    unfold Spec.signOf at e2
    repeat (split at e2; cases e2)
    cases e2
def Szs (u : Spec.Units) (tags : List Spec.Units) (z : Str) : Prop := u.length ≤ 60 ∧ tags.length ≤ 5 ∧ z.length ≤ 100
section
variable {P : Program} {w : World} {K : PySem.W.Frag} {mg : Str → Option Value} {base : Heap} {A : Ad} {f : Addr} {fd : FuncData} {ρ : List (Option Dat)} {u : Spec.Units} {tags : List Spec.Units} {z : Str} {n : Nat} {un : Int}
def spTag (K : PySem.W.Frag) (A : Ad) : Sp := fun vs H Q E => ∃ a u tags z n un ts, vs = [.ref a] ∧ PaAt K A.pa a u tags z n un H ∧ AtTok u n ts ∧ Szs u tags z ∧
  (∀ x ts', ts = (n, .name x) :: ts' → ∀ v H' n', Same (hid a H) (hid a H') → PaAt K A.pa a u tags z n' (unkAfter tags un [(n, .name x)]) H' → AtTok u n' ts' → Rp K (hid a H') v (tabD tags.length fun m => m.testBit (tags.idxOf x)) → Q v H') ∧
  ((∀ x ts', ts ≠ (n, .name x) :: ts') → ∀ b H', Same (hid a H) H' → XErr K H' b (2, msgAt z "unexpected text at " n) → E (.ref A.rf) (some b) H')
theorem ev_many (T : Txt K mg A) (h : ρ[0]? = some (some (.obj A.pa (pG u tags z n un)))) (hn : tags.length ≤ 5) {E : XK} : EvD K (tCall (PureSp K R_many_items) [] E (tCons (tCB (rLen K) (tCons (tFld K (tVar 0) "tags") tNil)) tNil)) ρ (.v (.int (2 ^ tags.length : Nat))) :=
  ev_call (R := R_many_items) (ev_cons ((ev_cb (ev_cons (ef_t T h) ev_nil) rc_lenL).to (by simp : Dat.v (.int ((tags.map uD).length : Nat)) = .v (.int (tags.length : Nat)))) ev_nil) ⟨tags.length, rfl, hn, rfl⟩
theorem rep_tab (n : Nat) (b : Bool) (on : Nat → Bool) (h : ∀ m, m < 2 ^ n → on m = b) : (List.replicate (2 ^ n) [Dat.v (.bl b)]).flatten = sc V.bl ((Spec.items n).map on) := by
  have e : (Spec.items n).map on = List.replicate (2 ^ n) b := by
    unfold Spec.items
    rw [List.eq_replicate_iff]
    refine ⟨by simp, fun x hx => ?_⟩
    obtain ⟨m, hm, rfl⟩ := List.mem_map.mp hx
    exact h m (List.mem_range.mp hm)
  rw [e]
  generalize 2 ^ n = k
  induction k with
  | zero => rfl
  | succ k ih =>
    rw [List.replicate_succ, List.flatten_cons, ih, List.replicate_succ]
    rfl
theorem ev_rep (T : Txt K mg A) (h : ρ[0]? = some (some (.obj A.pa (pG u tags z n un)))) {te : TE} (hn : tags.length ≤ 5) (b : Bool) (on : Nat → Bool) (ho : ∀ m, m < 2 ^ tags.length → on m = b) (hm : EvD K te ρ (.v (.int (2 ^ tags.length : Nat)))) :
    EvN K (tOp rTimes (tLst (tCons (tC (.bl b)) tNil)) te) ρ (sc V.bl ((Spec.items tags.length).map on)) := by
  have h32 := small_pow hn
  refine (ev_opN (EvN.toD (ev_lst (ev_cons ev_c ev_nil))) hm (rv_timesL ⟨Int.natCast_nonneg _, Int.ofNat_le.mpr (Nat.le_trans h32 (by decide))⟩ (by simp))).to ?_
  rw [← rep_tab _ _ _ ho]
  have e0 : (((2 ^ tags.length : Nat) : Int)).toNat = 2 ^ tags.length := Int.toNat_natCast _
  rw [e0]
abbrev s_Parser_read_tag : Stmt := inClass (top 39) 7
abbrev N_Parser_read_tag : List Str := ["self", "begin", "name", "tag", "item"]
theorem sc_Parser_read_tag : FnScope N_Parser_read_tag ["self"] (defScope s_Parser_read_tag) :=
  ⟨rfl, rfl, rfl, by decide +kernel, rfl, by decide +kernel, by decide +kernel⟩
theorem ok_read_tag (D : Dm K A.pa "read_tag" "Parser.read_tag" s_Parser_read_tag ["self"] f fd) (T : Txt K mg A) (g_is_letter : Cl P w K mg base CX0 1 "is_letter" (PureSp K R_is_letter)) (g_Parser_fail : Mt P w K mg base (L2N.CX P w) 4 A.pa "fail" (spFail K A))
    (g_Parser_skip : Mt P w K mg base CX0 1 A.pa "skip" (spSkip K A)) (g_many_items : Cl P w K mg base CX0 1 "many_items" (PureSp K R_many_items)) (g_has : Cl P w K mg base CX0 1 "has" (PureSp K R_has)) :
    Mt P w K mg base (L2N.CX P w) 5 A.pa "read_tag" (spTag K A) := by
  refine D.mt' (D.fn.okN sc_Parser_read_tag (fun vs H Q E h => ?_) (fun cdv _ outer s H vs Q E hr h => ⟨_, (pss_cons (ps_set (i := 1) sc_Parser_read_tag.nd rfl (Or.inl rfl) (pe_fldK K (pv 0) rfl))
    (pss_cons (ps_while passOwnX (PW.pt (pw_and (pt_cmpR op_ltI (pe_fldK K (pv 0) rfl) (pe_callB (call_lenGK K) (by rfl) T.b_len bt_len (pa_cons (pe_fldK K (pv 0) rfl) pa_nil)) (nomark _)) (pw_and1 (pt_val (pe_cl g_is_letter hr (by omega) pass0 (by rfl) (pa_cons (pe_ix (ix_seqK K) (pe_fldK K (pv 0) rfl) (pe_fldK K (pv 0) rfl) (fun _ _ => rfl)) pa_nil)))))) (pss_one (ps_fldaugK K (pv 0) pe_int in_add)))
    (pss_cons (ps_if (pt_cmpR (op_eqGK K hr.units) (pe_fldK K (pv 0) rfl) (pv 1) (nomark _)) (pss_one (ps_expr (pe_mt0X g_Parser_fail hr (by omega) passX (pv 0)))) pss_nil)
    (pss_cons (ps_set (i := 2) sc_Parser_read_tag.nd rfl (Or.inl rfl) (pe_callTy (call_tupGK K) (by rfl) T.b_tuple bt_tuple (pa_cons (pe_slice (sl_gK K) (pe_fldK K (pv 0) rfl) (po_some (pv 1)) (po_some (pe_fldK K (pv 0) rfl))) pa_nil)))
    (pss_cons (ps_expr (pe_mt0X g_Parser_skip hr (by omega) pass0 (pv 0)))
    (pss_cons (ps_if (pt_cmpR (op_notInGK K (units65 hr)) (pv 2) (pe_fldK K (pv 0) rfl) (by rfl)) (pss_cons (ps_fldK K (pv 0) (pe_ifExp (pt_cmpR op_ltI (pe_fldK K (pv 0) rfl) pe_int (nomark _)) (pv 1) (pe_fldK K (pv 0) rfl)) rfl)
    (pss_one (ps_ret (pe_op op_times (pe_lst (pa_cons pe_bl pa_nil)) (pe_cl g_many_items hr (by omega) pass0 (by rfl) (pa_cons (pe_callB (call_lenGK K) (by rfl) T.b_len bt_len (pa_cons (pe_fldK K (pv 0) rfl) pa_nil)) pa_nil)))))) pss_nil)
    (pss_cons (ps_set (i := 3) sc_Parser_read_tag.nd rfl (Or.inr rfl) (pe_bmK K PySem.F.plainAttrs_list PySem.F.slot_list_index PySem.F.type_list_index (mt_indexDK K (units65 hr)) (pe_fldK K (pv 0) rfl) (pa_cons (pv 2) pa_nil)))
    (pss_one (ps_ret (pe_lc (own := [("item", 4)]) (by rfl) sc_Parser_read_tag.nd (pi_range1 rfl T.b_range (pa_cons (pe_cl g_many_items hr (by omega) pass0 (by rfl) (pa_cons (pe_callB (call_lenGK K) (by rfl) T.b_len bt_len (pa_cons (pe_fldK K (pv 0) rfl) pa_nil)) pa_nil)) pa_nil)) (blkOk_by (own := [("item", 4)]) (N := N_Parser_read_tag) (sc := defScope s_Parser_read_tag) (by decide +kernel)) (fun _ _ _ _ _ => (pg_name (i := 4) sc_Parser_read_tag.nd rfl (Or.inl rfl))) (fun _ _ _ _ _ => pts_nil) (fun _ _ _ _ _ => (pe_cl g_has hr (by omega) pass0 (by rfl) (pa_cons (pv 4) (pa_cons (pv 3) pa_nil)))))))))))))), ?_⟩))
  · obtain ⟨a, u, tags, z, n, un, ts, rfl, _⟩ := h
    rfl
  · obtain ⟨a, u, tags, z, n, un, ts, rfl, p, at_, ⟨hu, hn, hz⟩, k, x⟩ := h
    have h32 := small_pow hn
    have ps := pst_start N_Parser_read_tag p .nil
    refine s_seq (p_asg ps (ef_a T rfl) rfl (by decide) fun σ1 H1 s1 p1 => ?_)
    refine s_seq (s_while (K := K) (fun m σ H2 => ∃ n', letN u n' = letN u n ∧ n ≤ n' ∧ n' ≤ u.length ∧ m = u.length - n' ∧ Pst K A.pa a u tags z n' un [none, some (intD n), none, none, none] σ H2 ∧ Same (hid a H) (hid a H2)) (u.length - n)
      ⟨n, rfl, Nat.le_refl _, at_.le, rfl, p1, hid_mono s1⟩ ?_)
    rintro m σ2 H2 ⟨n', h1, h2, h3, rfl, p2, s2⟩
    refine ⟨_, _, p2.all, et_here T rfl (g := Spec.isLetter) (fun c hc => ev_B (ev_call (R := R_is_letter) (ev_cons (ev_here T rfl hc) ev_nil) ⟨c, rfl, rfl⟩)), fun hb H3 s3 => ?_, fun hb H3 s3 => ?_⟩
    · have hc : ∃ h : n' < u.length, Spec.isLetter u[n'] = true := by
        cases hc : u[n']? with
        | none =>
          rw [hc] at hb
          cases hb
        | some c =>
          rw [hc] at hb
          obtain ⟨h4, h5⟩ := List.getElem?_eq_some_iff.mp hc
          exact ⟨h4, by rw [h5]; exact hb⟩
      obtain ⟨h4, h5⟩ := hc
      refine ⟨fun σ4 H4 => Pst K A.pa a u tags z (n' + 1) un [none, some (intD n), none, none, none] σ4 H4 ∧ Same (hid a H) (hid a H4), fun σ4 H4 ⟨q1, q2⟩ => ⟨u.length - (n' + 1), by omega, n' + 1, ?_, by omega, by omega, rfl, q1, q2⟩, ?_⟩
      · rw [← h1, let_at h4 h5]
      · exact p_at (k := 1) (T := T.k_Parser) (nT := T.n_Parser_at) (p2.grow s3) ev_c fun H4 s4 p4 => ⟨p4, (s2.trans (hid_mono s3)).trans s4⟩
    · have hst : letN u n' = n' := by
        cases hc : u[n']? with
        | none => exact let_end (List.getElem?_eq_none_iff.mp hc)
        | some c =>
          rw [hc] at hb
          obtain ⟨h4, h5⟩ := List.getElem?_eq_some_iff.mp hc
          exact let_stop h4 (by rw [h5]; exact hb)
      have hL : n' = letN u n := by rw [← h1, hst]
      have p3 := p2.grow s3
      have s03 := s2.trans (hid_mono s3)
      refine s_seq (p_if p3 (ev_test (ev_op (ef_a T rfl) (ev_var rfl) rv_eqI)) (fun hb H4 s4 p4 => ?_) fun hb H4 s4 p4 => ?_)
      · have e : n' = n := by
          have := of_decide_eq_true hb
          omega
        obtain ⟨dx, o, t, q1, _⟩ := p4.at_.ex
        subst e
        refine ⟨_, p4.self, a, dx, _, rfl, q1, pF_m (by decide +kernel) (by decide +kernel) (by decide +kernel) (by decide +kernel) (by decide +kernel), a, u, tags, z, n', un, rfl, p4.at_, hz, by omega, fun b H5 s5 xe => ?_⟩
        exact x (at_.noName hL.symm) b H5 ((s03.trans (hid_mono s4)).trans (hid_same.trans s5)) xe
      · have hne : letN u n ≠ n := by
          have := of_decide_eq_false hb
          intro z
          exact this (by omega)
        have hts := at_.name hne
        rw [← hL] at hts
        have hw : sc uI ((u.drop n).take (n' - n)) = sc uI ((u.drop n).takeWhile Spec.isLetter) := by
          rw [hL, take_let]
        refine s_seq (p_asg (d := uD ((u.drop n).takeWhile Spec.isLetter)) p4 ((ev_cb (ev_cons (ev_slT (ef_o T rfl) (ev_oSome (ev_var rfl)) (ev_oSome (ef_a T rfl))) ev_nil) rc_tupT).to (by rw [cut_mid u n n' h2 h3, hw]; rfl)) (uD_still _) (by decide) fun σ5 H5 s5 p5 => ?_)
        have ht := let_le at_.le
        obtain ⟨dx, o, t, q1, _⟩ := p5.at_.ex
        refine s_seq ⟨_, p5.self, a, dx, _, rfl, q1, pF_m (by decide +kernel) (by decide +kernel) (by decide +kernel) (by decide +kernel) (by decide +kernel), a, u, tags, z, n', un, rfl, p5.at_, h3, fun H6 s6 q6 => ?_⟩
        have p6 := p5.to s6 q6
        have s06 := ((s03.trans (hid_mono s4)).trans (hid_mono s5)).trans s6
        have at6 : AtTok u (skipN u n') (toks u n') := AtTok.skip h3
        have kk := k _ _ hts
        refine s_seq (p_if p6 (ev_test (ev_op (ev_var rfl) (ef_t T rfl) rv_notInTags)) (fun hb H7 s7 p7 => ?_) fun hb H7 s7 p7 => ?_)
        · have hc : tags.contains ((u.drop n).takeWhile Spec.isLetter) = false := by simpa using hb
          have hun : unkAfter tags un [(n, .name ((u.drop n).takeWhile Spec.isLetter))] = if un < 0 then (n : Int) else un := by
            unfold unkAfter
            simp only [List.find?, Spec.isUnknown, hc]
            rfl
          refine s_seq (p_un (k := if un < 0 then (n : Int) else un) (T := T.k_Parser) (nT := T.n_Parser_unknown) p7 (ev_if (ev_test (ev_op (ef_u T rfl) ev_c rv_lt)) (fun hb => ?_) fun hb => ?_) fun H8 s8 p8 => ?_)
          · rw [if_pos (of_decide_eq_true hb)]
            exact ev_var rfl
          · rw [if_neg (of_decide_eq_false hb)]
            exact ef_u T rfl
          · have hni : tags.idxOf ((u.drop n).takeWhile Spec.isLetter) = tags.length := List.idxOf_eq_length (by simpa using hc)
            refine p_retN p8 (ev_rep T rfl hn false (fun m => m.testBit (tags.idxOf ((u.drop n).takeWhile Spec.isLetter))) (fun m hm => ?_) (ev_many T rfl hn)) (sc_stills _ _) fun v H9 s9 q9 r9 => ?_
            · rw [hni]
              exact Nat.testBit_lt_two_pow hm
            · exact kk v H9 _ (((s06.trans (hid_mono s7)).trans s8).trans (hid_mono s9)) (by rw [hun]; exact q9) at6 r9
        · have hc : tags.contains ((u.drop n).takeWhile Spec.isLetter) = true := by simpa using hb
          have hun : unkAfter tags un [(n, .name ((u.drop n).takeWhile Spec.isLetter))] = un := by
            unfold unkAfter
            simp only [List.find?, Spec.isUnknown, hc]
            split <;> rfl
          have hmem : (u.drop n).takeWhile Spec.isLetter ∈ tags := by simpa using hc
          have hi : tags.idxOf ((u.drop n).takeWhile Spec.isLetter) < tags.length := List.idxOf_lt_length_of_mem hmem
          refine s_seq (p_asg p7 (ev_index (ef_t T rfl) (ev_var rfl) hmem) rfl (by decide) fun σ8 H8 s8 p8 => ?_)
          refine p_retN (ds := sc V.bl ((Spec.items tags.length).map fun m => m.testBit (tags.idxOf ((u.drop n).takeWhile Spec.isLetter)))) p8 ((ev_lcR1 (2 ^ tags.length) (fun m => .v (.bl (m.testBit (tags.idxOf ((u.drop n).takeWhile Spec.isLetter))))) (ev_cons (ev_many T rfl hn) ev_nil) (by omega) (fun _ _ => rfl) fun m hm =>
            ev_call (R := R_has) (ev_cons (ev_var rfl) (ev_cons (ev_var rfl) ev_nil)) ⟨m, _, rfl, by omega, rfl⟩).to (by simp [sc, Spec.items])) (sc_stills _ _) fun v H9 s9 q9 r9 => ?_
          exact kk v H9 _ (((s06.trans (hid_mono s7)).trans (hid_mono s8)).trans (hid_mono s9)) (by rw [hun]; exact q9) at6 r9
end
end Tg
end

section
set_option Elab.async false
set_option linter.all false
set_option maxRecDepth 100000
set_option maxHeartbeats 4000000
/-! The reader of filters: the three levels, by one induction on the tokens that are left. -/
namespace Tg
open PySem PySem.Spec PyProof.Rows L2
open R7292f
section
variable {P : Program} {w : World} {K : PySem.W.Frag} {mg : Str → Option Value} {base : Heap} {A : Ad} {f : Addr} {fd : FuncData} {ρ : List (Option Dat)} {u : Spec.Units} {tags : List Spec.Units} {z : Str} {n : Nat} {un : Int} {a : Addr} {σ : L2.St} {H : Hp}
def spRd (K : PySem.W.Frag) (A : Ad) (lvl b : Nat) : Sp := fun vs H Q E => ∃ a u tags z n un ts fu, vs = [.ref a] ∧ PaAt K A.pa a u tags z n un H ∧ AtTok u n ts ∧ Szs u tags z ∧ ts.length < b ∧ 3 * ts.length + (3 - lvl) ≤ fu ∧
  (∀ F rest, Spec.parse fu lvl (ts.map (·.2)) = .ok (F, rest) → ∀ cs ts', ts = cs ++ ts' → ts'.map (·.2) = rest → ∀ v H' n', Same (hid a H) (hid a H') → PaAt K A.pa a u tags z n' (unkAfter tags un cs) H' → AtTok u n' ts' →
    Rp K (hid a H') v (tabD tags.length fun m => Spec.holds tags m F) → Q v H') ∧
  (∀ m, Spec.parse fu lvl (ts.map (·.2)) = .error m → ∀ cs ts' n', ts = cs ++ ts' → ts'.length = m → AtTok u n' ts' → ∀ b H', Same (hid a H) H' → XErr K H' b (2, msgAt z "unexpected text at " n') → E (.ref A.rf) (some b) H')
theorem lc_zipA {K : PySem.W.Frag} {ρ : List (Option Dat)} {te : TE} {i j k : Nat} {l m : List Bool} (g : Bool → Bool → Bool) {a b Dl : Addr} {σ σ0 : L2.St} {H1 : Hp} {D : L2.St → Hp → Prop} (en : Env K H1 σ ρ) (ha : H1 a = some (.lst (l.map V.bl))) (hb : H1 b = some (.lst (m.map V.bl))) (hl : l.length = m.length) (hz : l.length ≤ 1000000) (hjk : j ≠ k)
    (hv : ∀ x y, EvD K te ((ρ.set j (some (.v (.bl x)))).set k (some (.v (.bl y)))) (.v (.bl (g x y)))) (hD : H1 Dl = none)
    (q : ∀ p vs H', H1 p = none → Same H1 H' → H' p = some (.lst vs) → RpL K H' vs (sc V.bl ((l.zip m).map fun p => g p.1 p.2)) → D (σ0.set i (some (.ref p))) H') : LcW (Itz K a b) (gTup K 2 (gCons (gName j) (gCons (gName k) gNil))) tYes te [j, k] σ H1 Dl (fun v H' => gName i v σ0 H' D) :=
  lc_zipD (Q := fun v H' => gName i v σ0 H' D) g en ha hb hl hz hjk hv hD q
theorem no_field {m : Str} {o t : V} (h : (m == ("octets" : Str) || m == ("tags" : Str) || m == ("ahead" : Str) || m == ("at" : Str) || m == ("unknown" : Str)) = false) : (pF o t z n un).lookup m = none := by
  simp only [Bool.or_eq_false_iff] at h
  exact pF_m h.1.1.1.1 h.1.1.1.2 h.1.1.2 h.1.2 h.2
/-- self.m() -/
theorem p_meth {m : Str} {sp : Sp} {E : XK} {Q : VK} (hm : (m == ("octets" : Str) || m == ("tags" : Str) || m == ("ahead" : Str) || m == ("at" : Str) || m == ("unknown" : Str)) = false) (p : Pst K A.pa a u tags z n un ρ σ H) (h : sp [.ref a] H Q E) :
    tMeth A.pa m sp [] E (tVar 0) tNil σ H Q := by
  obtain ⟨dx, o, t, q1, _⟩ := p.at_.ex
  exact ⟨_, p.self, a, dx, _, rfl, q1, no_field hm, h⟩
/-- self.has_sign(c) -/
theorem p_has {ts : List (Nat × Spec.Token)} {c : UInt16} {t : Spec.Token} {k : Int} {E : XK} {Q : Bool → Hp → Prop} (p : Pst K A.pa a u tags z n un ρ σ H) (at_ : AtTok u n ts) (hs : (c, t) ∈ signTok) (hk : V.int k = uI c)
    (h1 : ∀ ts1, ts = (n, t) :: ts1 → ∀ n1 H', Same (hid a H) (hid a H') → Pst K A.pa a u tags z n1 un ρ σ H' → AtTok u n1 ts1 → Q true H')
    (h2 : (∀ ts1, ts ≠ (n, t) :: ts1) → ∀ H', Same (hid a H) (hid a H') → Pst K A.pa a u tags z n un ρ σ H' → Q false H') :
    tB (tMeth A.pa "has_sign" (spHas K A) [] E (tVar 0) (tCons (tC (.int k)) tNil)) σ H Q := by
  obtain ⟨dx, o, t', q1, _⟩ := p.at_.ex
  refine ⟨_, p.self, a, dx, _, rfl, q1, no_field (by decide +kernel), ?_⟩
  refine ⟨a, u, tags, z, n, un, c, by rw [hk]; rfl, p.at_, at_.le, fun hc H' s q => ⟨true, rfl, ?_⟩, fun hc H' s q => ⟨false, rfl, ?_⟩⟩
  · obtain ⟨ts1, e1, e2⟩ := at_.sign_yes hs hc
    have hlt := (List.getElem?_eq_some_iff.mp hc).1
    exact h1 ts1 e1 _ H' s (p.to s q) (by rw [e2]; exact AtTok.skip hlt)
  · exact h2 (at_.sign_no hs hc) H' s (p.to s q)
/-- a level: the level above it, a sign between -/
theorem rd_level {l b : Nat} {m1 : Str} {c : UInt16} {t : Spec.Token} {k : Int} {te : TE} {g : Bool → Bool → Bool} {op : Spec.Filter → Spec.Filter → Spec.Filter} {E : XK}
    (hm : (m1 == ("octets" : Str) || m1 == ("tags" : Str) || m1 == ("ahead" : Str) || m1 == ("at" : Str) || m1 == ("unknown" : Str)) = false) (hs : (c, t) ∈ signTok) (hk : V.int k = uI c) (hl : l ≤ 1)
    (assoc : ∀ x y z, g x (g y z) = g (g x y) z) (hop : ∀ tags m F G, Spec.holds tags m (op F G) = g (Spec.holds tags m F) (Spec.holds tags m G))
    (hte : ∀ (ρ : List (Option Dat)) x y, ρ[2]? = some (some (.v (.bl x))) → ρ[3]? = some (some (.v (.bl y))) → EvD K te ρ (.v (.bl (g x y))))
    (p1 : ∀ f ts m, Spec.parse f (l + 1) ts = .error m → Spec.parse (f + 1) l ts = .error m)
    (p2 : ∀ f ts F r, Spec.parse f (l + 1) ts = .ok (F, t :: r) → Spec.parse (f + 1) l ts = (match Spec.parse f l r with
      | .error m => .error m
      | .ok (G, s) => .ok (op F G, s)))
    (p3 : ∀ f ts F r, (∀ r', r ≠ t :: r') → Spec.parse f (l + 1) ts = .ok (F, r) → Spec.parse (f + 1) l ts = .ok (F, r))
    (vs : List V) (H : Hp) (Q : VK) (h : spRd K A l b vs H Q E) :
    tSeq (tAsg (tMeth A.pa m1 (spRd K A (l + 1) b) [] E (tVar 0) tNil) (gName 1)) (tSeq (tWhile (tB (tMeth A.pa "has_sign" (spHas K A) [] E0 (tVar 0) (tCons (tC (.int k)) tNil)))
      (tAsg (tLc (iZip K (tCons (tVar 1) (tCons (tMeth A.pa m1 (spRd K A (l + 1) b) [] E (tVar 0) tNil) tNil))) (gTup K 2 (gCons (gName 2) (gCons (gName 3) gNil))) tYes te [2, 3]) (gName 1))) (tRet (tVar 1)))
      { nx := fun _ H' => Q .non H', rt := Q } (L2.start ["self", "found", "one", "other"] vs) H := by
  obtain ⟨a, u, tags, z, n, un, ts, fu, rfl, p, at_, sz, hb, hf, kok, kerr⟩ := h
  obtain ⟨hu, hn, hz⟩ := sz
  have h32 := small_pow hn
  have ps := pst_start ["self", "found", "one", "other"] p .nil
  obtain ⟨f, rfl⟩ : ∃ f, fu = f + 1 := ⟨fu - 1, by omega⟩
  refine s_seq (p_meth hm ps ⟨a, u, tags, z, n, un, ts, f, rfl, p, at_, ⟨hu, hn, hz⟩, hb, by omega, fun F rest hpo cs ts1 e1 e2 v H1 n1 s1 q1 at1 r1 => ?_, fun m hpe cs ts1 n1 e1 e2 at1 b H1 s1 xe => kerr m (p1 f _ m hpe) cs ts1 n1 e1 e2 at1 b H1 s1 xe⟩)
  subst e2
  have pst1 : Pst K A.pa a u tags z n1 (unkAfter tags un cs) [none, some (tabD tags.length fun m => Spec.holds tags m F), none, none] ((L2.start ["self", "found", "one", "other"] [.ref a]).set 1 (some v)) H1 := (ps.to s1 q1).set (j := 1) r1 (by decide)
  refine s_seq ⟨fun mm σ H2 => ∃ (n2 : Nat) (cs2 ts2 : List (Nat × Spec.Token)) (on : Nat → Bool) (f2 : Nat) (G : Spec.Filter → Spec.Filter) (F2 : Spec.Filter), ts = cs2 ++ ts2 ∧ mm = ts2.length ∧ Pst K A.pa a u tags z n2 (unkAfter tags un cs2) [none, some (tabD tags.length on), none, none] σ H2 ∧ Same (hid a H) (hid a H2) ∧ AtTok u n2 ts2 ∧ 3 * ts2.length ≤ f2 ∧
    (∀ r, ts2.map (·.2) = t :: r → Spec.parse (f + 1) l (ts.map (·.2)) = (match Spec.parse f2 l r with
      | .error m => .error m
      | .ok (X, s) => .ok (G X, s))) ∧
    ((∀ r, ts2.map (·.2) ≠ t :: r) → Spec.parse (f + 1) l (ts.map (·.2)) = .ok (F2, ts2.map (·.2))) ∧ (∀ X m, Spec.holds tags m (G X) = g (on m) (Spec.holds tags m X)) ∧ (∀ m, Spec.holds tags m F2 = on m),
    ⟨_, n1, cs, ts1, _, f, op F, F, e1, rfl, pst1, s1, at1, ?_, ?_, ?_, fun X m => hop tags m F X, fun m => rfl⟩, ?_⟩
  · have : ts.length = cs.length + ts1.length := by rw [e1, List.length_append]
    omega
  · intro r hr
    rw [hr] at hpo
    exact p2 f _ F r hpo
  · intro hr
    exact p3 f _ F _ hr hpo
  rintro mm σ H2 ⟨n2, cs2, ts2, on, f2, G, F2, e2, rfl, pst2, s2, at2, hf2, hg1, hg2, ho1, ho2⟩
  refine p_has pst2 at2 hs hk (fun ts3 e3 n3 H3 s3 pst3 at3 => ?_) fun hno H3 s3 pst3 => ?_
  · rw [if_pos rfl]
    subst e3
    have hg := hg1 (ts3.map (·.2)) rfl
    obtain ⟨f3, rfl⟩ : ∃ f3, f2 = f3 + 1 := ⟨f2 - 1, by simp at hf2; omega⟩
    refine ⟨fun σ4 H4 => ∃ m', m' < ((n2, t) :: ts3).length ∧ ∃ (n2 : Nat) (cs2 ts2 : List (Nat × Spec.Token)) (on : Nat → Bool) (f2 : Nat) (G : Spec.Filter → Spec.Filter) (F2 : Spec.Filter), ts = cs2 ++ ts2 ∧ m' = ts2.length ∧ Pst K A.pa a u tags z n2 (unkAfter tags un cs2) [none, some (tabD tags.length on), none, none] σ4 H4 ∧ Same (hid a H) (hid a H4) ∧ AtTok u n2 ts2 ∧ 3 * ts2.length ≤ f2 ∧
      (∀ r, ts2.map (·.2) = t :: r → Spec.parse (f + 1) l (ts.map (·.2)) = (match Spec.parse f2 l r with
        | .error m => .error m
        | .ok (X, s) => .ok (G X, s))) ∧
      ((∀ r, ts2.map (·.2) ≠ t :: r) → Spec.parse (f + 1) l (ts.map (·.2)) = .ok (F2, ts2.map (·.2))) ∧ (∀ X m, Spec.holds tags m (G X) = g (on m) (Spec.holds tags m X)) ∧ (∀ m, Spec.holds tags m F2 = on m), fun σ4 H4 q => q, ?_⟩
    have ets : ts = (cs2 ++ [(n2, t)]) ++ ts3 := by rw [e2]; simp
    have hun3 : unkAfter tags (unkAfter tags un cs2) [(n2, t)] = unkAfter tags un cs2 := by
      have hu2 : Spec.isUnknown tags (n2, t) = false := by
        simp [signTok] at hs
        rcases hs with ⟨_, rfl⟩ | ⟨_, rfl⟩ | ⟨_, rfl⟩ | ⟨_, rfl⟩ | ⟨_, rfl⟩ | ⟨_, rfl⟩ | ⟨_, rfl⟩ <;> rfl
      generalize unkAfter tags un cs2 = q
      unfold unkAfter
      simp only [List.find?, hu2, ite_self]
    have hlen3 : ts3.length + 1 ≤ ts.length := by
      rw [ets, List.length_append, List.length_append, List.length_singleton]
      omega
    -- the left table, then the level above
    obtain ⟨v1, w1, w2⟩ := pst3.env.get (i := 1) rfl
    refine ⟨v1, w1, p_meth hm pst3 ⟨a, u, tags, z, n3, unkAfter tags un cs2, ts3, f3, rfl, pst3.at_, at3, ⟨hu, hn, hz⟩, by omega, by simp at hf2; omega, fun F3 rest hpo3 cs4 ts4 e4 e5 v4 H4 n4 s4 q4 at4 r4 => ?_, fun m hpe cs4 ts4 n4 e4 e5 at4 b4 H4 s4 xe => by
      have hpl := p1 f3 _ m hpe
      rw [hpl] at hg
      exact kerr m hg (cs2 ++ [(n2, t)] ++ cs4) ts4 n4 (by rw [ets, e4]; simp) e5 at4 b4 H4 (((s2.trans s3)).trans s4) xe⟩⟩
    subst e5
    have w4 := w2.mono s4
    have w5 := w4.mono hid_same
    have r5 := r4.mono hid_same
    cases w5 with
    | lst ha1 rl1 =>
      cases r5 with
      | lst ha2 rl2 =>
        rename_i b1 xs1 b2 xs2
        have ex1 := sc_rpl rl1
        have ex2 := sc_rpl rl2
        subst ex1
        subst ex2
        refine ⟨b1, b2, _, _, rfl, SqL.of ha1, SqL.of ha2, fun Dl hD => ?_⟩
        have pst4 : Pst K A.pa a u tags z n4 (unkAfter tags (unkAfter tags un cs2) cs4) [none, some (tabD tags.length on), none, none] σ H4 := pst3.to s4 q4
        refine lc_zipA (K := K) (j := 2) (k := 3) g pst4.all ha1 ha2 (by simp) (by simp [Spec.items]; omega) (by decide) (fun x y => hte _ x y (by rfl) (by rfl)) hD fun p5 vs5 H5 n5 s5 h5 r5 => ?_
        have hz2 : (((Spec.items tags.length).map on).zip ((Spec.items tags.length).map fun m => Spec.holds tags m F3)).map (fun p => g p.1 p.2) = (Spec.items tags.length).map fun m => g (on m) (Spec.holds tags m F3) := by
          rw [List.zip_map', List.map_map]
          rfl
        rw [hz2] at r5
        have hun4 : unkAfter tags (unkAfter tags un cs2) cs4 = unkAfter tags un (cs2 ++ [(n2, t)] ++ cs4) := by
          rw [unk_app, unk_app, hun3]
        have pst5 := (pst4.grow s5).set (j := 1) (rpN_hid pst4.at_ n5 s5 h5 r5 (sc_stills _ _)) (by decide)
        rw [hun4] at pst5
        refine ⟨ts4.length, by rw [List.length_cons, e4, List.length_append]; omega, n4, cs2 ++ [(n2, t)] ++ cs4, ts4, fun m => g (on m) (Spec.holds tags m F3), f3, fun X => G (op F3 X), G F3, by rw [ets, e4]; simp, rfl, pst5, ((s2.trans s3).trans s4).trans (hid_mono s5), at4, ?_, ?_, ?_, ?_, ?_⟩
        · have : ts3.length = cs4.length + ts4.length := by rw [e4, List.length_append]
          simp at hf2
          omega
        · intro r hr
          rw [hr] at hpo3
          rw [hg, p2 f3 _ F3 r hpo3]
          cases Spec.parse f3 l r with
          | error m => rfl
          | ok v => rfl
        · intro hr
          rw [hg, p3 f3 _ F3 _ hr hpo3]
        · intro X m
          rw [ho1, hop, assoc]
        · intro m
          rw [ho1]
  · rw [if_neg (by decide)]
    have hno' : ∀ r, ts2.map (·.2) ≠ t :: r := by
      intro r hr
      cases ts2 with
      | nil => cases hr
      | cons e ts3 =>
        obtain ⟨hlt, h1, _⟩ := at2.cons
        have he2 : e.2 = t := by
          have := congrArg List.head? hr
          simpa using this
        exact hno ts3 (by rw [← h1, ← he2])
    have hg := hg2 hno'
    obtain ⟨v1, w1, w2⟩ := pst3.env.get (i := 1) rfl
    refine ⟨v1, w1, kok F2 _ hg cs2 ts2 e2 rfl v1 H3 n2 (s2.trans s3) pst3.at_ at2 ?_⟩
    have e : (fun m => Spec.holds tags m F2) = on := funext ho2
    rw [e]
    exact w2
end
end Tg
end

section
set_option Elab.async false
set_option linter.all false
set_option maxRecDepth 100000
set_option maxHeartbeats 4000000
/-! The reader of filters: its three levels, tied. -/
namespace Tg
open PySem PySem.Spec PyProof.Rows L2
open R7292f
/-! ### the parser, step by step -/
section
variable {f l : Nat} {ts r s : List Spec.Token} {F G : Spec.Filter} {m : Nat}
theorem ps2_bang : Spec.parse (f + 1) 2 (.bang :: r) = (match Spec.parse f 2 r with
      | .error n => .error n
      | .ok (a, s) => .ok (.not a, s)) := rfl
theorem ps2_left : Spec.parse (f + 1) 2 (.left :: r) = (match Spec.parse f 0 r with
      | .error n => .error n
      | .ok (a, .right :: s) => .ok (a, s)
      | .ok (_, s) => .error s.length) := rfl
theorem ps2_close (h : Spec.parse f 0 r = .ok (F, .right :: s)) : Spec.parse (f + 1) 2 (.left :: r) = .ok (F, s) := by rw [ps2_left, h]
theorem ps2_open (h : Spec.parse f 0 r = .ok (F, s)) (hs : ∀ s', s ≠ .right :: s') : Spec.parse (f + 1) 2 (.left :: r) = .error s.length := by
  rw [ps2_left, h]
  cases s with
  | nil => rfl
  | cons t s =>
    cases t with
    | right => exact absurd rfl (hs s)
    | _ => rfl
theorem ps2_bad (h1 : ∀ x r, ts ≠ .name x :: r) (h2 : ∀ r, ts ≠ .zero :: r) (h3 : ∀ r, ts ≠ .one :: r) (h4 : ∀ r, ts ≠ .bang :: r) (h5 : ∀ r, ts ≠ .left :: r) : Spec.parse (f + 1) 2 ts = .error ts.length := by
  cases ts with
  | nil => rfl
  | cons t r =>
    cases t with
    | name x => exact absurd rfl (h1 x r)
    | zero => exact absurd rfl (h2 r)
    | one => exact absurd rfl (h3 r)
    | bang => exact absurd rfl (h4 r)
    | left => exact absurd rfl (h5 r)
    | _ => rfl
theorem ps1_eq (f : Nat) (ts : List Spec.Token) : Spec.parse (f + 1) 1 ts = (match Spec.parse f 2 ts with
    | .error n => .error n
    | .ok (a, .amp :: r) => (match Spec.parse f 1 r with
      | .error n => .error n
      | .ok (b, s) => .ok (.and a b, s))
    | .ok (a, r) => .ok (a, r)) := rfl
theorem ps1_err (f : Nat) (ts : List Spec.Token) (m : Nat) (h : Spec.parse f 2 ts = .error m) : Spec.parse (f + 1) 1 ts = .error m := by
  rw [ps1_eq, h]
theorem ps1_go (f : Nat) (ts : List Spec.Token) (F : Spec.Filter) (r : List Spec.Token) (h : Spec.parse f 2 ts = .ok (F, .amp :: r)) : Spec.parse (f + 1) 1 ts = (match Spec.parse f 1 r with
      | .error m => .error m
      | .ok (G, s) => .ok (.and F G, s)) := by
  rw [ps1_eq, h]
theorem ps1_end (f : Nat) (ts : List Spec.Token) (F : Spec.Filter) (r : List Spec.Token) (hr : ∀ r', r ≠ .amp :: r') (h : Spec.parse f 2 ts = .ok (F, r)) : Spec.parse (f + 1) 1 ts = .ok (F, r) := by
  rw [ps1_eq, h]
  cases r with
  | nil => rfl
  | cons t r =>
    cases t with
    | amp => exact absurd rfl (hr r)
    | _ => rfl
theorem ps0_eq (f : Nat) (ts : List Spec.Token) : Spec.parse (f + 1) 0 ts = (match Spec.parse f 1 ts with
    | .error n => .error n
    | .ok (a, .bar :: r) => (match Spec.parse f 0 r with
      | .error n => .error n
      | .ok (b, s) => .ok (.or a b, s))
    | .ok (a, r) => .ok (a, r)) := rfl
theorem ps0_err (f : Nat) (ts : List Spec.Token) (m : Nat) (h : Spec.parse f 1 ts = .error m) : Spec.parse (f + 1) 0 ts = .error m := by
  rw [ps0_eq, h]
theorem ps0_go (f : Nat) (ts : List Spec.Token) (F : Spec.Filter) (r : List Spec.Token) (h : Spec.parse f 1 ts = .ok (F, .bar :: r)) : Spec.parse (f + 1) 0 ts = (match Spec.parse f 0 r with
      | .error m => .error m
      | .ok (G, s) => .ok (.or F G, s)) := by
  rw [ps0_eq, h]
theorem ps0_end (f : Nat) (ts : List Spec.Token) (F : Spec.Filter) (r : List Spec.Token) (hr : ∀ r', r ≠ .bar :: r') (h : Spec.parse f 1 ts = .ok (F, r)) : Spec.parse (f + 1) 0 ts = .ok (F, r) := by
  rw [ps0_eq, h]
  cases r with
  | nil => rfl
  | cons t r =>
    cases t with
    | bar => exact absurd rfl (hr r)
    | _ => rfl
end
theorem unk_cons {tags : List Spec.Units} {un : Int} {e : Nat × Spec.Token} {cs : List (Nat × Spec.Token)} (h : Spec.isUnknown tags e = false) : unkAfter tags un (e :: cs) = unkAfter tags un cs := by
  unfold unkAfter
  simp only [List.find?, h]
theorem unk_snoc {tags : List Spec.Units} {un : Int} {e : Nat × Spec.Token} {cs : List (Nat × Spec.Token)} (h : Spec.isUnknown tags e = false) : unkAfter tags un (cs ++ [e]) = unkAfter tags un cs := by
  rw [unk_app, unk_cons h, unk_nil]
section
variable {K : PySem.W.Frag} {A : Ad} {ρ : List (Option Dat)} {u : Spec.Units} {tags : List Spec.Units} {z : Str} {n : Nat} {un : Int} {a : Addr} {σ : L2.St} {H : Hp}
theorem p_ifHas {ts : List (Nat × Spec.Token)} {c : UInt16} {t : Spec.Token} {k : Int} {E : XK} {tu tw : TS} {D : Ends} (p : Pst K A.pa a u tags z n un ρ σ H) (at_ : AtTok u n ts) (hs : (c, t) ∈ signTok) (hk : V.int k = uI c)
    (h1 : ∀ ts1, ts = (n, t) :: ts1 → ∀ n1 H', Same (hid a H) (hid a H') → Pst K A.pa a u tags z n1 un ρ σ H' → AtTok u n1 ts1 → tu D σ H')
    (h2 : (∀ ts1, ts ≠ (n, t) :: ts1) → ∀ H', Same (hid a H) (hid a H') → Pst K A.pa a u tags z n un ρ σ H' → tw D σ H') :
    tIfS (tB (tMeth A.pa "has_sign" (spHas K A) [] E (tVar 0) (tCons (tC (.int k)) tNil))) tu tw D σ H :=
  p_has (Q := fun b H' => if b = true then tu D σ H' else tw D σ H') p at_ hs hk h1 h2
theorem p_ifHasNot {ts : List (Nat × Spec.Token)} {c : UInt16} {t : Spec.Token} {k : Int} {E : XK} {tu tw : TS} {D : Ends} (p : Pst K A.pa a u tags z n un ρ σ H) (at_ : AtTok u n ts) (hs : (c, t) ∈ signTok) (hk : V.int k = uI c)
    (h1 : ∀ ts1, ts = (n, t) :: ts1 → ∀ n1 H', Same (hid a H) (hid a H') → Pst K A.pa a u tags z n1 un ρ σ H' → AtTok u n1 ts1 → tw D σ H')
    (h2 : (∀ ts1, ts ≠ (n, t) :: ts1) → ∀ H', Same (hid a H) (hid a H') → Pst K A.pa a u tags z n un ρ σ H' → tu D σ H') :
    tIfS (tNot (tB (tMeth A.pa "has_sign" (spHas K A) [] E (tVar 0) (tCons (tC (.int k)) tNil)))) tu tw D σ H :=
  p_has (Q := fun b H' => (fun c H' => if c = true then tu D σ H' else tw D σ H') (!b) H') p at_ hs hk h1 h2
end
section
variable {P : Program} {w : World} {K : PySem.W.Frag} {mg : Str → Option Value} {base : Heap} {A : Ad} {f : Addr} {fd : FuncData} {b k : Nat}
abbrev s_Parser_read_and : Stmt := inClass (top 39) 5
abbrev N_Parser_read_and : List Str := ["self", "found", "one", "other"]
theorem sc_Parser_read_and : FnScope N_Parser_read_and ["self"] (defScope s_Parser_read_and) :=
  ⟨rfl, rfl, rfl, by decide +kernel, rfl, by decide +kernel, by decide +kernel⟩
theorem ok_read_and (D : Dm K A.pa "read_and" "Parser.read_and" s_Parser_read_and ["self"] f fd) (T : Txt K mg A) (hk : 5 ≤ k) (g_Parser_has_sign : Mt P w K mg base CX0 2 A.pa "has_sign" (spHas K A))
    (g_Parser_read_not : Mt P w K mg base (L2N.CX P w) k A.pa "read_not" (spRd K A 2 b)) : Mt P w K mg base (L2N.CX P w) (k + 1) A.pa "read_and" (spRd K A 1 b) := by
  refine D.mt' (D.fn.okN sc_Parser_read_and (fun vs H Q E h => ?_) (fun cdv _ outer s H vs Q E hr h => ⟨_, (pss_cons (ps_set (i := 1) sc_Parser_read_and.nd rfl (Or.inl rfl) (pe_mt0X g_Parser_read_not hr (by omega) passX (pv 0)))
    (pss_cons (ps_while passOwnX (pt_val (pe_mtX g_Parser_has_sign hr (by omega) pass0 (pv 0) (pa_cons (C8.pe_gc rfl T.c_AND) pa_nil))) (pss_one (ps_setLc (i := 1) (own := [("one", 2), ("other", 3)]) (by rfl) sc_Parser_read_and.nd rfl rfl (sw_true rfl rfl rfl (by decide +kernel)) (pi_zipK K (by rfl) T.b_zip (pa_cons (pv 1) (pa_cons (pe_mt0X g_Parser_read_not hr (by omega) passX (pv 0)) pa_nil))) (blkOk_by (own := [("one", 2), ("other", 3)]) (N := N_Parser_read_and) (sc := defScope s_Parser_read_and) (by decide +kernel)) (fun _ _ _ _ _ => (pg_tupK K (n := 2) (by rfl) (pgs_cons (pg_name (i := 2) sc_Parser_read_and.nd rfl (Or.inl rfl)) (pgs_cons (pg_name (i := 3) sc_Parser_read_and.nd rfl (Or.inl rfl)) pgs_nil)))) (fun _ _ _ _ _ => pts_nil) (fun _ _ _ _ _ => (pe_and (pv 2) (pe_one (pv 3)))))))
    (pss_one (ps_ret (pv 1))))), ?_⟩))
  · obtain ⟨a, u, tags, z, n, un, ts, fu, rfl, _⟩ := h
    rfl
  · exact rd_level (K := K) (A := A) (g := fun x y => x && y) (op := .and) (c := 38) (t := .amp) (k := 38) (m1 := "read_not") (by decide +kernel) (by simp [signTok]) rfl (by decide) (fun x y z => by cases x <;> rfl) (fun _ _ _ _ => rfl)
      (fun ρ x y h1 h2 => ev_andV (ev_var h1) fun _ => ev_var h2) ps1_err ps1_go ps1_end vs H Q h
abbrev s_Parser_read_or : Stmt := inClass (top 39) 4
abbrev N_Parser_read_or : List Str := ["self", "found", "one", "other"]
theorem sc_Parser_read_or : FnScope N_Parser_read_or ["self"] (defScope s_Parser_read_or) :=
  ⟨rfl, rfl, rfl, by decide +kernel, rfl, by decide +kernel, by decide +kernel⟩
theorem ok_read_or (D : Dm K A.pa "read_or" "Parser.read_or" s_Parser_read_or ["self"] f fd) (T : Txt K mg A) (hk : 5 ≤ k) (g_Parser_has_sign : Mt P w K mg base CX0 2 A.pa "has_sign" (spHas K A))
    (g_Parser_read_and : Mt P w K mg base (L2N.CX P w) k A.pa "read_and" (spRd K A 1 b)) : Mt P w K mg base (L2N.CX P w) (k + 1) A.pa "read_or" (spRd K A 0 b) := by
  refine D.mt' (D.fn.okN sc_Parser_read_or (fun vs H Q E h => ?_) (fun cdv _ outer s H vs Q E hr h => ⟨_, (pss_cons (ps_set (i := 1) sc_Parser_read_or.nd rfl (Or.inl rfl) (pe_mt0X g_Parser_read_and hr (by omega) passX (pv 0)))
    (pss_cons (ps_while passOwnX (pt_val (pe_mtX g_Parser_has_sign hr (by omega) pass0 (pv 0) (pa_cons (C8.pe_gc rfl T.c_OR) pa_nil))) (pss_one (ps_setLc (i := 1) (own := [("one", 2), ("other", 3)]) (by rfl) sc_Parser_read_or.nd rfl rfl (sw_true rfl rfl rfl (by decide +kernel)) (pi_zipK K (by rfl) T.b_zip (pa_cons (pv 1) (pa_cons (pe_mt0X g_Parser_read_and hr (by omega) passX (pv 0)) pa_nil))) (blkOk_by (own := [("one", 2), ("other", 3)]) (N := N_Parser_read_or) (sc := defScope s_Parser_read_or) (by decide +kernel)) (fun _ _ _ _ _ => (pg_tupK K (n := 2) (by rfl) (pgs_cons (pg_name (i := 2) sc_Parser_read_or.nd rfl (Or.inl rfl)) (pgs_cons (pg_name (i := 3) sc_Parser_read_or.nd rfl (Or.inl rfl)) pgs_nil)))) (fun _ _ _ _ _ => pts_nil) (fun _ _ _ _ _ => (pe_or (pv 2) (pe_one (pv 3)))))))
    (pss_one (ps_ret (pv 1))))), ?_⟩))
  · obtain ⟨a, u, tags, z, n, un, ts, fu, rfl, _⟩ := h
    rfl
  · exact rd_level (K := K) (A := A) (g := fun x y => x || y) (op := .or) (c := 124) (t := .bar) (k := 124) (m1 := "read_and") (by decide +kernel) (by simp [signTok]) rfl (by decide) (fun x y z => by cases x <;> rfl) (fun _ _ _ _ => rfl)
      (fun ρ x y h1 h2 => ev_orV (ev_var h1) fun _ => ev_var h2) ps0_err ps0_go ps0_end vs H Q h
abbrev s_Parser_read_not : Stmt := inClass (top 39) 6
abbrev N_Parser_read_not : List Str := ["self", "found", "many", "one"]
theorem sc_Parser_read_not : FnScope N_Parser_read_not ["self"] (defScope s_Parser_read_not) :=
  ⟨rfl, rfl, rfl, by decide +kernel, rfl, by decide +kernel, by decide +kernel⟩
theorem ok_read_not (D : Dm K A.pa "read_not" "Parser.read_not" s_Parser_read_not ["self"] f fd) (T : Txt K mg A) (hk : 5 ≤ k) (g_Parser_has_sign : Mt P w K mg base CX0 2 A.pa "has_sign" (spHas K A))
    (g_Parser_fail : Mt P w K mg base (L2N.CX P w) 4 A.pa "fail" (spFail K A)) (g_many_items : Cl P w K mg base CX0 1 "many_items" (PureSp K R_many_items)) (g_Parser_read_tag : Mt P w K mg base (L2N.CX P w) 5 A.pa "read_tag" (spTag K A))
    (g_Parser_read_not : Mt P w K mg base (L2N.CX P w) k A.pa "read_not" (spRd K A 2 b)) (g_Parser_read_or : Mt P w K mg base (L2N.CX P w) (k + 2) A.pa "read_or" (spRd K A 0 b)) :
    Mt P w K mg base (L2N.CX P w) (k + 3) A.pa "read_not" (spRd K A 2 (b + 1)) := by
  refine D.mt' (D.fn.okN sc_Parser_read_not (fun vs H Q E h => ?_) (fun cdv _ outer s H vs Q E hr h => ⟨_, (pss_cons (ps_if (pt_val (pe_mtX g_Parser_has_sign hr (by omega) pass0 (pv 0) (pa_cons (C8.pe_gc rfl T.c_NOT) pa_nil))) (pss_one (ps_ret (pe_lc (own := [("one", 3)]) (by rfl) sc_Parser_read_not.nd (pi_seqK K (pe_mt0X g_Parser_read_not hr (by omega) passX (pv 0))) (blkOk_by (own := [("one", 3)]) (N := N_Parser_read_not) (sc := defScope s_Parser_read_not) (by decide +kernel)) (fun _ _ _ _ _ => (pg_name (i := 3) sc_Parser_read_not.nd rfl (Or.inl rfl))) (fun _ _ _ _ _ => pts_nil) (fun _ _ _ _ _ => (pe_not (pv 3)))))) pss_nil)
    (pss_cons (ps_if (pt_val (pe_mtX g_Parser_has_sign hr (by omega) pass0 (pv 0) (pa_cons (C8.pe_gc rfl T.c_OPEN) pa_nil))) (pss_cons (ps_set (i := 1) sc_Parser_read_not.nd rfl (Or.inl rfl) (pe_mt0X g_Parser_read_or hr (by omega) passX (pv 0)))
    (pss_cons (ps_if (pt_not (pt_val (pe_mtX g_Parser_has_sign hr (by omega) pass0 (pv 0) (pa_cons (C8.pe_gc rfl T.c_CLOSE) pa_nil)))) (pss_one (ps_expr (pe_mt0X g_Parser_fail hr (by omega) passX (pv 0)))) pss_nil)
    (pss_one (ps_ret (pv 1))))) pss_nil)
    (pss_cons (ps_set (i := 2) sc_Parser_read_not.nd rfl (Or.inl rfl) (pe_cl g_many_items hr (by omega) pass0 (by rfl) (pa_cons (pe_callB (call_lenGK K) (by rfl) T.b_len bt_len (pa_cons (pe_fldK K (pv 0) rfl) pa_nil)) pa_nil)))
    (pss_cons (ps_if (pt_val (pe_mtX g_Parser_has_sign hr (by omega) pass0 (pv 0) (pa_cons (C8.pe_gc rfl T.c_NONE) pa_nil))) (pss_one (ps_ret (pe_op op_times (pe_lst (pa_cons pe_bl pa_nil)) (pv 2)))) pss_nil)
    (pss_cons (ps_if (pt_val (pe_mtX g_Parser_has_sign hr (by omega) pass0 (pv 0) (pa_cons (C8.pe_gc rfl T.c_ALL) pa_nil))) (pss_one (ps_ret (pe_op op_times (pe_lst (pa_cons pe_bl pa_nil)) (pv 2)))) pss_nil)
    (pss_one (ps_ret (pe_mt0X g_Parser_read_tag hr (by omega) passX (pv 0))))))))), ?_⟩))
  · obtain ⟨a, u, tags, z, n, un, ts, fu, rfl, _⟩ := h
    rfl
  · obtain ⟨a, u, tags, z, n, un, ts, fu, rfl, p, at_, ⟨hu, hn, hz⟩, hb, hf, kok, kerr⟩ := h
    have h32 := small_pow hn
    have ps := pst_start N_Parser_read_not p .nil
    obtain ⟨f, rfl⟩ : ∃ f, fu = f + 1 := ⟨fu - 1, by omega⟩
    refine s_seq (p_ifHas (c := 33) (t := .bang) ps at_ (by simp [signTok]) rfl (fun ts1 e1 n1 H1 s1 p1 at1 => ?_) fun no1 H1 s1 p1 => ?_)
    · subst e1
      refine .inl (p_meth (m := "read_not") (sp := spRd K A 2 b) (E := E) (by decide +kernel) p1 ⟨a, u, tags, z, n1, un, ts1, f, rfl, p1.at_, at1, ⟨hu, hn, hz⟩, by simp at hb; omega, by simp at hf; omega, fun F rest hpo cs ts2 e2 e3 v H2 n2 s2 q2 at2 r2 => ?_, fun m hpe cs ts2 n2 e2 e3 at2 b2 H2 s2 xe => ?_⟩)
      · subst e3
        have r3 := r2.mono hid_same
        cases r3 with
        | lst ha rl =>
          rename_i q xs
          have p2 := p1.to s2 q2
          refine ⟨q, rfl, ⟨_, SqL.of ha⟩, fun Dl hD => ?_⟩
          refine lc_listD (K := K) (j := 3) (l := (Spec.items tags.length).map fun m => Spec.holds tags m F) (fun x => .v (.bl x)) (fun x => .v (.bl (!x))) p2.all ha rl (by simp [Spec.items]; omega) (fun _ _ => rfl) (fun x _ => ev_notV (ev_var rfl)) hD fun q3 vs3 H3 n3 s3 h3 r3 => ?_
          refine kok (.not F) (ts2.map (·.2)) ?_ ((n, .bang) :: cs) ts2 (by rw [e2]; rfl) rfl _ H3 n2 ((s1.trans s2).trans (hid_mono s3)) ?_ at2 ?_
          · show Spec.parse (f + 1) 2 (.bang :: _) = _
            rw [ps2_bang, hpo]
          · rw [unk_cons rfl]
            exact q2.grow s3
          · have := rpN_hid q2 n3 s3 h3 r3 (sc_stills (fun x : Bool => V.bl (!x)) _)
            rw [List.map_map] at this
            rw [tabD]
            simpa [sc, bsD, Function.comp_def, Spec.holds] using this
      · exact kerr m (by show Spec.parse (f + 1) 2 (.bang :: _) = _; rw [ps2_bang, hpe]) ((n, .bang) :: cs) ts2 n2 (by rw [e2]; rfl) e3 at2 b2 H2 (s1.trans s2) xe
    refine s_seq (p_ifHas (c := 40) (t := .left) p1 at_ (by simp [signTok]) rfl (fun ts1 e1 n1 H2 s2 p2 at1 => ?_) fun no2 H2 s2 p2 => ?_)
    · subst e1
      refine s_seq (p_meth (by decide +kernel) p2 ⟨a, u, tags, z, n1, un, ts1, f, rfl, p2.at_, at1, ⟨hu, hn, hz⟩, by simp at hb; omega, by simp at hf; omega, fun F rest hpo cs ts2 e2 e3 v H3 n2 s3 q3 at2 r3 => ?_, fun m hpe cs ts2 n2 e2 e3 at2 b2 H3 s3 xe => ?_⟩)
      · subst e3
        have p3 : Pst K A.pa a u tags z n2 (unkAfter tags un cs) _ _ H3 := (p2.to s3 q3).set (j := 1) r3 (by decide)
        refine s_seq (p_ifHasNot (c := 41) (t := .right) p3 at2 (by simp [signTok]) rfl (fun ts3 e4 n3 H4 s4 p4 at3 => ?_) fun no4 H4 s4 p4 => ?_)
        · subst e4
          obtain ⟨v1, w1, w2⟩ := p4.env.get (i := 1) rfl
          refine ⟨v1, w1, kok F (List.map (fun x : Nat × Spec.Token => x.2) ts3) (ps2_close hpo) ((n, .left) :: cs ++ [(n2, .right)]) ts3 (by rw [e2]; simp) rfl v1 H4 n3 (((s1.trans s2).trans s3).trans s4) ?_ at3 w2⟩
          rw [unk_snoc rfl, unk_cons rfl]
          exact p4.at_
        · refine p_meth (by decide +kernel) p4 ⟨a, u, tags, z, n2, _, rfl, p4.at_, hz, by have := at2.le; omega, fun b5 H5 s5 xe => ?_⟩
          refine kerr ts2.length ?_ ((n, .left) :: cs) ts2 n2 (by rw [e2]; rfl) rfl at2 b5 H5 ((((s1.trans s2).trans s3).trans s4).trans (hid_same.trans s5)) xe
          rw [← List.length_map (·.2) (as := ts2)]
          refine ps2_open hpo fun s' hs' => ?_
          cases ts2 with
          | nil => cases hs'
          | cons e ts3 =>
            obtain ⟨hlt, h1, _⟩ := at2.cons
            have he2 : e.2 = .right := by
              have := congrArg List.head? hs'
              simpa using this
            exact no4 ts3 (by rw [← h1, ← he2])
      · exact kerr m (by show Spec.parse (f + 1) 2 (.left :: _) = _; rw [ps2_left, hpe]) ((n, .left) :: cs) ts2 n2 (by rw [e2]; rfl) e3 at2 b2 H3 ((s1.trans s2).trans s3) xe
    refine s_seq (p_asg p2 (ev_many T rfl hn) rfl (by decide) fun σ3 H3 s3 p3 => ?_)
    have s03 := (s1.trans s2).trans (hid_mono s3)
    refine s_seq (p_ifHas (c := 48) (t := .zero) p3 at_ (by simp [signTok]) rfl (fun ts1 e1 n1 H4 s4 p4 at1 => ?_) fun no4 H4 s4 p4 => ?_)
    · subst e1
      refine p_retN p4 (ev_rep T rfl hn false (fun m => Spec.holds tags m .nothing) (fun _ _ => rfl) (ev_var rfl)) (sc_stills _ _) fun v H5 s5 q5 r5 => ?_
      refine kok .nothing (ts1.map (·.2)) rfl [(n, .zero)] ts1 rfl rfl v H5 n1 ((s03.trans s4).trans (hid_mono s5)) ?_ at1 r5
      rw [unk_cons rfl, unk_nil]
      exact q5
    refine s_seq (p_ifHas (c := 49) (t := .one) p4 at_ (by simp [signTok]) rfl (fun ts1 e1 n1 H5 s5 p5 at1 => ?_) fun no5 H5 s5 p5 => ?_)
    · subst e1
      refine p_retN p5 (ev_rep T rfl hn true (fun m => Spec.holds tags m .everything) (fun _ _ => rfl) (ev_var rfl)) (sc_stills _ _) fun v H6 s6 q6 r6 => ?_
      refine kok .everything (ts1.map (·.2)) rfl [(n, .one)] ts1 rfl rfl v H6 n1 (((s03.trans s4).trans s5).trans (hid_mono s6)) ?_ at1 r6
      rw [unk_cons rfl, unk_nil]
      exact q6
    have s05 := (s03.trans s4).trans s5
    refine p_meth (by decide +kernel) p5 ⟨a, u, tags, z, n, un, ts, rfl, p5.at_, at_, ⟨hu, hn, hz⟩, fun x ts1 e1 v H6 n6 s6 q6 at6 r6 => ?_, fun nn b6 H6 s6 xe => ?_⟩
    · subst e1
      exact kok (.tag x) (ts1.map (·.2)) rfl [(n, .name x)] ts1 rfl rfl v H6 n6 (s05.trans s6) q6 at6 r6
    · have hd : ∀ t r, ts.map (·.2) = t :: r → ∃ ts', ts = (n, t) :: ts' := by
        intro t r hr
        cases ts with
        | nil => cases hr
        | cons e ts3 =>
          obtain ⟨hlt, h1, _⟩ := at_.cons
          have he2 : e.2 = t := by
            have := congrArg List.head? hr
            simpa using this
          exact ⟨ts3, by rw [← h1, ← he2]⟩
      refine kerr ts.length ?_ [] ts n rfl rfl at_ b6 H6 (s05.trans s6) xe
      rw [← List.length_map (·.2) (as := ts)]
      exact ps2_bad (fun x r hr => (hd _ _ hr).elim fun t e => nn x t e) (fun r hr => (hd _ _ hr).elim fun t e => no4 t e) (fun r hr => (hd _ _ hr).elim fun t e => no5 t e) (fun r hr => (hd _ _ hr).elim fun t e => no1 t e) (fun r hr => (hd _ _ hr).elim fun t e => no2 t e)
end
end Tg
end

section
set_option Elab.async false
set_option linter.all false
set_option maxRecDepth 100000
set_option maxHeartbeats 4000000
/-! Objects made: their fields, one by one. -/
namespace Tg
open PySem PySem.Spec PyProof.Rows L2
mutual
/-- no instances inside -/
def Dat.flat : Dat → Bool
  | .v _ => true
  | .tup l => Dat.flats l
  | .lst l => Dat.flats l
  | .obj _ _ => false
def Dat.flats : List Dat → Bool
  | [] => true
  | d :: r => Dat.flat d && Dat.flats r
end
theorem flats_iff : ∀ {ds : List Dat}, Dat.flats ds = true ↔ ∀ d ∈ ds, d.flat = true
  | [] => by simp [Dat.flats]
  | d :: r => by
    have ih := flats_iff (ds := r)
    simp [Dat.flats, ih]
mutual
theorem Dat.still_flat : ∀ {d : Dat}, d.still = true → d.flat = true
  | .v _, _ => rfl
  | .tup l, q => Dat.stills_flats (ds := l) q
  | .lst _, q => by simp [Dat.still] at q
  | .obj _ _, q => by simp [Dat.still] at q
theorem Dat.stills_flats : ∀ {ds : List Dat}, Dat.stills ds = true → Dat.flats ds = true
  | [], _ => rfl
  | d :: r, q => by
    have q' := Bool.and_eq_true_iff.mp (show (_ && _) = true from q)
    exact Bool.and_eq_true_iff.mpr ⟨Dat.still_flat q'.1, Dat.stills_flats q'.2⟩
end
structure SameF (K : PySem.W.Frag) (H H' : Hp) : Prop where
  t : SameT K H H'
  l : ∀ a xs, H a = some (.lst xs) → H' a = some (.lst xs)
mutual
theorem Rp.stayF {K : PySem.W.Frag} {H H' : Hp} (e : SameF K H H') : ∀ {v : V} {d : Dat}, Rp K H v d → d.flat = true → Rp K H' v d
  | _, _, .v x, _ => .v x
  | _, _, .tup h r, q => .tup (e.t _ _ h) (RpL.stayF e r q)
  | _, _, .lst h r, q => .lst (e.l _ _ h) (RpL.stayF e r q)
  | _, _, .obj _ _, q => by simp [Dat.flat] at q
theorem RpL.stayF {K : PySem.W.Frag} {H H' : Hp} (e : SameF K H H') : ∀ {vs : List V} {ds : List Dat}, RpL K H vs ds → Dat.flats ds = true → RpL K H' vs ds
  | _, _, .nil, _ => .nil
  | _, _, .cons h r, q => by
    have q' := Bool.and_eq_true_iff.mp (show (_ && _) = true from q)
    exact .cons (Rp.stayF e h q'.1) (RpL.stayF e r q'.2)
end
theorem hid_iF {K : PySem.W.Frag} {p C dx : Addr} {H : Hp} {fs : List (Str × V)} (h1 : H p = some (.ins C dx fs)) : SameF K H (hid p H) := by
  have hne : ∀ {b u}, H b = some u → (∀ dx fs, u ≠ .ins C dx fs) → hid p H b = some u := fun {b u} eb hu => by
    rw [hid_ne fun z => ?_]
    · exact eb
    · subst z
      rw [h1] at eb
      exact hu dx fs (Option.some.inj eb).symm
  refine ⟨fun b xs q => ?_, fun b xs q => hne q fun _ _ => by simp⟩
  rcases q with q | q
  · refine .inl ?_
    rcases q with q | ⟨ob, q⟩
    · exact .inl (hne q fun _ _ => by simp)
    · exact .inr ⟨ob, hne q fun _ _ => by simp⟩
  · exact .inr q
/-- what a class's __init__ promises: fields, or a refusal -/
def MkSp (K : PySem.W.Frag) (Cx C : Addr) (R : List Dat → Except Err (List (Str × Dat)) → Prop) : Sp := fun vs H Q E => ∃ a dx vs' ds r, vs = .ref a :: vs' ∧ H a = some (.ins C dx []) ∧ RpL K (hid a H) vs' ds ∧ R ds r ∧
  (∀ gs, r = .ok gs → ∀ H' dx' fs, Same (hid a H) (hid a H') → H' a = some (.ins C dx' fs) → RpF K (hid a H') fs gs → Q .non H') ∧
  (∀ e, r = .error e → ∀ b H', Same (hid a H) H' → XErr K H' b e → E (.ref Cx) (some b) H')
/-- an object whose fields are being set: at a, held by slot 0 -/
structure Bst (K : PySem.W.Frag) (C : Addr) (a : Addr) (gs : List (Str × Dat)) (ρ : List (Option Dat)) (σ : L2.St) (H : Hp) : Prop where
  at_ : ∃ dx fs, H a = some (.ins C dx fs) ∧ RpF K (hid a H) fs gs
  env : Env K (hid a H) σ ρ
  self : σ[0]? = some (some (.ref a))
  off : ρ[0]? = some none
theorem putF_new {f : Str} {v : V} : ∀ {fs : List (Str × V)}, fs.lookup f = none → putF f v fs = fs ++ [(f, v)]
  | [], _ => rfl
  | (g, x) :: r, h => by
    unfold List.lookup at h
    cases hg : f == g with
    | true =>
      rw [hg] at h
      cases h
    | false =>
      rw [hg] at h
      have hne : ¬ g = f := fun e => by
        subst e
        simp at hg
      show (if g = f then _ else _) = _
      rw [if_neg hne, putF_new h]
      rfl
theorem RpF.snoc {K : PySem.W.Frag} {H : Hp} {f : Str} {v : V} {d : Dat} (r2 : Rp K H v d) : ∀ {fs : List (Str × V)} {gs : List (Str × Dat)}, RpF K H fs gs → RpF K H (fs ++ [(f, v)]) (gs ++ [(f, d)])
  | _, _, .nil => .cons r2 .nil
  | _, _, .cons h r => .cons h (RpF.snoc r2 r)
theorem RpF.len {K : PySem.W.Frag} {H : Hp} : ∀ {fs : List (Str × V)} {gs : List (Str × Dat)}, RpF K H fs gs → fs.length = gs.length
  | _, _, .nil => rfl
  | _, _, .cons h r => by rw [List.length_cons, List.length_cons, RpF.len r]
section
variable {K : PySem.W.Frag} {ρ : List (Option Dat)} {ta : TA} {to te : TE} {tt : TT} {ds es : List Dat} {d : Dat} {gs : List (Str × Dat)} {E : XK} {C Cx a : Addr} {σ : L2.St} {H : Hp} {D : Ends}
theorem ev_mkX {R : List Dat → Except Err (List (Str × Dat)) → Prop} {r : Except Err (List (Str × Dat))} (h : EvA K ta ρ ds) (hr : R ds r) : EvX K Cx E (tMake C (MkSp K Cx C R) [] E ta) ρ (r.map fun gs => .obj C gs) := fun σ H e Q q x =>
  h σ H e _ fun vs H1 s1 r1 => by
    rw [List.append_nil]
    intro p dx hp hd hne
    have sp : Same H1 (hid p (upd (upd H1 dx (.own p)) p (.ins C dx []))) := fun b u eb => by
      have hbp : b ≠ p := ne_of_none eb hp
      have hbd : b ≠ dx := ne_of_none eb hd
      rw [hid_ne hbp, upd_ne hbp, upd_ne hbd]
      exact eb
    refine ⟨p, dx, vs, ds, r, rfl, upd_same, r1.mono sp, hr, fun gs hg H' dx' fs s2 hp2 rf => ⟨rfl, ?_⟩, fun er he b H' s2 xe => ?_⟩
    · subst hg
      exact q (.obj C gs) rfl _ H' (((s1.trans sp).trans s2).trans hid_same) (.obj hp2 (rf.mono hid_same))
    · subst he
      exact x er rfl b H' ((s1.trans sp).trans s2) xe
theorem Bst.rp (p : Bst K C a gs ρ σ H) : Rp K H (.ref a) (.obj C gs) := by
  obtain ⟨dx, fs, h1, h2⟩ := p.at_
  exact .obj h1 (h2.mono hid_same)
theorem Bst.st (p : Bst K C a gs ρ σ H) : SameF K H (hid a H) := by
  obtain ⟨dx, fs, h1, _⟩ := p.at_
  exact hid_iF h1
theorem Bst.all (p : Bst K C a gs ρ σ H) : Env K H σ (ρ.set 0 (some (.obj C gs))) := by
  have q := (p.env.mono hid_same).set 0 p.rp
  have e : σ.set 0 (some (.ref a)) = σ := by
    apply List.ext_getElem?
    intro k
    by_cases hk : k = 0
    · subst hk
      have := (List.getElem?_eq_some_iff.mp p.self).1
      rw [List.getElem?_set_self this]
      exact p.self.symm
    · rw [List.getElem?_set_ne (Ne.symm hk)]
  rw [e] at q
  exact q
theorem Bst.grow {H' : Hp} (p : Bst K C a gs ρ σ H) (s : Same H H') : Bst K C a gs ρ σ H' := by
  obtain ⟨dx, fs, h1, h2⟩ := p.at_
  exact ⟨⟨dx, fs, s _ _ h1, h2.mono (hid_mono s)⟩, p.env.mono (hid_mono s), p.self, p.off⟩
/-- self.f = e: a new field -/
theorem b_fld {f : Str} (p : Bst K C a gs ρ σ H) (T : Cls K C) (nT : NoAttr K C f) (h : EvD K te ρ d) (st : d.flat = true) (hf : gs.lookup f = none) (hl : gs.length < 1000)
    (k : ∀ H', Same (hid a H) (hid a H') → Bst K C a (gs ++ [(f, d)]) ρ σ H' → D.nx σ H') : sFld K (tVar 0) te f D σ H := by
  refine h σ H (p.env.mono hid_same) _ fun v H1 s1 r1 => ?_
  have p1 := p.grow s1
  obtain ⟨dx, fs, h1, h2⟩ := p1.at_
  refine ⟨_, p1.self, a, C, dx, fs, rfl, h1, T, nT, by rw [h2.len]; exact hl, ?_⟩
  rw [putF_new (look_none h2 hf)]
  have e : hid a (upd H1 a (.ins C dx (fs ++ [(f, v)]))) = hid a H1 := hid_upd
  refine k _ (by rw [e]; exact hid_mono s1) ⟨⟨dx, _, upd_same, ?_⟩, by rw [e]; exact p1.env, p1.self, p1.off⟩
  rw [e]
  exact h2.snoc (r1.stayF p1.st st)
end
theorem bst_start {K : PySem.W.Frag} {C a dx : Addr} {H : Hp} (N : List Str) {vs : List V} {ds : List Dat} (h : H a = some (.ins C dx [])) (r : RpL K (hid a H) vs ds) :
    Bst K C a [] (none :: (ds.map some ++ List.replicate (N.length - (ds.length + 1)) none)) (L2.start N (.ref a :: vs)) H := by
  refine ⟨⟨dx, [], h, .nil⟩, ?_, rfl, rfl⟩
  have e := env_start (N.length - (ds.length + 1)) r
  have e2 : L2.start N (.ref a :: vs) = some (.ref a) :: (vs.map some ++ List.replicate (N.length - (ds.length + 1)) none) := by
    unfold L2.start
    rw [List.length_cons, r.length]
    rfl
  rw [e2]
  exact .skip e
end Tg
end

section
set_option Elab.async false
set_option linter.all false
set_option maxRecDepth 100000
set_option maxHeartbeats 4000000
/-! The reader of filters, made: what it finds, or its refusal. -/
namespace Tg
open PySem PySem.Spec PyProof.Rows L2
open R7292f
theorem tagsD_flat (l : List Spec.Units) : (tagsD l).flat = true := Dat.stills_flats (uD_stills l)
theorem ev_neg {K : PySem.W.Frag} {ρ : List (Option Dat)} {te : TE} {i : Int} (h : EvD K te ρ (.v (.int i))) : EvD K (tUn (rU fun i => .int (-i)) te) ρ (.v (.int (-i))) := fun σ H e Q q =>
  h σ H e _ fun v H1 s1 r1 => ⟨i, r1.v_eq, q _ H1 s1 (.v _)⟩
theorem cutBy_len : ∀ (f i : Nat) (v : Spec.Units), (Spec.cutBy f i v).length ≤ f
  | 0, _, _ => by simp [Spec.cutBy]
  | f + 1, _, [] => by simp [Spec.cutBy]
  | f + 1, i, c :: u => by
    unfold Spec.cutBy
    split
    · exact Nat.le_trans (cutBy_len f _ _) (Nat.le_succ f)
    · split
      · exact Nat.succ_le_succ (cutBy_len f _ _)
      · exact Nat.succ_le_succ (cutBy_len f _ _)
theorem cut_len (u : Spec.Units) : (Spec.cut u).length ≤ u.length := cutBy_len _ _ _
theorem tw_dw {p : UInt16 → Bool} (l : Spec.Units) : (l.takeWhile p).length + (l.dropWhile p).length = l.length := by
  rw [← List.length_append, List.takeWhile_append_dropWhile]
theorem cutBy_at : ∀ (f i : Nat) (v : Spec.Units) (e : Nat × Spec.Token), e ∈ Spec.cutBy f i v → e.1 < i + v.length
  | 0, _, _, e, h => by simp [Spec.cutBy] at h
  | f + 1, _, [], e, h => by simp [Spec.cutBy] at h
  | f + 1, i, c :: u, e, h => by
    unfold Spec.cutBy at h
    have hd := len_dropWhile Spec.isLetter u
    have hw := tw_dw (p := Spec.isLetter) u
    split at h
    · have := cutBy_at f _ _ e h
      simp
      omega
    · split at h
      · rcases List.mem_cons.mp h with h | h
        · subst h
          simp
        · have := cutBy_at f _ _ e h
          simp
          omega
      · rcases List.mem_cons.mp h with h | h
        · subst h
          simp
        · have := cutBy_at f _ _ e h
          simp
          omega
theorem place_at {u : Spec.Units} {n : Nat} {cs ts : List (Nat × Spec.Token)} (a : AtTok u n ts) (h : Spec.cut u = cs ++ ts) : Spec.placeOf u ts.length = n := by
  unfold Spec.placeOf
  have e : (Spec.cut u).length - ts.length = cs.length := by rw [h, List.length_append]; omega
  rw [e, h]
  cases ts with
  | nil =>
    simp
    exact a.nil.symm
  | cons t ts =>
    obtain ⟨_, h1, _⟩ := a.cons
    simpa using h1
/-- what the reader makes of a text -/
def readTo (z : Str) (tags : List Spec.Units) (u : Spec.Units) : Except Str Spec.Filter := match Spec.read (Spec.tokensOf u) with
  | .error m => .error (msgAt z "unexpected text at " (Spec.placeOf u m))
  | .ok F => match (Spec.cut u).find? (Spec.isUnknown tags) with
    | some e => .error (msgAt z "unknown tag at " e.1)
    | none => .ok F
def foundG (u : Spec.Units) (tags : List Spec.Units) (z : Str) (F : Spec.Filter) : List (Str × Dat) := pG u tags z u.length (-1) ++ [(("found" : Str), tabD tags.length fun m => Spec.holds tags m F)]
def R_Parser (ds : List Dat) (r : Except Err (List (Str × Dat))) : Prop := ∃ u tags z, ds = [uD u, tagsD tags, .v (.str z)] ∧ Szs u tags z ∧ r = (match readTo z tags u with
  | .error m => .error (2, m)
  | .ok F => .ok (foundG u tags z F))
section
variable {P : Program} {w : World} {K : PySem.W.Frag} {mg : Str → Option Value} {base : Heap} {A : Ad} {f : Addr} {fd : FuncData} {b k : Nat}
theorem pG_a' {u : Spec.Units} {tags : List Spec.Units} {z : Str} {n un : Int} {d : Dat} : (pG u tags z n un ++ [(("found" : Str), d)]).lookup ("at" : Str) = some (intD n) := (lkP (by decide +kernel)).trans ((lkP (by decide +kernel)).trans ((lkP (by decide +kernel)).trans lkH))
theorem pG_u' {u : Spec.Units} {tags : List Spec.Units} {z : Str} {n un : Int} {d : Dat} : (pG u tags z n un ++ [(("found" : Str), d)]).lookup ("unknown" : Str) = some (intD un) := (lkP (by decide +kernel)).trans ((lkP (by decide +kernel)).trans ((lkP (by decide +kernel)).trans ((lkP (by decide +kernel)).trans lkH)))
theorem pG_z' {u : Spec.Units} {tags : List Spec.Units} {z : Str} {n un : Int} {d : Dat} : (pG u tags z n un ++ [(("found" : Str), d)]).lookup ("ahead" : Str) = some (strD z) := (lkP (by decide +kernel)).trans ((lkP (by decide +kernel)).trans lkH)
theorem pG_f' {u : Spec.Units} {tags : List Spec.Units} {z : Str} {n un : Int} {d : Dat} : (pG u tags z n un ++ [(("found" : Str), d)]).lookup ("found" : Str) = some d := (lkP (by decide +kernel)).trans ((lkP (by decide +kernel)).trans ((lkP (by decide +kernel)).trans ((lkP (by decide +kernel)).trans ((lkP (by decide +kernel)).trans lkH))))
theorem pG_n' {u : Spec.Units} {tags : List Spec.Units} {z : Str} {n un : Int} {d : Dat} {m : Str} (h1 : (m == ("octets" : Str)) = false) (h2 : (m == ("tags" : Str)) = false) (h3 : (m == ("ahead" : Str)) = false) (h4 : (m == ("at" : Str)) = false) (h5 : (m == ("unknown" : Str)) = false) (h6 : (m == ("found" : Str)) = false) : (pG u tags z n un ++ [(("found" : Str), d)]).lookup m = none :=
  (lkP h1).trans ((lkP h2).trans ((lkP h3).trans ((lkP h4).trans ((lkP h5).trans ((lkP h6).trans lkN)))))
/-- fail, of the object that has found, too -/
def spFail2 (K : PySem.W.Frag) (A : Ad) : Sp := fun vs H _ E => ∃ a z, ∃ n : Nat, ∃ gs, vs = [.ref a] ∧ Rp K H (.ref a) (.obj A.pa gs) ∧ gs.lookup ("ahead" : Str) = some (strD z) ∧ gs.lookup ("at" : Str) = some (intD n) ∧ z.length ≤ 100 ∧ n ≤ 100 ∧
  ∀ b H', Same H H' → XErr K H' b (2, msgAt z "unexpected text at " n) → E (.ref A.rf) (some b) H'
theorem ok_fail2 (D : Dm K A.pa "fail" "Parser.fail" s_Parser_fail ["self"] f fd) (T : Txt K mg A) (g_out_of_range : Cl P w K mg base (L2N.CX P w) 3 "out_of_range" (MaySp K A.rf (R_refuse 2))) : Mt P w K mg base (L2N.CX P w) 4 A.pa "fail" (spFail2 K A) := by
  refine D.mt' (D.fn.okN sc_Parser_fail (fun vs H Q E h => ?_) (fun cdv _ outer s H vs Q E hr h => ⟨_, (pss_one (ps_expr (pe_cl g_out_of_range hr (by omega) passX (by rfl) (pa_cons pe_bl (pa_cons (pe_op (op_plusK K) (pe_op (op_plusK K) (pe_fldK K (pv 0) rfl) pe_str) (pe_callTy call_strI (by rfl) T.b_str bt_str (pa_cons (pe_fldK K (pv 0) rfl) pa_nil))) pa_nil))))), ?_⟩))
  · obtain ⟨a, z, n, gs, rfl, _⟩ := h
    rfl
  · obtain ⟨a, z, n, gs, rfl, p, g1, g2, hz, hn, x⟩ := h
    have en : Env K H (L2.start N_Parser_fail [.ref a]) [some (.obj A.pa gs)] := env_start 0 (.cons p .nil)
    have hs : (Str.ofString "unexpected text at ").length = 19 := by decide +kernel
    have hl := str_len (n := n) (by omega)
    refine ev_callX (K := K) (C := A.rf) (E := E) (R := R_refuse 2) (r := .error (2, msgAt z "unexpected text at " n)) (ev_cons ev_c (ev_cons (ev_op (ev_op (ev_fld (ev_var rfl) T.k_Parser T.n_Parser_ahead g1) ev_c (rv_plusS ?_)) (ev_cb (ev_cons (ev_fld (ev_var rfl) T.k_Parser T.n_Parser_at g2) ev_nil) (rc_strI ?_)) (rv_plusS ?_)) ev_nil)) ⟨true, _, rfl, rfl⟩ _ H en _ (fun d hd => by cases hd) fun e he b H' s xe => ?_
    · rw [hs]
      omega
    · exact Nat.lt_of_le_of_lt (Nat.log2_le_self _) (by omega)
    · rw [app_len, hs]
      omega
    · cases he
      exact x b H' s xe
abbrev s_Parser_init : Stmt := inClass (top 39) 0
abbrev N_Parser_init : List Str := ["self", "octets", "tags", "ahead"]
theorem sc_Parser_init : FnScope N_Parser_init ["self", "octets", "tags", "ahead"] (defScope s_Parser_init) :=
  ⟨rfl, rfl, rfl, by decide +kernel, rfl, by decide +kernel, by decide +kernel⟩
theorem ok_Parser (D : Di K mg "Parser" A.pa "Parser.__init__" s_Parser_init ["self", "octets", "tags", "ahead"] f fd) (T : Txt K mg A) (hk : 5 ≤ k) (g_Parser_skip : Mt P w K mg base CX0 1 A.pa "skip" (spSkip K A))
    (g_Parser_fail : Mt P w K mg base (L2N.CX P w) 4 A.pa "fail" (spFail2 K A)) (g_Parser_read_or : Mt P w K mg base (L2N.CX P w) k A.pa "read_or" (spRd K A 0 61))
    (g_out_of_range : Cl P w K mg base (L2N.CX P w) 3 "out_of_range" (MaySp K A.rf (R_refuse 2))) : Mc P w K mg base (L2N.CX P w) (k + 1) "Parser" A.pa (MkSp K A.rf A.pa R_Parser) := by
  refine D.mc (D.fn.okN sc_Parser_init (fun vs H Q E h => ?_) (fun cdv _ outer s H vs Q E hr h => ⟨_, (pss_cons (ps_fldK K (pv 0) (pv 1) rfl)
    (pss_cons (ps_fldK K (pv 0) (pv 2) rfl)
    (pss_cons (ps_fldK K (pv 0) (pv 3) rfl)
    (pss_cons (ps_fldK K (pv 0) pe_int rfl)
    (pss_cons (ps_fldK K (pv 0) (pe_un un_neg pe_int) rfl)
    (pss_cons (ps_expr (pe_mt0X g_Parser_skip hr (by omega) pass0 (pv 0)))
    (pss_cons (ps_fldK K (pv 0) (pe_mt0X g_Parser_read_or hr (by omega) passX (pv 0)) rfl)
    (pss_cons (ps_if (pt_cmpR op_ltI (pe_fldK K (pv 0) rfl) (pe_callB (call_lenGK K) (by rfl) T.b_len bt_len (pa_cons (pv 1) pa_nil)) (nomark _)) (pss_one (ps_expr (pe_mt0X g_Parser_fail hr (by omega) passX (pv 0)))) pss_nil)
    (pss_one (ps_expr (pe_cl g_out_of_range hr (by omega) passX (by rfl) (pa_cons (pe_cmpR op_geI (pe_fldK K (pv 0) rfl) pe_int (nomark _)) (pa_cons (pe_op (op_plusK K) (pe_op (op_plusK K) (pv 3) pe_str) (pe_callTy call_strI (by rfl) T.b_str bt_str (pa_cons (pe_fldK K (pv 0) rfl) pa_nil))) pa_nil))))))))))))), ?_⟩))
  · obtain ⟨a, dx, vs', ds, r, rfl, _, r1, ⟨u, tags, z, rfl, _⟩, _⟩ := h
    have := r1.length
    simp [this]
  · obtain ⟨a, dx, vs', ds, r, rfl, ha, r1, ⟨u, tags, z, rfl, ⟨hu, hn, hz⟩, hr'⟩, kok, kerr⟩ := h
    have b0 := bst_start N_Parser_init ha r1
    refine s_seq (b_fld b0 T.k_Parser T.n_Parser_octets (ev_var rfl) (Dat.still_flat (uD_still u)) rfl (by simp) fun H1 s1 b1 => ?_)
    refine s_seq (b_fld b1 T.k_Parser T.n_Parser_tags (ev_var rfl) (tagsD_flat tags) (lkP (by decide +kernel)) (by simp) fun H2 s2 b2 => ?_)
    refine s_seq (b_fld b2 T.k_Parser T.n_Parser_ahead (ev_var rfl) rfl ((lkP (by decide +kernel)).trans (lkP (by decide +kernel))) (by simp) fun H3 s3 b3 => ?_)
    refine s_seq (b_fld b3 T.k_Parser T.n_Parser_at ev_c rfl ((lkP (by decide +kernel)).trans ((lkP (by decide +kernel)).trans (lkP (by decide +kernel)))) (by simp) fun H4 s4 b4 => ?_)
    refine s_seq (b_fld (d := intD (-1)) b4 T.k_Parser T.n_Parser_unknown (ev_neg ev_c) rfl ((lkP (by decide +kernel)).trans ((lkP (by decide +kernel)).trans ((lkP (by decide +kernel)).trans (lkP (by decide +kernel))))) (by simp) fun H5 s5 b5 => ?_)
    obtain ⟨dx5, fs5, ha5, rf5⟩ := b5.at_
    have p5 : PaAt K A.pa a u tags z 0 (-1) H5 := by
      cases rf5 with
      | cons q1 rf5 =>
        cases rf5 with
        | cons q2 rf5 =>
          cases rf5 with
          | cons q3 rf5 =>
            cases rf5 with
            | cons q4 rf5 =>
              cases rf5 with
              | cons q5 rf5 =>
                cases rf5
                have e3 := q3.v_eq
                have e4 := q4.v_eq
                have e5 := q5.v_eq
                subst e3
                subst e4
                subst e5
                exact ⟨dx5, _, _, ha5, q1, q2⟩
    have p6 : Pst K A.pa a u tags z 0 (-1) _ _ H5 := ⟨p5, b5.env, b5.self, b5.off⟩
    have s05 := (((s1.trans s2).trans s3).trans s4).trans s5
    have hcut := toks_zero u
    refine s_seq (p_meth (by decide +kernel) p6 ⟨a, u, tags, z, 0, -1, rfl, p5, Nat.zero_le _, fun H6 s6 q6 => ?_⟩)
    have at6 : AtTok u (skipN u 0) (Spec.cut u) := hcut ▸ AtTok.skip (Nat.zero_le _)
    have hcl := cut_len u
    have hread : Spec.read (Spec.tokensOf u) = (match Spec.parse (3 * (Spec.cut u).length + 3) 0 ((Spec.cut u).map fun e => e.2) with
      | .error n => .error n
      | .ok (a, []) => .ok a
      | .ok (_, r) => .error r.length) := by
      unfold Spec.read Spec.tokensOf
      rw [List.length_map]
      rfl
    have p7 := p6.to s6 q6
    refine s_seq (p_meth (by decide +kernel) p7 ⟨a, u, tags, z, skipN u 0, -1, Spec.cut u, 3 * (Spec.cut u).length + 3, rfl, q6, at6, ⟨hu, hn, hz⟩, by omega, by omega, fun F rest hpo cs ts1 e1 e2 v H7 n7 s7 q7 at7 r7 => ?_, fun m hpe cs ts1 n7 e1 e2 at7 b7 H7 s7 xe => ?_⟩)
    · subst e2
      rw [hpo] at hread
      obtain ⟨dx7, o7, t7, ha7, ro7, rt7⟩ := q7.ex
      refine ⟨_, p7.self, a, A.pa, dx7, _, rfl, ha7, T.k_Parser, T.n_Parser_found, by show 5 < 1000; decide, ?_⟩
      have hput : putF "found" v (pF o7 t7 z n7 (unkAfter tags (-1) cs)) = pF o7 t7 z n7 (unkAfter tags (-1) cs) ++ [(("found" : Str), v)] :=
        putF_new (pF_m (by decide +kernel) (by decide +kernel) (by decide +kernel) (by decide +kernel) (by decide +kernel))
      rw [hput]
      have eh : ∀ o, hid a (upd H7 a o) = hid a H7 := fun o => hid_upd
      have b8 : Bst K A.pa a (pG u tags z n7 (unkAfter tags (-1) cs) ++ [(("found" : Str), tabD tags.length fun m => Spec.holds tags m F)]) _ _ (upd H7 a (.ins A.pa dx7 (pF o7 t7 z n7 (unkAfter tags (-1) cs) ++ [(("found" : Str), v)]))) :=
        ⟨⟨dx7, _, upd_same, by rw [eh]; exact .cons ro7 (.cons rt7 (.cons (.v _) (.cons (.v _) (.cons (.v _) (.cons r7 .nil)))))⟩, by rw [eh]; exact (p7.env.mono s7), p7.self, p7.off⟩
      have s08 : Same (hid a H) (hid a (upd H7 a (.ins A.pa dx7 (pF o7 t7 z n7 (unkAfter tags (-1) cs) ++ [(("found" : Str), v)])))) := by rw [eh]; exact (s05.trans s6).trans s7
      generalize upd H7 a (.ins A.pa dx7 (pF o7 t7 z n7 (unkAfter tags (-1) cs) ++ [(("found" : Str), v)])) = H8 at b8 s08 ⊢
      refine s_seq (s_if b8.all (ev_test (ev_op (ev_fld (ev_var rfl) T.k_Parser T.n_Parser_at pG_a') (ev_cb (ev_cons (ev_var rfl) ev_nil) rc_lenT) rv_lt)) (fun hb H9 s9 e9 => ?_) fun hb H9 s9 e9 => ?_)
      · have b9 := b8.grow s9
        obtain ⟨dx9, fs9, h9, rf9⟩ := b9.at_
        have hlt : n7 < u.length := by
          have := of_decide_eq_true hb
          simp at this
          omega
        refine ⟨_, b9.self, a, dx9, fs9, rfl, h9, look_none rf9 (pG_n' (by decide +kernel) (by decide +kernel) (by decide +kernel) (by decide +kernel) (by decide +kernel) (by decide +kernel)), a, z, n7, _, rfl, b9.rp, pG_z', pG_a', hz, by omega, fun b H' s xe => ?_⟩
        refine kerr (2, msgAt z "unexpected text at " n7) ?_ b H' (s08.trans ((hid_mono s9).trans (hid_same.trans s))) xe
        have hne : ∃ e ts2, ts1 = e :: ts2 := by
          cases ts1 with
          | nil => exact absurd at7.nil (by omega)
          | cons e ts2 => exact ⟨e, ts2, rfl⟩
        obtain ⟨e, ts2, rfl⟩ := hne
        have hrd : Spec.read (Spec.tokensOf u) = .error (e :: ts2).length := by
          rw [hread]
          simp
        rw [hr']
        unfold readTo
        rw [hrd]
        dsimp only
        rw [place_at at7 e1]
      · have b9 := b8.grow s9
        have hnl : ts1 = [] := by
          cases ts1 with
          | nil => rfl
          | cons e ts2 =>
            obtain ⟨hlt, _⟩ := at7.cons
            have := of_decide_eq_false hb
            simp at this
            omega
        subst hnl
        rw [List.append_nil] at e1
        have hrd : Spec.read (Spec.tokensOf u) = .ok F := hread
        have hn7 := at7.nil
        have hs : (Str.ofString "unknown tag at ").length = 15 := by decide +kernel
        have hun : unkAfter tags (-1) cs = (match (Spec.cut u).find? (Spec.isUnknown tags) with
          | some e => (e.1 : Int)
          | none => -1) := by
          rw [e1]
          rfl
        have hle : ∀ e, (Spec.cut u).find? (Spec.isUnknown tags) = some e → e.1 ≤ 60 := fun e he => by
          have := cutBy_at _ _ _ e (List.mem_of_find?_eq_some he)
          omega
        have hrr : r = if decide ((0 : Int) ≤ unkAfter tags (-1) cs) then .error (2, msgAt z "unknown tag at " (unkAfter tags (-1) cs).toNat) else .ok (foundG u tags z F) := by
          rw [hr', hun]
          unfold readTo
          rw [hrd]
          cases hf : (Spec.cut u).find? (Spec.isUnknown tags) with
          | none => rfl
          | some e =>
            have : decide ((0 : Int) ≤ ((e.1 : Nat) : Int)) = true := by simp
            simp [hf]
        have hsm : (((toString (unkAfter tags (-1) cs) : String) : Str)).length ≤ 3 ∧ (unkAfter tags (-1) cs).natAbs ≤ 60 := by
          rw [hun]
          cases hf : (Spec.cut u).find? (Spec.isUnknown tags) with
          | none => exact ⟨by decide +kernel, by decide⟩
          | some e =>
            have := hle e hf
            exact ⟨str_len (by omega), by simpa using this⟩
        refine (ev_callX (K := K) (C := A.rf) (E := E) (R := R_refuse 2) (r := if decide ((0 : Int) ≤ unkAfter tags (-1) cs) then .error (2, z ++ "unknown tag at " ++ (toString (unkAfter tags (-1) cs) : String)) else .ok (.v .non))
          (ev_cons (ev_op (ev_fld (ev_var rfl) T.k_Parser T.n_Parser_unknown pG_u') ev_c rv_ge) (ev_cons (ev_op (ev_op (ev_var rfl) ev_c (rv_plusS ?_)) (ev_cb (ev_cons (ev_fld (ev_var rfl) T.k_Parser T.n_Parser_unknown pG_u') ev_nil) (rc_strI ?_)) (rv_plusS ?_)) ev_nil)) ⟨_, _, rfl, rfl⟩) _ H9 b9.all _ (fun d hd v H10 s10 r10 => ?_) fun e he b H10 s10 xe => ?_
        · rw [hs]
          omega
        · exact Nat.lt_of_le_of_lt (Nat.log2_le_self _) (by omega)
        · rw [app_len, hs]
          omega
        · by_cases hc : (0 : Int) ≤ unkAfter tags (-1) cs
          · rw [if_pos (by simpa using hc)] at hd
            cases hd
          · have hc' : decide ((0 : Int) ≤ unkAfter tags (-1) cs) = false := by simpa using hc
            rw [hc'] at hrr
            have hu1 : unkAfter tags (-1) cs = -1 := by
              rw [hun] at hc ⊢
              cases hf : (Spec.cut u).find? (Spec.isUnknown tags) with
              | none => rfl
              | some e =>
                rw [hf] at hc
                exact absurd (Int.natCast_nonneg e.1) hc
            obtain ⟨dx9, fs9, h9, rf9⟩ := (b9.grow s10).at_
            refine kok _ hrr H10 dx9 fs9 ((s08.trans (hid_mono s9)).trans (hid_mono s10)) h9 ?_
            rw [hn7, hu1] at rf9
            exact rf9
        · by_cases hc : (0 : Int) ≤ unkAfter tags (-1) cs
          · have hc' : decide ((0 : Int) ≤ unkAfter tags (-1) cs) = true := by simpa using hc
            rw [hc'] at hrr he
            cases he
            refine kerr _ hrr b H10 ((s08.trans (hid_mono s9)).trans (hid_same.trans s10)) ?_
            unfold msgAt
            rw [Int.toNat_of_nonneg hc]
            exact xe
          · have hc' : decide ((0 : Int) ≤ unkAfter tags (-1) cs) = false := by simpa using hc
            rw [hc'] at he
            cases he
    · rw [hpe] at hread
      subst e2
      refine kerr (2, msgAt z "unexpected text at " n7) ?_ b7 H7 ((s05.trans s6).trans s7) xe
      rw [hr']
      unfold readTo
      rw [hread]
      dsimp only
      rw [place_at at7 e1]
end
end Tg
end

section
set_option Elab.async false
set_option linter.all false
set_option maxRecDepth 100000
set_option maxHeartbeats 4000000
/-! The reader of filters: its three levels by induction on the tokens left. -/
namespace Tg
open PySem PySem.Spec PyProof.Rows L2
open R7292f
section
variable {P : Program} {w : World} {K : PySem.W.Frag} {mg : Str → Option Value} {base : Heap} {A : Ad}
variable {fo fa fn fs ff ft fk : Addr} {do_ da dn ds df dt dk : FuncData}
theorem ok_reads (Do : Dm K A.pa "read_or" "Parser.read_or" s_Parser_read_or ["self"] fo do_) (Da : Dm K A.pa "read_and" "Parser.read_and" s_Parser_read_and ["self"] fa da) (Dn : Dm K A.pa "read_not" "Parser.read_not" s_Parser_read_not ["self"] fn dn)
    (T : Txt K mg A) (g_has_sign : Mt P w K mg base CX0 2 A.pa "has_sign" (spHas K A)) (g_fail : Mt P w K mg base (L2N.CX P w) 4 A.pa "fail" (spFail K A)) (g_many : Cl P w K mg base CX0 1 "many_items" (PureSp K R_many_items)) (g_tag : Mt P w K mg base (L2N.CX P w) 5 A.pa "read_tag" (spTag K A)) :
    ∀ b, Mt P w K mg base (L2N.CX P w) (3 * b + 6) A.pa "read_not" (spRd K A 2 b) ∧ Mt P w K mg base (L2N.CX P w) (3 * b + 6 + 2) A.pa "read_or" (spRd K A 0 b)
  | 0 => by
    have h0 : Mt P w K mg base (L2N.CX P w) (3 * 0 + 6) A.pa "read_not" (spRd K A 2 0) := by
      refine Dn.mt' (Dn.fn.okN sc_Parser_read_not (fun vs H Q E h => ?_) (fun cdv _ outer s H vs Q E hr h => ?_))
      · obtain ⟨a, u, tags, z, n, un, ts, fu, rfl, _⟩ := h
        rfl
      · obtain ⟨a, u, tags, z, n, un, ts, fu, rfl, _, _, _, hb, _⟩ := h
        exact absurd hb (Nat.not_lt_zero _)
    exact ⟨h0, ok_read_or Do T (by omega) g_has_sign (ok_read_and Da T (by omega) g_has_sign h0)⟩
  | b + 1 => by
    obtain ⟨h1, h2⟩ := ok_reads Do Da Dn T g_has_sign g_fail g_many g_tag b
    have h3 : Mt P w K mg base (L2N.CX P w) (3 * (b + 1) + 6) A.pa "read_not" (spRd K A 2 (b + 1)) := ok_read_not Dn T (by omega) g_has_sign g_fail g_many g_tag h1 h2
    exact ⟨h3, ok_read_or Do T (by omega) g_has_sign (ok_read_and Da T (by omega) g_has_sign h3)⟩
end
end Tg
end

section
set_option Elab.async false
set_option linter.all false
set_option maxRecDepth 100000
set_option maxHeartbeats 4000000
/-! Requests in octets: what is read, by places. -/
namespace Tg
open PySem PyProof.Rows L2 R7292f
def o8 (c : UInt8) : V := .int (c.toNat : Nat)
def seg (b : List UInt8) (n k : Nat) : List UInt8 := (b.drop n).take k
theorem front_eq : ∀ {k : Nat} {r x rest : List UInt8}, RWire.front k r = some (x, rest) → x = r.take k ∧ rest = r.drop k ∧ k ≤ r.length
  | 0, r, x, rest, h => by
    simp [RWire.front] at h
    obtain ⟨rfl, rfl⟩ := h
    simp
  | k + 1, [], x, rest, h => by simp [RWire.front] at h
  | k + 1, a :: r, x, rest, h => by
    unfold RWire.front at h
    cases hf : RWire.front k r with
    | none =>
      rw [hf] at h
      cases h
    | some p =>
      rw [hf] at h
      obtain ⟨y, z⟩ := p
      cases h
      obtain ⟨e1, e2, e3⟩ := front_eq hf
      exact ⟨by simp [e1], by simp [e2], by simp; omega⟩
theorem num_eq {k n m : Nat} {b rest : List UInt8} (hn : n ≤ b.length) (h : RWire.readNum k (b.drop n) = some (m, rest)) : n + k ≤ b.length ∧ m = RWire.numOf (seg b n k) ∧ rest = b.drop (n + k) := by
  unfold RWire.readNum at h
  cases hf : RWire.front k (b.drop n) with
  | none =>
    rw [hf] at h
    cases h
  | some p =>
    rw [hf] at h
    obtain ⟨y, z⟩ := p
    cases h
    obtain ⟨e1, e2, e3⟩ := front_eq hf
    rw [List.length_drop] at e3
    refine ⟨by omega, by rw [e1]; rfl, ?_⟩
    rw [e2, List.drop_drop]
theorem text_eq {n : Nat} {b u rest : List UInt8} (hn : n ≤ b.length) (h : RWire.readText (b.drop n) = some (u, rest)) :
    n + 4 + RWire.numOf (seg b n 4) ≤ b.length ∧ u = seg b (n + 4) (RWire.numOf (seg b n 4)) ∧ rest = b.drop (n + 4 + RWire.numOf (seg b n 4)) := by
  unfold RWire.readText at h
  cases hf : RWire.readNum 4 (b.drop n) with
  | none =>
    rw [hf] at h
    cases h
  | some p =>
    rw [hf] at h
    obtain ⟨m, z⟩ := p
    obtain ⟨e1, e2, e3⟩ := num_eq hn hf
    simp only [] at h
    rw [e3] at h
    obtain ⟨q1, q2, q3⟩ := front_eq h
    rw [List.length_drop] at q3
    rw [← e2]
    refine ⟨by omega, q1, ?_⟩
    rw [q2, List.drop_drop]
theorem numOf_at {b : List UInt8} {m i : Nat} (h : m < b.length) : RWire.numOf (seg b m (i + 1)) = b[m].toNat + 256 * RWire.numOf (seg b (m + 1) i) := by
  unfold seg
  rw [List.drop_eq_getElem_cons h]
  rfl
theorem numOf_lt : ∀ l : List UInt8, RWire.numOf l < 256 ^ l.length
  | [] => by simp [RWire.numOf]
  | a :: r => by
    have ih := numOf_lt r
    have ha := a.toNat_lt
    simp only [RWire.numOf, List.length_cons, Nat.pow_succ]
    omega
/-! ### values -/
mutual
def plD : Spec.Plain → Dat
  | .undef => .tup [.v (.int 0)]
  | .null => .tup [.v (.int 1)]
  | .bool b => .tup [.v (.int (if b then 3 else 2))]
  | .num x => .tup [.v (.int 4), .v (.int (x.getD 0))]
  | .str s => .tup [.v (.int 6), uD s]
  | .arr l => .tup [.v (.int 7), .tup (plDs l)]
  | .obj fs => .tup [.v (.int 8), .tup (plFs fs)]
  | .big _ => .tup [.v (.int 5)]
def plDs : List Spec.Plain → List Dat
  | [] => []
  | v :: r => plD v :: plDs r
def plFs : List (Spec.Units × Spec.Plain) → List Dat
  | [] => []
  | (n, v) :: r => .tup [uD n, plD v] :: plFs r
end
theorem plDs_map : ∀ l : List Spec.Plain, plDs l = l.map plD
  | [] => rfl
  | v :: r => by rw [plDs, plDs_map r]; rfl
theorem plFs_map : ∀ l : List (Spec.Units × Spec.Plain), plFs l = l.map fun e => .tup [uD e.1, plD e.2]
  | [] => rfl
  | (n, v) :: r => by rw [plFs, plFs_map r]; rfl
mutual
theorem plD_still : ∀ p : Spec.Plain, (plD p).still = true
  | .undef => rfl
  | .null => rfl
  | .bool b => by cases b <;> rfl
  | .num x => rfl
  | .str s => by simp [plD, Dat.still, Dat.stills, uD_still]
  | .arr l => by simp [plD, Dat.still, Dat.stills, plDs_still l]
  | .obj fs => by simp [plD, Dat.still, Dat.stills, plFs_still fs]
  | .big _ => rfl
theorem plDs_still : ∀ l : List Spec.Plain, Dat.stills (plDs l) = true
  | [] => rfl
  | v :: r => by simp [plDs, Dat.stills, plD_still v, plDs_still r]
theorem plFs_still : ∀ l : List (Spec.Units × Spec.Plain), Dat.stills (plFs l) = true
  | [] => rfl
  | (n, v) :: r => by simp [plFs, Dat.stills, Dat.still, plD_still v, uD_still, plFs_still r]
end
/-- the values that are read: their kinds, how deep -/
def vok : Nat → RWire.Value → Bool
  | 0, _ => false
  | _ + 1, .nothing => true
  | _ + 1, .null => true
  | _ + 1, .bool _ => true
  | _ + 1, .int _ => true
  | _ + 1, .text _ => true
  | d + 1, .list l => l.all (vok d)
  | d + 1, .record l => l.all fun e => vok d e.2
  | _ + 1, _ => false
theorem takenAll_map : ∀ l : List RWire.Value, Rust.takenAll l = l.map Rust.taken
  | [] => rfl
  | v :: r => by rw [Rust.takenAll, takenAll_map r]; rfl
theorem takenFields_map : ∀ l : List (RWire.Text × RWire.Value), Rust.takenFields l = l.map fun e => (e.1.map Rust.unitOf, Rust.taken e.2)
  | [] => rfl
  | (n, v) :: r => by rw [Rust.takenFields, takenFields_map r]; rfl
theorem unitOf_nat (c : UInt8) : (Rust.unitOf c).toNat = c.toNat := by
  unfold Rust.unitOf
  have := c.toNat_lt
  simp
theorem uD_unit (u : List UInt8) : uD (u.map Rust.unitOf) = .tup (u.map fun c => .v (o8 c)) := by
  unfold uD sc uI o8
  rw [List.map_map]
  congr 1
  apply List.map_congr_left
  intro c _
  show Dat.v (V.int _) = _
  rw [unitOf_nat]
/-! ### what stands behind a kind -/
theorem kind_inv {f : List UInt8 → Option (RWire.Value × List UInt8)} {k : Nat} {r rest : List UInt8} {v : RWire.Value} (h : RWire.readKind f k r = some (v, rest)) :
    (k < 4 ∧ rest = r ∧ plD (Rust.taken v) = .tup [.v (.int (k : Nat))]) ∨ (k = 4 ∧ RWire.readInt r = some (v, rest)) ∨ (k = 6 ∧ RWire.readWords r = some (v, rest)) ∨
    (k = 7 ∧ RWire.readList f r = some (v, rest)) ∨ (k = 8 ∧ RWire.readRecord f r = some (v, rest)) ∨ (∀ d, vok d v = false) := by
  unfold RWire.readKind at h
  split at h
  · cases h; exact .inl ⟨by decide, rfl, rfl⟩
  · cases h; exact .inl ⟨by decide, rfl, rfl⟩
  · cases h; exact .inl ⟨by decide, rfl, rfl⟩
  · cases h; exact .inl ⟨by decide, rfl, rfl⟩
  · exact .inr (.inl ⟨rfl, h⟩)
  · refine .inr (.inr (.inr (.inr (.inr fun d => ?_))))
    unfold RWire.readBig at h
    repeat' split at h
    all_goals cases h
    cases d <;> rfl
  · exact .inr (.inr (.inl ⟨rfl, h⟩))
  · exact .inr (.inr (.inr (.inl ⟨rfl, h⟩)))
  · exact .inr (.inr (.inr (.inr (.inl ⟨rfl, h⟩))))
  · refine .inr (.inr (.inr (.inr (.inr fun d => ?_))))
    unfold RWire.readOctets at h
    repeat' split at h
    all_goals cases h
    cases d <;> rfl
  · refine .inr (.inr (.inr (.inr (.inr fun d => ?_))))
    unfold RWire.readWide at h
    repeat' split at h
    all_goals cases h
    cases d <;> rfl
  · cases h
/-- so many things read: step by step -/
theorem many_zero {α : Type} {f : List UInt8 → Option (α × List UInt8)} {r rest : List UInt8} {l : List α} (h : RWire.readMany f 0 r = some (l, rest)) : l = [] ∧ rest = r := by
  simp [RWire.readMany] at h
  exact ⟨h.1, h.2.symm⟩
theorem many_succ {α : Type} {f : List UInt8 → Option (α × List UInt8)} {n : Nat} {r rest : List UInt8} {l : List α} (h : RWire.readMany f (n + 1) r = some (l, rest)) : ∃ x r1 l1, l = x :: l1 ∧ f r = some (x, r1) ∧ RWire.readMany f n r1 = some (l1, rest) := by
  unfold RWire.readMany at h
  cases hf : f r with
  | none =>
    rw [hf] at h
    cases h
  | some p =>
    rw [hf] at h
    simp only [] at h
    cases hm : RWire.readMany f n p.2 with
    | none =>
      rw [hm] at h
      cases h
    | some q =>
      rw [hm] at h
      cases h
      exact ⟨p.1, p.2, q.1, rfl, rfl, hm⟩
theorem many_len {α : Type} {f : List UInt8 → Option (α × List UInt8)} (hf : ∀ r x r1, f r = some (x, r1) → r1.length < r.length) : ∀ {n : Nat} {r rest : List UInt8} {l : List α}, RWire.readMany f n r = some (l, rest) → l.length = n ∧ n + rest.length ≤ r.length
  | 0, r, rest, l, h => by
    obtain ⟨rfl, rfl⟩ := many_zero h
    simp
  | n + 1, r, rest, l, h => by
    obtain ⟨x, r1, l1, rfl, h1, h2⟩ := many_succ h
    obtain ⟨e1, e2⟩ := many_len hf h2
    have := hf _ _ _ h1
    simp
    omega
theorem front_le {k : Nat} {r x rest : List UInt8} (h : RWire.front k r = some (x, rest)) : rest.length ≤ r.length := by
  obtain ⟨_, e, _⟩ := front_eq h
  rw [e, List.length_drop]
  omega
theorem readNum_le {k m : Nat} {r rest : List UInt8} (h : RWire.readNum k r = some (m, rest)) : rest.length ≤ r.length := by
  unfold RWire.readNum at h
  cases hf : RWire.front k r with
  | none =>
    rw [hf] at h
    cases h
  | some p =>
    rw [hf] at h
    cases h
    exact front_le (x := p.1) hf
theorem readText_le {r u rest : List UInt8} (h : RWire.readText r = some (u, rest)) : rest.length ≤ r.length := by
  unfold RWire.readText at h
  cases hf : RWire.readNum 4 r with
  | none =>
    rw [hf] at h
    cases h
  | some p =>
    rw [hf] at h
    have := front_le h
    have := readNum_le (m := p.1) hf
    simp only [] at *
    omega
theorem many_le {α : Type} {f : List UInt8 → Option (α × List UInt8)} (hf : ∀ r x r1, f r = some (x, r1) → r1.length ≤ r.length) : ∀ {n : Nat} {r rest : List UInt8} {l : List α}, RWire.readMany f n r = some (l, rest) → rest.length ≤ r.length
  | 0, r, rest, l, h => by
    obtain ⟨rfl, rfl⟩ := many_zero h
    simp
  | n + 1, r, rest, l, h => by
    obtain ⟨x, r1, l1, rfl, h1, h2⟩ := many_succ h
    have := many_le hf h2
    have := hf _ _ _ h1
    omega
theorem entry_inv {f : List UInt8 → Option (RWire.Value × List UInt8)} {r rest : List UInt8} {e : RWire.Text × RWire.Value} (h : RWire.readEntry f r = some (e, rest)) : ∃ r1, RWire.readText r = some (e.1, r1) ∧ f r1 = some (e.2, rest) := by
  unfold RWire.readEntry at h
  cases ht : RWire.readText r with
  | none =>
    rw [ht] at h
    cases h
  | some p =>
    rw [ht] at h
    simp only [] at h
    cases hf : f p.2 with
    | none =>
      rw [hf] at h
      cases h
    | some q =>
      rw [hf] at h
      cases h
      exact ⟨p.2, rfl, hf⟩
theorem list_inv {f : List UInt8 → Option (RWire.Value × List UInt8)} {r rest : List UInt8} {v : RWire.Value} (h : RWire.readList f r = some (v, rest)) : ∃ m r1 l, RWire.readNum 4 r = some (m, r1) ∧ RWire.readMany f m r1 = some (l, rest) ∧ v = .list l := by
  unfold RWire.readList at h
  cases ht : RWire.readNum 4 r with
  | none =>
    rw [ht] at h
    cases h
  | some p =>
    rw [ht] at h
    simp only [] at h
    cases hf : RWire.readMany f p.1 p.2 with
    | none =>
      rw [hf] at h
      cases h
    | some q =>
      rw [hf] at h
      cases h
      exact ⟨p.1, p.2, q.1, rfl, hf, rfl⟩
theorem record_inv {f : List UInt8 → Option (RWire.Value × List UInt8)} {r rest : List UInt8} {v : RWire.Value} (h : RWire.readRecord f r = some (v, rest)) : ∃ m r1 l, RWire.readNum 4 r = some (m, r1) ∧ RWire.readMany (RWire.readEntry f) m r1 = some (l, rest) ∧ v = .record l := by
  unfold RWire.readRecord at h
  cases ht : RWire.readNum 4 r with
  | none =>
    rw [ht] at h
    cases h
  | some p =>
    rw [ht] at h
    simp only [] at h
    cases hf : RWire.readMany (RWire.readEntry f) p.1 p.2 with
    | none =>
      rw [hf] at h
      cases h
    | some q =>
      rw [hf] at h
      simp only [] at h
      split at h
      · cases h
        exact ⟨p.1, p.2, q.1, rfl, hf, rfl⟩
      · cases h
theorem words_inv {r rest : List UInt8} {v : RWire.Value} (h : RWire.readWords r = some (v, rest)) : ∃ u, RWire.readText r = some (u, rest) ∧ v = .text u := by
  unfold RWire.readWords at h
  cases ht : RWire.readText r with
  | none =>
    rw [ht] at h
    cases h
  | some p =>
    rw [ht] at h
    cases h
    exact ⟨p.1, rfl, rfl⟩
theorem int_inv {r rest : List UInt8} {v : RWire.Value} (h : RWire.readInt r = some (v, rest)) : ∃ m, RWire.readNum 8 r = some (m, rest) ∧ v = .int (RWire.intOf m) := by
  unfold RWire.readInt at h
  cases ht : RWire.readNum 8 r with
  | none =>
    rw [ht] at h
    cases h
  | some p =>
    rw [ht] at h
    simp only [] at h
    split at h
    · cases h
      exact ⟨p.1, rfl, rfl⟩
    · cases h
theorem readF_inv {j : Nat} {r rest : List UInt8} {v : RWire.Value} (h : RWire.readF j r = some (v, rest)) : ∃ j' k r', j = j' + 1 ∧ r = k :: r' ∧ RWire.readKind (RWire.readF j') k.toNat r' = some (v, rest) := by
  cases j with
  | zero => simp [RWire.readF] at h
  | succ j =>
    cases r with
    | nil => simp [RWire.readF] at h
    | cons k r => exact ⟨j, k, r, rfl, rfl, h⟩
/-- the values that may be read, one octet at least -/
theorem readF_lt {d : Nat} : ∀ {j : Nat} {r rest : List UInt8} {v : RWire.Value}, RWire.readF j r = some (v, rest) → rest.length < r.length
  | 0, r, rest, v, h => by simp [RWire.readF] at h
  | j + 1, r, rest, v, h => by
    obtain ⟨j', k, r', hj, rfl, hk⟩ := readF_inv h
    cases hj
    have key : rest.length ≤ r'.length := by
      unfold RWire.readKind at hk
      split at hk
      · cases hk; exact Nat.le_refl _
      · cases hk; exact Nat.le_refl _
      · cases hk; exact Nat.le_refl _
      · cases hk; exact Nat.le_refl _
      · obtain ⟨m, e, _⟩ := int_inv hk
        exact readNum_le e
      · unfold RWire.readBig at hk
        cases r' with
        | nil => cases hk
        | cons s r =>
          simp only [] at hk
          cases hn : RWire.readNum 4 r with
          | none => rw [hn] at hk; cases hk
          | some p =>
            rw [hn] at hk
            simp only [] at hk
            cases hf : RWire.front p.1 p.2 with
            | none => rw [hf] at hk; cases hk
            | some q =>
              rw [hf] at hk
              simp only [] at hk
              have h1 := readNum_le (m := p.1) hn
              have h2 := front_le (x := q.1) hf
              split at hk
              · cases hk
              · cases hk
                simp
                omega
      · obtain ⟨u, e, _⟩ := words_inv hk
        exact readText_le e
      · obtain ⟨m, r1, l, e1, e2, _⟩ := list_inv hk
        have h1 := readNum_le e1
        have h2 := many_le (fun r x r1 h => Nat.le_of_lt (readF_lt (d := d) h)) e2
        omega
      · obtain ⟨m, r1, l, e1, e2, _⟩ := record_inv hk
        have h1 := readNum_le e1
        have h2 := many_le (fun r x r1 h => by
          obtain ⟨r2, q1, q2⟩ := entry_inv h
          have := readText_le q1
          have := readF_lt (d := d) q2
          omega) e2
        omega
      · unfold RWire.readOctets at hk
        cases ht : RWire.readText r' with
        | none => rw [ht] at hk; cases hk
        | some p =>
          rw [ht] at hk
          cases hk
          exact readText_le (u := p.1) ht
      · unfold RWire.readWide at hk
        cases hn : RWire.readNum 4 r' with
        | none => rw [hn] at hk; cases hk
        | some p =>
          rw [hn] at hk
          simp only [] at hk
          cases hs : RWire.readSigns p.1 p.2 with
          | none => rw [hs] at hk; cases hk
          | some q =>
            rw [hs] at hk
            simp only [] at hk
            split at hk
            · cases hk
              have h1 := readNum_le (m := p.1) hn
              have h2 := signs_le (x := q.1) hs
              omega
            · cases hk
      · cases hk
    simp
    omega
where signs_le : ∀ {n : Nat} {r rest : List UInt8} {x : List UInt16}, RWire.readSigns n r = some (x, rest) → rest.length ≤ r.length
  | 0, r, rest, x, h => by
    simp [RWire.readSigns] at h
    rw [h.2]
    exact Nat.le_refl _
  | n + 1, [], rest, x, h => by simp [RWire.readSigns] at h
  | n + 1, [a], rest, x, h => by simp [RWire.readSigns] at h
  | n + 1, a :: c :: r, rest, x, h => by
    unfold RWire.readSigns at h
    cases hf : RWire.readSigns n r with
    | none => rw [hf] at h; cases h
    | some p =>
      rw [hf] at h
      cases h
      have := signs_le (x := p.1) hf
      simp
      omega
end Tg
end

section
set_option Elab.async false
set_option linter.all false
set_option maxRecDepth 100000
set_option maxHeartbeats 4000000
/-! The reader of requests: its object, numbers, texts. -/
namespace Tg
open PySem PySem.Spec PyProof.Rows L2
open R7292f
def rqF (q : Addr) (n : Int) : List (Str × V) := [("octets", .ref q), ("at", .int n)]
def octD (b : List UInt8) : Dat := .lst (b.map fun c => .v (o8 c))
def rG (b : List UInt8) (n : Nat) : List (Str × Dat) := [("octets", octD b), ("at", intD n)]
structure RqAt (C a q : Addr) (b : List UInt8) (n : Nat) (H : Hp) : Prop where
  ins : ∃ dx, H a = some (.ins C dx (rqF q n))
  lst : H q = some (.lst (b.map o8))
structure Rst (K : PySem.W.Frag) (C a q : Addr) (b : List UInt8) (n : Nat) (ρ : List (Option Dat)) (σ : L2.St) (H : Hp) : Prop where
  at_ : RqAt C a q b n H
  env : Env K (hid a H) σ ρ
  self : σ[0]? = some (some (.ref a))
  off : ρ[0]? = some none
theorem rlkH {β : Type} {k : Str} {v : β} {r : List (Str × β)} : List.lookup k ((k, v) :: r) = some v := by
  have e : (k == k) = true := beq_self_eq_true k
  simp only [List.lookup, e]
theorem rlkP {β : Type} {k g : Str} {v : β} {r : List (Str × β)} (h : (k == g) = false) : List.lookup k ((g, v) :: r) = List.lookup k r := by
  simp only [List.lookup, h]
theorem rpl_o8 {K : PySem.W.Frag} {H : Hp} : ∀ b : List UInt8, RpL K H (b.map o8) (b.map fun c => .v (o8 c))
  | [] => .nil
  | c :: r => .cons (.v _) (rpl_o8 r)
section
variable {K : PySem.W.Frag} {C a q : Addr} {b : List UInt8} {n : Nat} {ρ : List (Option Dat)} {σ : L2.St} {H H' : Hp} {te : TE} {tt : TT} {ta : TA} {D : Ends} {d : Dat} {ds : List Dat}
theorem RqAt.rp (p : RqAt C a q b n H) : Rp K H (.ref a) (.obj C (rG b n)) := by
  obtain ⟨dx, h⟩ := p.ins
  exact .obj h (.cons (.lst p.lst (rpl_o8 b)) (.cons (.v _) .nil))
theorem RqAt.grow (p : RqAt C a q b n H) (s : Same H H') : RqAt C a q b n H' := by
  obtain ⟨dx, h⟩ := p.ins
  exact ⟨⟨dx, s _ _ h⟩, s _ _ p.lst⟩
theorem RqAt.st (p : RqAt C a q b n H) : SameF K H (hid a H) := by
  obtain ⟨dx, h⟩ := p.ins
  exact hid_iF h
theorem RqAt.ne (p : RqAt C a q b n H) : q ≠ a := fun e => by
  obtain ⟨dx, h⟩ := p.ins
  have := p.lst
  rw [e, h] at this
  cases this
theorem rset_self {σ : L2.St} {i : Nat} {v : V} (h : σ[i]? = some (some v)) : σ.set i (some v) = σ := by
  apply List.ext_getElem?
  intro k
  by_cases hk : k = i
  · subst hk
    have := (List.getElem?_eq_some_iff.mp h).1
    rw [List.getElem?_set_self this]
    exact h.symm
  · rw [List.getElem?_set_ne (Ne.symm hk)]
theorem Rst.all (p : Rst K C a q b n ρ σ H) : Env K H σ (ρ.set 0 (some (.obj C (rG b n)))) := by
  have e := (p.env.mono hid_same).set 0 p.at_.rp
  rw [rset_self p.self] at e
  exact e
theorem Rst.grow (p : Rst K C a q b n ρ σ H) (s : Same H H') : Rst K C a q b n ρ σ H' := ⟨p.at_.grow s, p.env.mono (hid_mono s), p.self, p.off⟩
theorem Rst.set {j : Nat} {v : V} (p : Rst K C a q b n ρ σ H) (r : Rp K (hid a H) v d) (hj : j ≠ 0) : Rst K C a q b n (ρ.set j (some d)) (σ.set j (some v)) H :=
  ⟨p.at_, p.env.set j r, by rw [List.getElem?_set_ne hj]; exact p.self, by rw [List.getElem?_set_ne hj]; exact p.off⟩
theorem Rst.to {n' : Nat} (p : Rst K C a q b n ρ σ H) (s : Same (hid a H) (hid a H')) (r : RqAt C a q b n' H') : Rst K C a q b n' ρ σ H' := ⟨r, p.env.mono s, p.self, p.off⟩
theorem Rst.forget {j : Nat} (p : Rst K C a q b n ρ σ H) (hj : j ≠ 0) : Rst K C a q b n (ρ.set j none) σ H := ⟨p.at_, p.env.forget j, p.self, by rw [List.getElem?_set_ne hj]; exact p.off⟩
theorem r_asg {j : Nat} (p : Rst K C a q b n ρ σ H) (h : EvD K te (ρ.set 0 (some (.obj C (rG b n)))) d) (st : d.flat = true) (hj : j ≠ 0)
    (k : ∀ σ' H', Same H H' → Rst K C a q b n (ρ.set j (some d)) σ' H' → D.nx σ' H') : tAsg te (gName j) D σ H :=
  h σ H p.all _ fun v H1 s1 r1 => k _ H1 s1 ((p.grow s1).set (r1.stayF (p.grow s1).at_.st st) hj)
theorem r_ret {Q : VK} (p : Rst K C a q b n ρ σ H) (h : EvD K te (ρ.set 0 (some (.obj C (rG b n)))) d) (st : d.flat = true)
    (k : ∀ v H', Same H H' → RqAt C a q b n H' → Rp K (hid a H') v d → Q v H') : te σ H Q :=
  h σ H p.all _ fun v H1 s1 r1 => k _ H1 s1 (p.at_.grow s1) (r1.stayF (p.at_.grow s1).st st)
theorem r_if {tu tw : TS} {b' : Bool} (p : Rst K C a q b n ρ σ H) (h : EvT K tt (ρ.set 0 (some (.obj C (rG b n)))) b') (h1 : b' = true → ∀ H', Same H H' → Rst K C a q b n ρ σ H' → tu D σ H')
    (h2 : b' = false → ∀ H', Same H H' → Rst K C a q b n ρ σ H' → tw D σ H') : tIfS tt tu tw D σ H :=
  h σ H p.all _ fun H1 s1 => by
    cases b' with
    | true => exact h1 rfl H1 s1 (p.grow s1)
    | false => exact h2 rfl H1 s1 (p.grow s1)
/-- self.at += e -/
theorem r_at {k : Nat} {T : Cls K C} {nT : NoAttr K C "at"} (p : Rst K C a q b n ρ σ H) (h : EvD K te (ρ.set 0 (some (.obj C (rG b n)))) (.v (.int k)))
    (z : ∀ H', Same (hid a H) (hid a H') → Rst K C a q b (n + k) ρ σ H' → D.nx σ H') : sFldAug K (tVar 0) te rAdd "at" D σ H := by
  obtain ⟨dx, h1⟩ := p.at_.ins
  have hat : (rqF q n).lookup ("at" : Str) = some (.int n) := (rlkP (by decide +kernel)).trans rlkH
  refine ⟨_, p.self, a, C, dx, _, _, rfl, h1, T, nT, hat, h σ H p.all _ fun v H1 s1 r1 => ⟨_, _, rfl, r1.v_eq, dx, _, s1 _ _ h1, by show 2 < 1000; decide, ?_⟩⟩
  have hp : putF "at" (.int ((n : Int) + (k : Int))) (rqF q n) = rqF q ((n + k : Nat) : Int) := by
    have hne : ¬ (("octets" : Str) = ("at" : Str)) := by decide +kernel
    show (if (("octets" : Str) = ("at" : Str)) then _ else _) = _
    rw [if_neg hne]
    show _ :: (if (("at" : Str) = ("at" : Str)) then _ else _) = _
    rw [if_pos rfl]
    rfl
  rw [hp]
  have e : hid a (upd H1 a (.ins C dx (rqF q ((n + k : Nat) : Int)))) = hid a H1 := hid_upd
  refine z _ (by rw [e]; exact hid_mono s1) ⟨⟨⟨dx, upd_same⟩, ?_⟩, by rw [e]; exact p.env.mono (hid_mono s1), p.self, p.off⟩
  rw [upd_ne p.at_.ne]
  exact s1 _ _ p.at_.lst
/-- self.m(..) -/
theorem r_meth {m : Str} {sp : Sp} {E : XK} {Q : VK} (hm : (m == ("octets" : Str) || m == ("at" : Str)) = false) (p : Rst K C a q b n ρ σ H) (h : ta σ H fun vs H1 => sp (.ref a :: (vs ++ [])) H1 Q E) :
    tMeth C m sp [] E (tVar 0) ta σ H Q := by
  obtain ⟨dx, h1⟩ := p.at_.ins
  simp only [Bool.or_eq_false_iff] at hm
  exact ⟨_, p.self, a, dx, _, rfl, h1, (rlkP hm.1).trans (rlkP hm.2), h⟩
end
theorem rst_start {K : PySem.W.Frag} {C a q : Addr} {b : List UInt8} {n : Nat} {H : Hp} (N : List Str) {vs : List V} {ds : List Dat} (p : RqAt C a q b n H) (r : RpL K (hid a H) vs ds) :
    Rst K C a q b n (none :: (ds.map some ++ List.replicate (N.length - (ds.length + 1)) none)) (L2.start N (.ref a :: vs)) H := by
  refine ⟨p, ?_, rfl, rfl⟩
  have e := env_start (N.length - (ds.length + 1)) r
  have e2 : L2.start N (.ref a :: vs) = some (.ref a) :: (vs.map some ++ List.replicate (N.length - (ds.length + 1)) none) := by
    unfold L2.start
    rw [List.length_cons, r.length]
    rfl
  rw [e2]
  exact .skip e
section
variable {P : Program} {w : World} {K : PySem.W.Frag} {mg : Str → Option Value} {base : Heap} {A : Ad} {f : Addr} {fd : FuncData} {ρ : List (Option Dat)} {b : List UInt8} {n : Nat}
theorem rf_o (T : Txt K mg A) (h : ρ[0]? = some (some (.obj A.rq (rG b n)))) : EvD K (tFld K (tVar 0) "octets") ρ (octD b) := ev_fld (ev_var h) T.k_Request T.n_Request_octets rlkH
theorem rf_a (T : Txt K mg A) (h : ρ[0]? = some (some (.obj A.rq (rG b n)))) : EvD K (tFld K (tVar 0) "at") ρ (intD n) := ev_fld (ev_var h) T.k_Request T.n_Request_at ((rlkP (by decide +kernel)).trans rlkH)
/-! ### number -/
def spNum (A : Ad) : Sp := fun vs H Q _ => ∃ a q b n, ∃ k : Nat, vs = [.ref a, .int k] ∧ RqAt A.rq a q b n H ∧ n + k ≤ b.length ∧ k ≤ 8 ∧
  ∀ H', Same (hid a H) (hid a H') → RqAt A.rq a q b (n + k) H' → Q (.int (RWire.numOf (seg b n k) : Nat)) H'
abbrev s_Request_number : Stmt := inClass (top 19) 1
abbrev N_Request_number : List Str := ["self", "many", "found", "back"]
theorem sc_Request_number : FnScope N_Request_number ["self", "many"] (defScope s_Request_number) :=
  ⟨rfl, rfl, rfl, by decide +kernel, rfl, by decide +kernel, by decide +kernel⟩
theorem ok_number (D : Dm K A.rq "number" "Request.number" s_Request_number ["self", "many"] f fd) (T : Txt K mg A) : Mt P w K mg base CX0 1 A.rq "number" (spNum A) := by
  refine D.mt' (D.fn.ok sc_Request_number (fun vs H Q E h => ?_) (fun cdv _ outer s H vs Q E hr h => ⟨_, (pss_cons (ps_set (i := 2) sc_Request_number.nd rfl (Or.inl rfl) pe_int)
    (pss_cons (ps_for PassesOwn.never rfl (pi_range1 rfl T.b_range (pa_cons (pv 1) pa_nil)) (pg_name (i := 3) sc_Request_number.nd rfl (Or.inl rfl)) (pss_one (ps_set (i := 2) sc_Request_number.nd rfl (Or.inl rfl) (pe_op (op_plusK K) (pe_op op_times pe_int (pv 2)) (pe_ix (ix_seqK K) (pe_fldK K (pv 0) rfl) (pe_op op_minus (pe_op op_minus (pe_op (op_plusK K) (pe_fldK K (pv 0) rfl) (pv 1)) pe_int) (pv 3)) (fun _ _ => rfl))))))
    (pss_cons (ps_fldaugK K (pv 0) (pv 1) in_add)
    (pss_one (ps_ret (pv 2)))))), ?_⟩))
  · obtain ⟨a, q, b, n, k, rfl, _⟩ := h
    rfl
  · obtain ⟨a, q, b, n, k, rfl, p, hnk, hk8, kk⟩ := h
    have p0 := rst_start (K := K) N_Request_number p (.cons (.v (.int k)) .nil)
    refine s_seq (r_asg p0 ev_c rfl (by decide) fun σ1 H1 s1 p1 => ?_)
    refine s_seq (s_forR (K := K) (n := k) (fun i σ' H' => Rst K A.rq a q b n [none, some (intD k), some (intD (RWire.numOf (seg b (n + k - i) i) : Nat)), none] σ' H' ∧ Same (hid a H) (hid a H')) p1.all (ev_cons (ev_var rfl) ev_nil) (by omega) (fun H' s => ⟨(p1.grow s), (hid_mono s1).trans (hid_mono s)⟩) ?_ ?_)
    · rintro i σ' H' hi ⟨p2, s2⟩
      have p3 := p2.set (j := 3) (d := intD (i : Nat)) (.v _) (by decide)
      have hm : n + k - 1 - i < b.length := by omega
      refine r_asg (d := intD (RWire.numOf (seg b (n + k - (i + 1)) (i + 1)) : Nat)) p3 ((ev_op (ev_op ev_c (ev_var rfl) (rv_timesI ⟨by decide, by decide⟩)) (ev_op (rf_o T rfl) (ev_op (ev_op (ev_op (rf_a T rfl) (ev_var rfl) rv_plusI) ev_c rv_minus) (ev_var rfl) rv_minus) (rv_ixL (d := .v (o8 b[n + k - 1 - i])) ?_ ?_)) rv_plusI).to ?_) rfl (by decide) fun σ4 H4 s4 p4 => ⟨p4.forget (j := 3) (by decide), s2.trans (hid_mono s4)⟩
      · omega
      · have e : ((n : Int) + (k : Int) - 1 - (i : Int)).toNat = n + k - 1 - i := by omega
        rw [e]
        simp [hm]
      · have e1 : n + k - (i + 1) = n + k - 1 - i := by omega
        have e2 : n + k - i = n + k - 1 - i + 1 := by omega
        rw [e1, e2, numOf_at hm]
        unfold intD
        congr 2
        omega
    · rintro σ' H' ⟨p2, s2⟩
      refine s_seq (r_at (k := k) (T := T.k_Request) (nT := T.n_Request_at) p2 (ev_var rfl) fun H3 s3 p3 => ?_)
      obtain ⟨v, w1, w2⟩ := p3.env.get (i := 2) rfl
      have ev := w2.v_eq
      subst ev
      rw [Nat.add_sub_cancel] at w1
      exact ⟨_, w1, kk H3 (s2.trans s3) p3.at_⟩
end
end Tg
end

section
set_option Elab.async false
set_option linter.all false
set_option maxRecDepth 100000
set_option maxHeartbeats 4000000
/-! The reader of requests: texts, values. -/
namespace Tg
open PySem PySem.Spec PyProof.Rows L2
open R7292f
theorem cut_octs (b : List UInt8) (i j : Nat) (h : i ≤ j) (hj : j ≤ b.length) : cutD (b.map fun c => Dat.v (o8 c)) (some (i : Int)) (some (j : Int)) = (seg b i (j - i)).map fun c => Dat.v (o8 c) := by
  unfold cutD
  rw [HT.sIx_nat, HT.sIx_nat]
  have e1 : min i (b.map fun c => Dat.v (o8 c)).length = i := by simp; omega
  have e2 : min j (b.map fun c => Dat.v (o8 c)).length = j := by simp; omega
  rw [e1, e2]
  simp [seg, List.map_take, List.map_drop]
theorem asg_nx {i : Nat} {v : V} {σ : L2.St} {H : Hp} {k : L2.St → Hp → Prop} (h : k (σ.set i (some v)) H) : gName i v σ H k := h
theorem r_retS {K : PySem.W.Frag} {C a q : Addr} {b : List UInt8} {n : Nat} {ρ : List (Option Dat)} {σ : L2.St} {H : Hp} {te : TE} {D : Ends} {d : Dat} (p : Rst K C a q b n ρ σ H) (h : EvD K te (ρ.set 0 (some (.obj C (rG b n)))) d) (st : d.flat = true)
    (k : ∀ v H', Same H H' → RqAt C a q b n H' → Rp K (hid a H') v d → D.rt v H') : tRet te D σ H := r_ret p h st k
theorem oct_stills (u : List UInt8) : Dat.stills (u.map fun c => Dat.v (o8 c)) = true := sc_stills o8 u
section
variable {K : PySem.W.Frag} {C a q : Addr} {b : List UInt8} {n r : Nat} {H0 : Hp} {ρ : List (Option Dat)} {σ : L2.St} {H H' : Hp} {te : TE} {tt : TT} {ta : TA} {D : Ends} {d : Dat} {ds : List Dat} {p : Addr}
/-- the object and a new list of the method's own -/
structure Wst (K : PySem.W.Frag) (C a q : Addr) (b : List UInt8) (n : Nat) (H0 : Hp) (r : Nat) (ρ : List (Option Dat)) (ds : List Dat) (p : Addr) (σ : L2.St) (H : Hp) : Prop where
  at_ : RqAt C a q b n H
  acc : Acc K (hid a H0) r ρ ds p σ (hid a H)
  self : σ[0]? = some (some (.ref a))
  qn : q ≠ p
theorem Wst.ne (w : Wst K C a q b n H0 r ρ ds p σ H) : p ≠ a := fun e => by
  obtain ⟨vs, h, _⟩ := w.acc.at_
  rw [e] at h
  simp [hid] at h
theorem Wst.lst (w : Wst K C a q b n H0 r ρ ds p σ H) : ∃ vs, H p = some (.lst vs) ∧ RpL K (hid a H) vs ds := by
  obtain ⟨vs, h, l⟩ := w.acc.at_
  rw [hid_ne w.ne] at h
  exact ⟨vs, h, l⟩
theorem Wst.all (w : Wst K C a q b n H0 r ρ ds p σ H) : Env K H σ ((ρ.set r (some (.lst ds))).set 0 (some (.obj C (rG b n)))) := by
  have e := (w.acc.all.mono hid_same).set 0 w.at_.rp
  rw [rset_self w.self] at e
  exact e
theorem Wst.to {n' : Nat} (w : Wst K C a q b n H0 r ρ ds p σ H) (s : Same (hid a H) (hid a H')) (x : RqAt C a q b n' H') : Wst K C a q b n' H0 r ρ ds p σ H' := ⟨x, w.acc.grow s, w.self, w.qn⟩
theorem Wst.grow (w : Wst K C a q b n H0 r ρ ds p σ H) (s : Same H H') : Wst K C a q b n H0 r ρ ds p σ H' := w.to (hid_mono s) (w.at_.grow s)
theorem Wst.set {j : Nat} {v : V} (w : Wst K C a q b n H0 r ρ ds p σ H) (x : Rp K (hid a H) v d) (st : d.still = true) (hj : j ≠ 0) (hr : j ≠ r) : Wst K C a q b n H0 r (ρ.set j (some d)) ds p (σ.set j (some v)) H :=
  ⟨w.at_, w.acc.set x st hr, by rw [List.getElem?_set_ne hj]; exact w.self, w.qn⟩
theorem Wst.forget {j : Nat} (w : Wst K C a q b n H0 r ρ ds p σ H) (hr : j ≠ r) : Wst K C a q b n H0 r (ρ.set j none) ds p σ H := ⟨w.at_, w.acc.forget hr, w.self, w.qn⟩
theorem hid_upd_ne {x y : Addr} {H : Hp} {o : HO} (h : y ≠ x) : hid x (upd H y o) = upd (hid x H) y o := by
  funext z
  by_cases e1 : z = x
  · subst e1
    have : upd (hid z H) y o z = hid z H z := upd_ne (fun e => h e.symm)
    rw [this]
    simp [hid]
  · rw [hid_ne e1]
    by_cases e2 : z = y
    · subst e2
      rw [upd_same, upd_same]
    · rw [upd_ne e2, upd_ne e2, hid_ne e1]
/-- rows.append(y) -/
theorem Wst.app {v : V} (w : Wst K C a q b n H0 r ρ ds p σ H) (x : Rp K (hid a H) v d) (st : d.still = true) {vs : List V} (h : H p = some (.lst vs)) :
    Wst K C a q b n H0 r ρ (ds ++ [d]) p σ (upd H p (.lst (vs ++ [v]))) := by
  obtain ⟨vs', h', l⟩ := w.lst
  rw [h] at h'
  cases h'
  have hp : (hid a H) p = some (.lst vs) := by rw [hid_ne w.ne]; exact h
  obtain ⟨dx, hi⟩ := w.at_.ins
  refine ⟨⟨⟨dx, by rw [upd_ne (Ne.symm w.ne)]; exact hi⟩, by rw [upd_ne w.qn]; exact w.at_.lst⟩, ?_, w.self, w.qn⟩
  rw [hid_upd_ne w.ne]
  exact w.acc.put (o := .lst vs) hp (l.snoc x) (stills_app w.acc.still (by simp [Dat.stills, st]))
theorem Wst.len (w : Wst K C a q b n H0 r ρ ds p σ H) {vs : List V} (h : H p = some (.lst vs)) : vs.length = ds.length := by
  obtain ⟨vs', h', l⟩ := w.lst
  rw [h] at h'
  cases h'
  exact l.length
/-- self.m(..) -/
theorem w_meth {m : Str} {sp : Sp} {E : XK} {Q : VK} (hm : (m == ("octets" : Str) || m == ("at" : Str)) = false) (p : Wst K C a q b n H0 r ρ ds p σ H) (h : ta σ H fun vs H1 => sp (.ref a :: (vs ++ [])) H1 Q E) :
    tMeth C m sp [] E (tVar 0) ta σ H Q := by
  obtain ⟨dx, h1⟩ := p.at_.ins
  simp only [Bool.or_eq_false_iff] at hm
  exact ⟨_, p.self, a, dx, _, rfl, h1, (rlkP hm.1).trans (rlkP hm.2), h⟩
theorem w_if {tu tw : TS} {b' : Bool} (x : Wst K C a q b n H0 r ρ ds p σ H) (h : EvT K tt ((ρ.set r (some (.lst ds))).set 0 (some (.obj C (rG b n)))) b') (h1 : b' = true → ∀ H', Same H H' → Wst K C a q b n H0 r ρ ds p σ H' → tu D σ H')
    (h2 : b' = false → ∀ H', Same H H' → Wst K C a q b n H0 r ρ ds p σ H' → tw D σ H') : tIfS tt tu tw D σ H :=
  h σ H x.all _ fun H1 s1 => by
    cases b' with
    | true => exact h1 rfl H1 s1 (x.grow s1)
    | false => exact h2 rfl H1 s1 (x.grow s1)
end
/-- a loop that reads so many things into the list -/
theorem val_loop {K : PySem.W.Frag} {C a q : Addr} {b : List UInt8} {n : Nat} {H0 : Hp} {ρ : List (Option Dat)} {σ : L2.St} {H : Hp} {ta : TA} {tb : TS} {D : Ends} {p : Addr} {α : Type} {fr : List UInt8 → Option (α × List UInt8)} (g : α → Dat) {l : List α} {rest : List UInt8}
    (hl : l.length ≤ 1000000) (hn : n ≤ b.length) (hm : RWire.readMany fr l.length (b.drop n) = some (l, rest)) (h : ∀ R, (∀ H1, Wst K C a q b n H0 3 ρ [] p σ H1 → R [.int (l.length : Nat)] H1) → ta σ H R)
    (hb : ∀ (i ni : Nat) x l2 pre σ' H' r1, l = pre ++ x :: l2 → ni ≤ b.length → fr (b.drop ni) = some (x, r1) → Wst K C a q b ni H0 3 ρ (pre.map g) p σ' H' → ∀ D' : Ends, (∀ σ'' H'' n', n' ≤ b.length → r1 = b.drop n' → Wst K C a q b n' H0 3 ρ ((pre ++ [x]).map g) p σ'' H'' → D'.nx σ'' H'') → tb D' (σ'.set 4 (some (.int (i : Nat)))) H')
    (he : ∀ n' σ' H', n' ≤ b.length → rest = b.drop n' → Wst K C a q b n' H0 3 ρ (l.map g) p σ' H' → D.nx σ' H') : tFor (iRng1 ta) (gName 4) tb D σ H := by
  refine h _ fun H1 w1 => ⟨_, rfl, by omega, by omega, ?_⟩
  have e0 : ((l.length : Nat) : Int).toNat = l.length := by omega
  rw [e0]
  refine for_range (lo := 0) (n := l.length) (fun i σ' H' => ∃ ni pre l1, l = pre ++ l1 ∧ pre.length = i ∧ ni ≤ b.length ∧ RWire.readMany fr l1.length (b.drop ni) = some (l1, rest) ∧ Wst K C a q b ni H0 3 ρ (pre.map g) p σ' H') ⟨n, [], l, rfl, rfl, hn, hm, w1⟩ (fun i σ' H' hi => ?_) fun σ' H' => ?_
  · rintro ⟨ni, pre, l1, el, ep, hni, hm1, w2⟩
    have z : (0 : Int) + (i : Int) = ((i : Nat) : Int) := by omega
    rw [z]
    cases l1 with
    | nil =>
      rw [List.append_nil] at el
      subst el
      omega
    | cons x l2 =>
      obtain ⟨x', r1, l2', e1, h1, h2⟩ := many_succ hm1
      cases e1
      exact hb i ni x l2 pre σ' H' r1 el hni h1 w2 _ fun σ'' H'' n' hn' er w3 => ⟨n', pre ++ [x], l2, by rw [el]; simp, by simp [ep], hn', by rw [← er]; exact h2, w3⟩
  · rintro ⟨ni, pre, l1, el, ep, hni, hm1, w2⟩
    have hl1 : l1 = [] := by
      have := congrArg List.length el
      rw [List.length_append] at this
      exact List.length_eq_zero_iff.mp (by omega)
    subst hl1
    rw [List.append_nil] at el
    subst el
    obtain ⟨_, e2⟩ := many_zero hm1
    exact he ni σ' H' hni e2 w2
section
variable {P : Program} {w : World} {K : PySem.W.Frag} {mg : Str → Option Value} {base : Heap} {A : Ad} {f : Addr} {fd : FuncData} {ρ : List (Option Dat)} {b : List UInt8} {n d : Nat}
/-! ### plain -/
def spPlain (K : PySem.W.Frag) (A : Ad) : Sp := fun vs H Q _ => ∃ a q b n, vs = [.ref a] ∧ RqAt A.rq a q b n H ∧ n + 4 ≤ b.length ∧ n + 4 + RWire.numOf (seg b n 4) ≤ b.length ∧
  ∀ v H', Same (hid a H) (hid a H') → RqAt A.rq a q b (n + 4 + RWire.numOf (seg b n 4)) H' → Rp K (hid a H') v (.tup ((seg b (n + 4) (RWire.numOf (seg b n 4))).map fun c => .v (o8 c))) → Q v H'
abbrev s_Request_plain : Stmt := inClass (top 19) 2
abbrev N_Request_plain : List Str := ["self", "many"]
theorem sc_Request_plain : FnScope N_Request_plain ["self"] (defScope s_Request_plain) :=
  ⟨rfl, rfl, rfl, by decide +kernel, rfl, by decide +kernel, by decide +kernel⟩
theorem ok_plain (D : Dm K A.rq "plain" "Request.plain" s_Request_plain ["self"] f fd) (T : Txt K mg A) (g_Request_number : Mt P w K mg base CX0 1 A.rq "number" (spNum A)) : Mt P w K mg base CX0 2 A.rq "plain" (spPlain K A) := by
  refine D.mt' (D.fn.ok sc_Request_plain (fun vs H Q E h => ?_) (fun cdv _ outer s H vs Q E hr h => ⟨_, (pss_cons (ps_set (i := 1) sc_Request_plain.nd rfl (Or.inl rfl) (pe_mtX g_Request_number hr (by omega) pass0 (pv 0) (pa_cons pe_int pa_nil)))
    (pss_cons (ps_fldaugK K (pv 0) (pv 1) in_add)
    (pss_one (ps_ret (pe_callTy (call_tupGK K) (by rfl) T.b_tuple bt_tuple (pa_cons (pe_slice (sl_gK K) (pe_fldK K (pv 0) rfl) (po_some (pe_op op_minus (pe_fldK K (pv 0) rfl) (pv 1))) (po_some (pe_fldK K (pv 0) rfl))) pa_nil)))))), ?_⟩))
  · obtain ⟨a, q, b, n, rfl, _⟩ := h
    rfl
  · obtain ⟨a, q, b, n, rfl, p, h4, hm, kk⟩ := h
    have p0 := rst_start (K := K) N_Request_plain p .nil
    refine s_seq (r_meth (by decide +kernel) p0 ⟨a, q, b, n, 4, rfl, p, h4, by decide, fun H1 s1 p1 => ?_⟩)
    have p2 := (p0.to s1 p1).set (j := 1) (d := intD (RWire.numOf (seg b n 4) : Nat)) (.v _) (by decide)
    refine s_seq (r_at (k := RWire.numOf (seg b n 4)) (T := T.k_Request) (nT := T.n_Request_at) p2 (ev_var rfl) fun H2 s2 p3 => ?_)
    refine r_ret (d := .tup ((seg b (n + 4) (RWire.numOf (seg b n 4))).map fun c => .v (o8 c))) p3 ((ev_cb (ev_cons (EvN.toD (ev_slL (rf_o T rfl) (ev_oSome (ev_op (rf_a T rfl) (ev_var rfl) rv_minus)) (ev_oSome (rf_a T rfl)))) ev_nil) rc_tupL).to ?_) (Dat.stills_flats (oct_stills _)) fun v H3 s3 p4 r4 => kk v H3 ((s1.trans s2).trans (hid_mono s3)) p4 r4
    have e : ((n + 4 + RWire.numOf (seg b n 4) : Nat) : Int) - ((RWire.numOf (seg b n 4) : Nat) : Int) = ((n + 4 : Nat) : Int) := by omega
    rw [e, cut_octs b (n + 4) (n + 4 + RWire.numOf (seg b n 4)) (by omega) hm, Nat.add_sub_cancel_left]
/-! ### integers: never called -/
def spNot : Sp := fun _ _ _ _ => False
abbrev s_integers : Stmt := top 16
abbrev N_integers : List Str := ["rows", "number"]
theorem sc_integers : FnScope N_integers ["rows"] (defScope s_integers) :=
  ⟨rfl, rfl, rfl, by decide +kernel, rfl, by decide +kernel, by decide +kernel⟩
theorem ok_integers (D : Df K mg "integers" s_integers ["rows"] f fd) : Cl P w K mg base CX0 1 "integers" spNot := by
  refine D.cl (D.fn.ok sc_integers (fun vs H Q E h => h.elim) (fun cdv _ outer s H vs Q E hr h => h.elim))
/-! ### value -/
def spVal (K : PySem.W.Frag) (A : Ad) (d : Nat) : Sp := fun vs H Q _ => ∃ a q b n j v rest, vs = [.ref a] ∧ RqAt A.rq a q b n H ∧ n ≤ b.length ∧ b.length ≤ 1000000 ∧ RWire.readF j (b.drop n) = some (v, rest) ∧ vok d v = true ∧
  ∀ x n' H', Same (hid a H) (hid a H') → RqAt A.rq a q b n' H' → n' ≤ b.length → rest = b.drop n' → Rp K (hid a H') x (plD (Rust.taken v)) → Q x H'
abbrev s_Request_value : Stmt := inClass (top 19) 3
abbrev N_Request_value : List Str := ["self", "kind", "found", "rows", "turn", "name"]
theorem sc_Request_value : FnScope N_Request_value ["self"] (defScope s_Request_value) :=
  ⟨rfl, rfl, rfl, by decide +kernel, rfl, by decide +kernel, by decide +kernel⟩
theorem ok_value (D : Dm K A.rq "value" "Request.value" s_Request_value ["self"] f fd) (T : Txt K mg A) (g_Request_number : Mt P w K mg base CX0 1 A.rq "number" (spNum A)) (g_Request_plain : Mt P w K mg base CX0 2 A.rq "plain" (spPlain K A))
    (g_integer : Cl P w K mg base CX0 1 "integer" (PureSp K R_integer)) (g_integers : Cl P w K mg base CX0 1 "integers" spNot) (g_Request_value : Mt P w K mg base CX0 (d + 3) A.rq "value" (spVal K A d)) : Mt P w K mg base CX0 (d + 3 + 1) A.rq "value" (spVal K A (d + 1)) := by
  refine D.mt' (D.fn.ok sc_Request_value (fun vs H Q E h => ?_) (fun cdv _ outer s H vs Q E hr h => ⟨_, (pss_cons (ps_set (i := 1) sc_Request_value.nd rfl (Or.inl rfl) (pe_mtX g_Request_number hr (by omega) pass0 (pv 0) (pa_cons pe_int pa_nil)))
    (pss_cons (ps_if (pt_cmpR (op_eqGK K hr.units) (pv 1) (C8.pe_gc rfl T.c_INTEGER) (nomark _)) (pss_cons (ps_set (i := 2) sc_Request_value.nd rfl (Or.inl rfl) (pe_mtX g_Request_number hr (by omega) pass0 (pv 0) (pa_cons pe_int pa_nil)))
    (pss_one (ps_ret (pe_cl g_integer hr (by omega) pass0 (by rfl) (pa_cons (pe_ifExp (pt_cmpR op_geI (pv 2) (C8.pe_gc rfl T.c_HALF) (nomark _)) (pe_op op_minus (pv 2) (C8.pe_gc rfl T.c_WORD)) (pv 2)) pa_nil))))) pss_nil)
    (pss_cons (ps_if (pt_cmpR (op_eqGK K hr.units) (pv 1) (C8.pe_gc rfl T.c_TEXT) (nomark _)) (pss_one (ps_ret (pe_tup (pa_cons (C8.pe_gc rfl T.c_TEXT) (pa_cons (pe_mt0X g_Request_plain hr (by omega) pass0 (pv 0)) pa_nil))))) pss_nil)
    (pss_cons (ps_if (pt_cmpR op_ltI (pv 1) (C8.pe_gc rfl T.c_INTEGER) (nomark _)) (pss_one (ps_ret (pe_tup (pa_cons (pv 1) pa_nil)))) pss_nil)
    (pss_cons (ps_if (pt_cmpR (op_eqGK K hr.units) (pv 1) (C8.pe_gc rfl T.c_OCTETS) (nomark _)) (pss_one (ps_ret (pe_cl g_integers hr (by omega) pass0 (by rfl) (pa_cons (pe_mt0X g_Request_plain hr (by omega) pass0 (pv 0)) pa_nil)))) pss_nil)
    (pss_cons (ps_set (i := 3) sc_Request_value.nd rfl (Or.inl rfl) (pe_lst pa_nil))
    (pss_cons (ps_for PassesOwn.never rfl (pi_range1 rfl T.b_range (pa_cons (pe_mtX g_Request_number hr (by omega) pass0 (pv 0) (pa_cons pe_int pa_nil)) pa_nil)) (pg_name (i := 4) sc_Request_value.nd rfl (Or.inl rfl)) (pss_one (ps_if (pt_cmpR (op_eqGK K hr.units) (pv 1) (C8.pe_gc rfl T.c_RECORD) (nomark _)) (pss_cons (ps_set (i := 5) sc_Request_value.nd rfl (Or.inl rfl) (pe_mt0X g_Request_plain hr (by omega) pass0 (pv 0)))
    (pss_one (ps_expr (pe_bmK K PySem.F.plainAttrs_list PySem.F.slot_list_append PySem.F.type_list_append mt_append (pv 3) (pa_cons (pe_tup (pa_cons (pv 5) (pa_cons (pe_mt0X g_Request_value hr (by omega) pass0 (pv 0)) pa_nil))) pa_nil))))) (pss_one (ps_expr (pe_bmK K PySem.F.plainAttrs_list PySem.F.slot_list_append PySem.F.type_list_append mt_append (pv 3) (pa_cons (pe_mt0X g_Request_value hr (by omega) pass0 (pv 0)) pa_nil)))))))
    (pss_one (ps_ret (pe_tup (pa_cons (pv 1) (pa_cons (pe_callTy (call_tupGK K) (by rfl) T.b_tuple bt_tuple (pa_cons (pv 3) pa_nil)) pa_nil)))))))))))), ?_⟩))
  · obtain ⟨a, q, b, n, j, v, rest, rfl, _⟩ := h
    rfl
  · obtain ⟨a, q, b, n, j, v, rest, rfl, p, hn, hb, hrd, hok, kk⟩ := h
    have p0 := rst_start (K := K) N_Request_value p .nil
    obtain ⟨j', c, r', rfl, hr', hk⟩ := readF_inv hrd
    have hlt : n < b.length := by
      have := congrArg List.length hr'
      simp at this
      omega
    rw [List.drop_eq_getElem_cons hlt] at hr'
    have hc := (List.cons.inj hr').1
    have hr2 := (List.cons.inj hr').2
    subst hr2
    have hnum : RWire.numOf (seg b n 1) = c.toNat := by
      rw [numOf_at hlt, hc]
      simp [seg, RWire.numOf]
    refine s_seq (r_meth (by decide +kernel) p0 ⟨a, q, b, n, 1, rfl, p, hlt, by decide, fun H1 s1 q1 => ?_⟩)
    rw [hnum]
    have p1 := (p0.to s1 q1).set (j := 1) (d := intD (c.toNat : Nat)) (.v _) (by decide)
    generalize hcn : c.toNat = m at hk p1 ⊢
    refine s_seq (r_if p1 (ev_test (ev_op (ev_var rfl) ev_c rv_eqI)) (fun hb4 H2 s2 p2 => ?_) fun hb4 H2 s2 p2 => ?_)
    · have hm4 : m = 4 := by
        have := of_decide_eq_true hb4
        omega
      subst hm4
      rcases kind_inv hk with ⟨h, _⟩ | ⟨_, h⟩ | ⟨h, _⟩ | ⟨h, _⟩ | ⟨h, _⟩ | h
      · omega
      · obtain ⟨mm, e1, e2⟩ := int_inv h
        subst e2
        obtain ⟨l1, l2, l3⟩ := num_eq hlt e1
        refine s_seq (r_meth (by decide +kernel) p2 ⟨a, q, b, n + 1, 8, rfl, p2.at_, l1, by decide, fun H3 s3 q3 => ?_⟩)
        rw [← l2]
        have p3 : Rst K A.rq a q b (n + 1 + 8) [none, some (intD (4 : Nat)), some (intD (mm : Nat)), none, none, none] _ H3 := (p2.to s3 q3).set (j := 2) (d := intD (mm : Nat)) (.v _) (by decide)
        refine asg_nx ?_
        dsimp only
        refine r_retS (d := .tup [.v (.int 4), .v (.int (RWire.intOf mm))]) p3 (ev_call (R := R_integer) (ev_cons (ev_if (ev_test (ev_op (ev_var (i := 2) rfl) ev_c rv_ge)) (fun hb => ?_) fun hb => ?_) ev_nil) ⟨_, rfl, rfl⟩) rfl fun x H4 s4 q4 r4 => ?_
        · have hge := of_decide_eq_true hb
          refine (ev_op (ev_var rfl) ev_c rv_minus).to ?_
          unfold RWire.intOf RWire.wordMost
          rw [if_neg (by simp; omega)]
          rfl
        · have hge := of_decide_eq_false hb
          refine (ev_var rfl).to ?_
          unfold RWire.intOf
          rw [if_pos (by simp; omega)]
          rfl
        · exact kk x (n + 1 + 8) H4 (((s1.trans (hid_mono s2)).trans s3).trans (hid_mono s4)) q4 l1 l3 r4
      · omega
      · omega
      · omega
      · rw [h] at hok
        cases hok
    have hm4 : m ≠ 4 := fun e => by
      have := of_decide_eq_false hb4
      omega
    refine s_seq (r_if p2 (ev_test (ev_op (ev_var rfl) ev_c rv_eqI)) (fun hb6 H3 s3 p3 => ?_) fun hb6 H3 s3 p3 => ?_)
    · have hm6 : m = 6 := by
        have := of_decide_eq_true hb6
        omega
      subst hm6
      rcases kind_inv hk with ⟨h, _⟩ | ⟨h, _⟩ | ⟨_, h⟩ | ⟨h, _⟩ | ⟨h, _⟩ | h
      · omega
      · omega
      · obtain ⟨u, e1, e2⟩ := words_inv h
        subst e2
        obtain ⟨l1, l2, l3⟩ := text_eq hlt e1
        refine r_meth (by decide +kernel) p3 ⟨a, q, b, n + 1, rfl, p3.at_, by omega, l1, fun x H4 s4 q4 r4 => ⟨by show 2 ≤ sizeLine; decide, fun y hy => ?_⟩⟩
        have sn : Same H4 (upd H4 y (.tup [.int 6, x])) := same_new hy
        rw [← l2] at r4
        refine kk (.ref y) _ _ (((((s1.trans (hid_mono s2)).trans (hid_mono s3)).trans s4)).trans (hid_mono sn)) (q4.grow sn) l1 l3 ?_
        show Rp K _ _ (.tup [.v (.int 6), uD (u.map Rust.unitOf)])
        rw [uD_unit]
        refine Rp.stayF (q4.grow sn).st (.tup (SqT.of upd_same) (.cons (.v _) (.cons (r4.mono (hid_same.trans sn)) .nil))) ?_
        simp only [Dat.flat, Dat.flats, Dat.stills_flats (oct_stills u), Bool.and_self]
      · omega
      · omega
      · rw [h] at hok
        cases hok
    have hm6 : m ≠ 6 := fun e => by
      have := of_decide_eq_false hb6
      omega
    have s03 := (s1.trans (hid_mono s2)).trans (hid_mono s3)
    refine s_seq (r_if p3 (ev_test (ev_op (ev_var rfl) ev_c rv_lt)) (fun hb3 H4 s4 p4 => ?_) fun hb3 H4 s4 p4 => ?_)
    · have hm3 : m < 4 := by
        have := of_decide_eq_true hb3
        omega
      rcases kind_inv hk with ⟨_, h1, h2⟩ | ⟨h, _⟩ | ⟨h, _⟩ | ⟨h, _⟩ | ⟨h, _⟩ | h
      · refine r_ret p4 (ev_tup (ev_cons (ev_var rfl) ev_nil)) rfl fun x H5 s5 q5 r5 => kk x (n + 1) H5 ((s03.trans (hid_mono s4)).trans (hid_mono s5)) q5 hlt h1 ?_
        rw [h2]
        exact r5
      · omega
      · omega
      · omega
      · omega
      · rw [h] at hok
        cases hok
    have hm3 : ¬ m < 4 := fun e => by
      have := of_decide_eq_false hb3
      omega
    have s04 := s03.trans (hid_mono s4)
    have hm78 : (m = 7 ∧ RWire.readList (RWire.readF j') (b.drop (n + 1)) = some (v, rest)) ∨ (m = 8 ∧ RWire.readRecord (RWire.readF j') (b.drop (n + 1)) = some (v, rest)) := by
      rcases kind_inv hk with ⟨h, _⟩ | ⟨h, _⟩ | ⟨h, _⟩ | h | h | h
      · omega
      · omega
      · omega
      · exact .inl h
      · exact .inr h
      · rw [h] at hok
        cases hok
    refine s_seq (r_if p4 (ev_test (ev_op (ev_var rfl) ev_c rv_eqI)) (fun hb10 H5 s5 p5 => ?_) fun hb10 H5 s5 p5 => ?_)
    · have hm10 := of_decide_eq_true hb10
      rcases hm78 with ⟨h, _⟩ | ⟨h, _⟩ <;> omega
    have s05 := s04.trans (hid_mono s5)
    -- rows = []
    refine s_seq ⟨by show 0 ≤ sizeLine; decide, fun y hy => ?_⟩
    refine asg_nx ?_
    dsimp only
    have sn : Same H5 (upd H5 y (.lst [])) := same_new hy
    have hqy : q ≠ y := ne_of_none p5.at_.lst hy
    have hya : y ≠ a := fun e => by
      obtain ⟨dx, hi⟩ := p5.at_.ins
      rw [e, hi] at hy
      cases hy
    have hhy : (hid a H5) y = none := by rw [hid_ne hya]; exact hy
    have w0 : Wst K A.rq a q b (n + 1) H5 3 [none, some (intD (m : Nat)), none, none, none, none] [] y _ (upd H5 y (.lst [])) :=
      ⟨p5.at_.grow sn, Acc.start hhy (hid_mono sn) (by rw [hid_ne hya]; exact upd_same) .nil rfl p5.env (by simp [L2.start, N_Request_value]) (by simp [N_Request_value]), by rw [List.getElem?_set_ne (by decide)]; exact p5.self, hqy⟩
    have key : ∀ (σ' : L2.St) (n' : Nat) (H' : Hp) (ds : List Dat), n' ≤ b.length → rest = b.drop n' → Wst K A.rq a q b n' H5 3 [none, some (intD (m : Nat)), none, none, none, none] ds y σ' H' → plD (Rust.taken v) = .tup [.v (.int (m : Nat)), .tup ds] →
        tRet (tTup (tCons (tVar 1) (tCons (tCB (rTupOf K) (tCons (tVar 3) tNil)) tNil))) { nx := fun _ H' => Q .non H', rt := Q } σ' H' := by
      intro σ' n' H' ds hn' er w1 ep
      refine (ev_tup (ev_cons (ev_var (i := 1) rfl) (ev_cons (ev_cb (ev_cons (ev_var (i := 3) rfl) ev_nil) rc_tupL) ev_nil))) σ' H' w1.all _ fun x H7 s7 r7 => ?_
      have q7 := w1.at_.grow s7
      refine kk x n' H7 ((s05.trans (w1.acc.same.trans hid_same)).trans (hid_mono s7)) q7 hn' er ?_
      rw [ep]
      refine r7.stayF q7.st ?_
      simp only [Dat.flat, Dat.flats, Dat.stills_flats w1.acc.still, intD, Bool.and_self]
    rcases hm78 with ⟨hm7, h⟩ | ⟨hm8, h⟩
    · obtain ⟨mm, r1, l, e1, e2, e3⟩ := list_inv h
      subst e3
      obtain ⟨l1, l2, l3⟩ := num_eq hlt e1
      obtain ⟨ml1, ml2⟩ := many_len (fun r x r1 h => readF_lt (d := d) h) e2
      rw [l3] at e2 ml2
      rw [List.length_drop] at ml2
      have hall : ∀ x ∈ l, vok d x = true := by simpa [vok] using hok
      refine s_seq (val_loop (K := K) (C := A.rq) (a := a) (q := q) (b := b) (n := n + 1 + 4) (H0 := H5) (p := y) (ρ := [none, some (intD (m : Nat)), none, none, none, none]) (fun v => plD (Rust.taken v)) (l := l) (rest := rest) (by omega) l1 (by rw [ml1]; exact e2) (fun R hR => ?_) (fun i ni x l2' pre σ' H' r1' el hni hf w1 D' hD => ?_) fun n' σ' H' hn' er w1 => ?_)
      · refine w_meth (by decide +kernel) w0 ⟨a, q, b, n + 1, 4, rfl, w0.at_, l1, by decide, fun H7 s7 q7 => ?_⟩
        have := hR H7 (w0.to s7 q7)
        rw [ml1, l2] at this
        exact this
      · have w2 := (w1.set (j := 4) (d := intD (i : Nat)) (.v _) rfl (by decide) (by decide))
        refine w_if w2 (ev_test (ev_op (ev_var (i := 1) rfl) ev_c rv_eqI)) (fun hb8 _ _ _ => ?_) fun hb8 H8 s8 w3 => ?_
        · have := of_decide_eq_true hb8
          omega
        · obtain ⟨vs, hv, _⟩ := w3.lst
          refine ⟨_, w3.acc.slot, .inl ⟨rfl, _, SqL.of hv⟩, w_meth (by decide +kernel) w3 ⟨a, q, b, ni, j', x, r1', rfl, w3.at_, hni, hb, hf, hall x (by rw [el]; simp), fun z n' H9 s9 q9 hn' er r9 => ?_⟩⟩
          have w4 := w3.to s9 q9
          obtain ⟨vs', hv', _⟩ := w4.lst
          refine ⟨y, vs', z, rfl, rfl, hv', ?_, ?_⟩
          · rw [w4.len hv', List.length_map]
            have := congrArg List.length el
            rw [List.length_append, List.length_cons] at this
            exact Nat.lt_of_lt_of_le (show _ < 1000001 by omega) (by decide)
          · refine hD _ _ n' hn' er ?_
            have w5 := ((w4.app r9 (plD_still _) hv').forget (j := 4) (by decide))
            rw [List.map_append]
            exact w5
      · refine key σ' n' H' _ hn' er w1 ?_
        subst hm7
        show Dat.tup [.v (.int 7), .tup (plDs (Rust.takenAll l))] = _
        rw [plDs_map, takenAll_map, List.map_map]
        rfl
    · obtain ⟨mm, r1, l, e1, e2, e3⟩ := record_inv h
      subst e3
      obtain ⟨l1, l2, l3⟩ := num_eq hlt e1
      obtain ⟨ml1, ml2⟩ := many_len (fun r x r1 h => by
        obtain ⟨r2, q1, q2⟩ := entry_inv h
        have := readText_le q1
        have := readF_lt (d := d) q2
        omega) e2
      rw [l3] at e2 ml2
      rw [List.length_drop] at ml2
      have hall : ∀ x ∈ l, vok d x.2 = true := by simpa [vok] using hok
      refine s_seq (val_loop (K := K) (C := A.rq) (a := a) (q := q) (b := b) (n := n + 1 + 4) (H0 := H5) (p := y) (ρ := [none, some (intD (m : Nat)), none, none, none, none]) (fun e : RWire.Text × RWire.Value => .tup [uD (e.1.map Rust.unitOf), plD (Rust.taken e.2)]) (l := l) (rest := rest) (by omega) l1 (by rw [ml1]; exact e2) (fun R hR => ?_) (fun i ni x l2' pre σ' H' r1' el hni hf w1 D' hD => ?_) fun n' σ' H' hn' er w1 => ?_)
      · refine w_meth (by decide +kernel) w0 ⟨a, q, b, n + 1, 4, rfl, w0.at_, l1, by decide, fun H7 s7 q7 => ?_⟩
        have := hR H7 (w0.to s7 q7)
        rw [ml1, l2] at this
        exact this
      · have w2 := (w1.set (j := 4) (d := intD (i : Nat)) (.v _) rfl (by decide) (by decide))
        refine w_if w2 (ev_test (ev_op (ev_var (i := 1) rfl) ev_c rv_eqI)) (fun hb8 H8 s8 w3 => ?_) fun hb8 _ _ _ => ?_
        · obtain ⟨r2, t1, t2⟩ := entry_inv hf
          obtain ⟨g1, g2, g3⟩ := text_eq hni t1
          refine s_seq (w_meth (by decide +kernel) w3 ⟨a, q, b, ni, rfl, w3.at_, by omega, g1, fun v9 H9 s9 q9 r9 => ?_⟩)
          rw [← g2] at r9
          have w4 := (w3.to s9 q9).set (j := 5) (d := .tup (x.1.map fun c => .v (o8 c))) r9 (oct_stills _) (by decide) (by decide)
          obtain ⟨vs, hv, _⟩ := w4.lst
          obtain ⟨vn, n1, n2⟩ := w4.acc.env.get (i := 5) rfl
          rw [g3] at t2
          refine ⟨_, w4.acc.slot, .inl ⟨rfl, _, SqL.of hv⟩, _, n1, w_meth (by decide +kernel) w4 ⟨a, q, b, _, j', x.2, r1', rfl, w4.at_, g1, hb, t2, hall x (by rw [el]; simp), fun z n' H10 s10 q10 hn' er r10 => ⟨by show 2 ≤ sizeLine; decide, fun T hT => ?_⟩⟩⟩
          have sT : Same H10 (upd H10 T (.tup [vn, z])) := same_new hT
          have w5 := (w4.to s10 q10).grow sT
          obtain ⟨vs', hv', _⟩ := w5.lst
          refine ⟨y, vs', .ref T, rfl, rfl, hv', ?_, ?_⟩
          · rw [w5.len hv', List.length_map]
            have := congrArg List.length el
            rw [List.length_append, List.length_cons] at this
            exact Nat.lt_of_lt_of_le (show _ < 1000001 by omega) (by decide)
          · refine hD _ _ n' hn' er ?_
            have hTa : T ≠ a := fun e => by
              obtain ⟨dx, hi⟩ := q10.ins
              rw [e, hi] at hT
              cases hT
            have rT : Rp K (hid a (upd H10 T (.tup [vn, z]))) (.ref T) (.tup [uD (x.1.map Rust.unitOf), plD (Rust.taken x.2)]) := by
              refine .tup (SqT.of (by rw [hid_ne hTa]; exact upd_same)) (.cons ?_ (.cons (r10.mono (hid_mono sT)) .nil))
              rw [uD_unit]
              exact (n2.mono hid_same).mono (s10.trans (hid_mono sT))
            have w6 := (((w5.app rT (by simp [Dat.still, Dat.stills, uD_still, plD_still]) hv').forget (j := 5) (by decide)).forget (j := 4) (by decide))
            rw [List.map_append]
            exact w6
        · have := of_decide_eq_false hb8
          omega
      · refine key σ' n' H' _ hn' er w1 ?_
        subst hm8
        show Dat.tup [.v (.int 8), .tup (plFs (Rust.takenFields l))] = _
        rw [plFs_map, takenFields_map, List.map_map]
        rfl
end
end Tg
end

section
set_option Elab.async false
set_option linter.all false
set_option maxRecDepth 100000
set_option maxHeartbeats 4000000
/-! The reader of requests: made; the whole request. -/
namespace Tg
open PySem PySem.Spec PyProof.Rows L2
open R7292f
/-- the object and a new list that no name holds -/
structure Lst (K : PySem.W.Frag) (C a q : Addr) (b : List UInt8) (n : Nat) (H0 : Hp) (ds : List Dat) (p : Addr) (H : Hp) : Prop where
  at_ : RqAt C a q b n H
  same : Same (hid a H0) (hid p (hid a H))
  ne : p ≠ a
  qn : q ≠ p
  lst : ∃ vs, H p = some (.lst vs) ∧ RpL K (hid a H) vs ds
  still : Dat.stills ds = true
section
variable {K : PySem.W.Frag} {C a q : Addr} {b : List UInt8} {n r : Nat} {H0 : Hp} {H H' : Hp} {d : Dat} {ds : List Dat} {p : Addr}
theorem Lst.to {n' : Nat} (w : Lst K C a q b n H0 ds p H) (s : Same (hid a H) (hid a H')) (x : RqAt C a q b n' H') : Lst K C a q b n' H0 ds p H' := by
  obtain ⟨vs, h, l⟩ := w.lst
  have h' := s p _ (by rw [hid_ne w.ne]; exact h)
  rw [hid_ne w.ne] at h'
  exact ⟨x, w.same.trans (hid_mono s), w.ne, w.qn, ⟨vs, h', l.mono s⟩, w.still⟩
theorem Lst.app {v : V} (w : Lst K C a q b n H0 ds p H) (x : Rp K (hid a H) v d) (st : d.still = true) {vs : List V} (h : H p = some (.lst vs)) : Lst K C a q b n H0 (ds ++ [d]) p (upd H p (.lst (vs ++ [v]))) := by
  obtain ⟨vs', h', l⟩ := w.lst
  rw [h] at h'
  cases h'
  have hp : (hid a H) p = some (.lst vs) := by rw [hid_ne w.ne]; exact h
  obtain ⟨dx, hi⟩ := w.at_.ins
  have st2 := stills_app w.still (es := [d]) (by simp [Dat.stills, st])
  refine ⟨⟨⟨dx, by rw [upd_ne (Ne.symm w.ne)]; exact hi⟩, by rw [upd_ne w.qn]; exact w.at_.lst⟩, ?_, w.ne, w.qn, ⟨_, upd_same, ?_⟩, st2⟩
  · rw [hid_upd_ne w.ne, hid_upd]
    exact w.same
  · rw [hid_upd_ne w.ne]
    exact (l.snoc x).stay (SameT.lst hp) st2
end
section
variable {P : Program} {w : World} {K : PySem.W.Frag} {mg : Str → Option Value} {base : Heap} {A : Ad} {f : Addr} {fd : FuncData} {ρ : List (Option Dat)} {b : List UInt8} {n d k : Nat}
def R_Request (ds : List Dat) (r : Except Err (List (Str × Dat))) : Prop := ∃ b, ds = [octD b] ∧ r = .ok (rG b 0)
abbrev s_Request_init : Stmt := inClass (top 19) 0
abbrev N_Request_init : List Str := ["self", "octets"]
theorem sc_Request_init : FnScope N_Request_init ["self", "octets"] (defScope s_Request_init) :=
  ⟨rfl, rfl, rfl, by decide +kernel, rfl, by decide +kernel, by decide +kernel⟩
theorem octD_flat (b : List UInt8) : (octD b).flat = true := Dat.stills_flats (oct_stills b)
theorem ok_Request (D : Di K mg "Request" A.rq "Request.__init__" s_Request_init ["self", "octets"] f fd) (T : Txt K mg A) : Mc P w K mg base CX0 1 "Request" A.rq (MkSp K A.rf A.rq R_Request) := by
  refine D.mc (D.fn.ok sc_Request_init (fun vs H Q E h => ?_) (fun cdv _ outer s H vs Q E hr h => ⟨_, (pss_cons (ps_fldK K (pv 0) (pv 1) rfl)
    (pss_one (ps_fldK K (pv 0) pe_int rfl))), ?_⟩))
  · obtain ⟨a, dx, vs', ds, r, rfl, _, r1, ⟨b, rfl, _⟩, _⟩ := h
    have := r1.length
    simp [this]
  · obtain ⟨a, dx, vs', ds, r, rfl, ha, r1, ⟨b, rfl, hr'⟩, kok, kerr⟩ := h
    have b0 := bst_start N_Request_init ha r1
    refine s_seq (b_fld b0 T.k_Request T.n_Request_octets (ev_var rfl) (octD_flat b) rfl (by simp) fun H1 s1 b1 => ?_)
    refine b_fld b1 T.k_Request T.n_Request_at ev_c rfl (rlkP (by decide +kernel)) (by simp) fun H2 s2 b2 => ?_
    obtain ⟨dx', fs, h1, h2⟩ := b2.at_
    exact kok _ hr' H2 dx' fs (s1.trans s2) h1 h2
theorem o8_rpl {H : Hp} : ∀ {b : List UInt8} {xs : List V}, RpL K H xs (b.map fun c => .v (o8 c)) → xs = b.map o8
  | [], _, .nil => rfl
  | c :: r, _, .cons h1 h2 => by rw [h1.v_eq, o8_rpl h2]; rfl
theorem rq_of {a dx : Addr} {fs : List (Str × V)} {H : Hp} (h : H a = some (.ins A.rq dx fs)) (r : RpF K (hid a H) fs (rG b n)) : ∃ q, RqAt A.rq a q b n H := by
  cases r with
  | cons h1 r =>
    cases r with
    | cons h2 r =>
      cases r
      have e2 := h2.v_eq
      subst e2
      cases h1 with
      | lst hq rl =>
        rename_i q xs
        have e := o8_rpl rl
        subst e
        exact ⟨q, ⟨dx, h⟩, hid_same _ _ hq⟩
theorem yes_if {σ : L2.St} {H : Hp} {A B : Hp → Prop} (h : A H) : tYes σ H fun b H3 => if b = true then A H3 else B H3 := by
  show (if true = true then A H else B H)
  rw [if_pos rfl]
  exact h
/-! ### whole -/
def spWhole (K : PySem.W.Frag) (A : Ad) : Sp := fun vs H Q _ => ∃ a q b dr l, vs = [.ref a] ∧ RqAt A.rq a q b 0 H ∧ b.length ≤ 1000000 ∧ RWire.readRequest b = some (dr, l) ∧ l.all (vok 9) = true ∧
  ∀ t p vs H', H p = none → Same (hid a H) (hid a H') → H' p = some (.lst vs) → RpL K (hid a H') vs (l.map fun v => plD (Rust.taken v)) → SqT K H' t [.int (dr : Nat), .ref p] → Q (.ref t) H'
abbrev s_Request_whole : Stmt := inClass (top 19) 4
abbrev N_Request_whole : List Str := ["self", "door", "turn"]
theorem sc_Request_whole : FnScope N_Request_whole ["self"] (defScope s_Request_whole) :=
  ⟨rfl, rfl, rfl, by decide +kernel, rfl, by decide +kernel, by decide +kernel⟩
theorem ok_whole (D : Dm K A.rq "whole" "Request.whole" s_Request_whole ["self"] f fd) (T : Txt K mg A) (g_Request_number : Mt P w K mg base CX0 1 A.rq "number" (spNum A)) (g_Request_value : Mt P w K mg base CX0 (9 + 3) A.rq "value" (spVal K A 9)) : Mt P w K mg base CX0 13 A.rq "whole" (spWhole K A) := by
  refine D.mt' (D.fn.ok sc_Request_whole (fun vs H Q E h => ?_) (fun cdv _ outer s H vs Q E hr h => ⟨_, (pss_cons (ps_set (i := 1) sc_Request_whole.nd rfl (Or.inl rfl) (pe_mtX g_Request_number hr (by omega) pass0 (pv 0) (pa_cons pe_int pa_nil)))
    (pss_one (ps_ret (pe_tup (pa_cons (pv 1) (pa_cons (pe_lc (own := [("turn", 2)]) (by rfl) sc_Request_whole.nd (pi_range1 rfl T.b_range (pa_cons (pe_mtX g_Request_number hr (by omega) pass0 (pv 0) (pa_cons pe_int pa_nil)) pa_nil)) (blkOk_by (own := [("turn", 2)]) (N := N_Request_whole) (sc := defScope s_Request_whole) (by decide +kernel)) (fun _ _ _ _ _ => (pg_name (i := 2) sc_Request_whole.nd rfl (Or.inl rfl))) (fun _ _ _ _ _ => pts_nil) (fun _ _ _ _ _ => (pe_mt0X g_Request_value hr (by omega) pass0 (pv 0)))) pa_nil)))))), ?_⟩))
  · obtain ⟨a, q, b, dr, l, rfl, _⟩ := h
    rfl
  · obtain ⟨a, q, b, dr, l, rfl, p, hb, hrd, hok, kk⟩ := h
    have p0 := rst_start (K := K) N_Request_whole p .nil
    have hsh : ∃ c0 c1 c2 r, b = c0 :: c1 :: c2 :: r ∧ dr = c0.toNat + 256 * c1.toNat ∧ RWire.readMany (RWire.readF RWire.nestMost) c2.toNat r = some (l, []) := by
      unfold RWire.readRequest at hrd
      split at hrd
      · rename_i c0 c1 c2 r
        cases hra : RWire.readArgs c2.toNat r with
        | none => rw [hra] at hrd; cases hrd
        | some l' =>
          rw [hra] at hrd
          cases hrd
          refine ⟨c0, c1, c2, r, rfl, rfl, ?_⟩
          unfold RWire.readArgs at hra
          split at hra
          · rename_i l2 hm
            cases hra
            exact hm
          · cases hra
      · cases hrd
    obtain ⟨c0, c1, c2, r, rfl, hdr, hm⟩ := hsh
    have hn0 : RWire.numOf (seg (c0 :: c1 :: c2 :: r) 0 2) = dr := by simp [seg, RWire.numOf, hdr]
    have hn2 : RWire.numOf (seg (c0 :: c1 :: c2 :: r) 2 1) = c2.toNat := by simp [seg, RWire.numOf]
    have hl3 : (c0 :: c1 :: c2 :: r).length = r.length + 3 := rfl
    refine s_seq (r_meth (by decide +kernel) p0 ⟨a, q, _, 0, 2, rfl, p, by rw [hl3]; omega, by decide, fun H1 s1 q1 => ?_⟩)
    rw [hn0]
    refine asg_nx ?_
    dsimp only
    have p1 := (p0.to s1 q1).set (j := 1) (d := intD (dr : Nat)) (.v _) (by decide)
    obtain ⟨vd, d1, d2⟩ := p1.env.get (i := 1) rfl
    have ed := d2.v_eq
    subst ed
    obtain ⟨ml1, ml2⟩ := many_len (fun r x r1 h => readF_lt (d := 9) h) hm
    refine ⟨_, d1, ?_⟩
    refine r_meth (by decide +kernel) p1 ⟨a, q, _, 2, 1, rfl, q1, by rw [hl3]; omega, by decide, fun H2 s2 q2 => ?_⟩
    rw [hn2]
    refine ⟨_, rfl, by omega, by have := c2.toNat_lt; omega, fun Dl hD => ?_⟩
    have e0 : ((c2.toNat : Nat) : Int).toNat = c2.toNat := by omega
    rw [e0, ← ml1]
    have hDa : Dl ≠ a := fun e => by
      obtain ⟨dx, hi⟩ := q2.ins
      rw [e, hi] at hD
      cases hD
    have sn : Same H2 (upd H2 Dl (.lst [])) := same_new hD
    have hs0 : Same (hid a H2) (hid Dl (hid a (upd H2 Dl (.lst [])))) := by
      rw [hid_upd_ne hDa, hid_upd]
      intro x o e
      have hx : x ≠ Dl := fun z => by
        rw [z, hid_ne hDa, hD] at e
        cases e
      rw [hid_ne hx]
      exact e
    have h0 : Lst K A.rq a q (c0 :: c1 :: c2 :: r) 3 H2 [] Dl (upd H2 Dl (.lst [])) :=
      ⟨q2.grow sn, hs0, hDa, ne_of_none q2.lst hD, ⟨[], upd_same, .nil⟩, rfl⟩
    refine lc_range (lo := 0) (n := l.length) (fun i H' => ∃ ni pre l1, l = pre ++ l1 ∧ pre.length = i ∧ ni ≤ (c0 :: c1 :: c2 :: r).length ∧ RWire.readMany (RWire.readF RWire.nestMost) l1.length ((c0 :: c1 :: c2 :: r).drop ni) = some (l1, []) ∧ Lst K A.rq a q (c0 :: c1 :: c2 :: r) ni H2 (pre.map fun v => plD (Rust.taken v)) Dl H')
      ⟨3, [], l, rfl, rfl, by rw [hl3]; omega, by rw [ml1]; exact hm, h0⟩ (fun i H' hi => ?_) fun H' => ?_
    · rintro ⟨ni, pre, l1, el, ep, hni, hm1, w1⟩
      refine ⟨by simp [wipe], ?_⟩
      refine yes_if ?_
      cases l1 with
      | nil =>
        rw [List.append_nil] at el
        subst el
        omega
      | cons x l2 =>
        obtain ⟨x', r1, l2', e1, h1, h2⟩ := many_succ hm1
        cases e1
        obtain ⟨dx, hi1⟩ := w1.at_.ins
        have hx : vok 9 x = true := by
          have := List.all_eq_true.mp hok
          exact this x (by rw [el]; simp)
        refine ⟨_, p1.self, a, dx, _, rfl, hi1, (rlkP (by decide +kernel)).trans (rlkP (by decide +kernel)), a, q, _, ni, _, x, r1, rfl, w1.at_, hni, hb, h1, hx, fun y n' H3 s3 q3 hn' er r3 => ?_⟩
        have w2 := w1.to s3 q3
        obtain ⟨vs, hv, rv⟩ := w2.lst
        refine ⟨vs, hv, ?_, n', pre ++ [x], l2, by rw [el]; simp, by simp [ep], hn', by rw [← er]; exact h2, ?_⟩
        · rw [rv.length, List.length_map]
          have := congrArg List.length el
          rw [List.length_append, List.length_cons] at this
          have := c2.toNat_lt
          exact Nat.lt_of_lt_of_le (show _ < 1000001 by omega) (by decide)
        · rw [List.map_append]
          exact w2.app r3 (plD_still _) hv
    · rintro ⟨ni, pre, l1, el, ep, hni, hm1, w1⟩
      have hl1 : l1 = [] := by
        have := congrArg List.length el
        rw [List.length_append] at this
        exact List.length_eq_zero_iff.mp (by omega)
      subst hl1
      rw [List.append_nil] at el
      subst el
      refine ⟨by show 2 ≤ sizeLine; decide, fun t ht => ?_⟩
      obtain ⟨vs, hv, rv⟩ := w1.lst
      have st : Same H' (upd H' t (.tup [.int (dr : Nat), .ref Dl])) := same_new ht
      have hH : H Dl = none := by
        cases hc : H Dl with
        | none => rfl
        | some u =>
          have := (s1.trans s2) Dl u (by rw [hid_ne hDa]; exact hc)
          rw [hid_ne hDa, hD] at this
          cases this
      exact kk t Dl vs _ hH (((s1.trans s2).trans (w1.same.trans hid_same)).trans (hid_mono st)) (st _ _ hv) (rv.mono (hid_mono st)) (SqT.of upd_same)
end
end Tg
end

section
set_option Elab.async false
set_option linter.all false
set_option maxRecDepth 100000
set_option maxHeartbeats 4000000
/-! A list filled with data that hold lists themselves. -/
namespace Tg
open PySem PySem.Spec PyProof.Rows L2
section
variable {K : PySem.W.Frag} {H0 : Hp} {i : Nat} {ρ : List (Option Dat)} {ds es : List Dat} {d : Dat} {p : Addr} {σ : L2.St} {H H' : Hp} {te tl : TE} {ta : TA} {tt : TT} {D : Ends} {tb : TS}
theorem Acc.setH {j : Nat} {v : V} (a : Acc K H0 i ρ ds p σ H) (r : Rp K (hid p H) v d) (hj : j ≠ i) : Acc K H0 i (ρ.set j (some d)) ds p (σ.set j (some v)) H :=
  ⟨a.new, a.same, a.env.set j r, by rw [List.getElem?_set_ne hj]; exact a.slot, by rw [List.getElem?_set_ne hj]; exact a.off, a.at_, a.still⟩
/-- over name[k], whatever stands in it -/
theorem a_forIx {l ds0 : List Dat} {s k j : Nat} (ρs : Nat → List (Option Dat)) (dss : Nat → List Dat) (a : Acc K H0 i (ρs 0) (dss 0) p σ H) (hs0 : (ρs 0)[s]? = some (some (.tup ds0))) (hk : ds0[k]? = some (.tup l)) (hj : j ≠ i)
    (hs : ∀ (G : Hp) (t : Nat) x σ' H', l[t]? = some x → Acc K G i ((ρs t).set j (some x)) (dss t) p σ' H' → tb { D with nx := Acc K G i (ρs (t + 1)) (dss (t + 1)) p, ct := Acc K G i (ρs (t + 1)) (dss (t + 1)) p, bk := D.nx } σ' H')
    (hd : ∀ σ' H', Acc K H0 i (ρs l.length) (dss l.length) p σ' H' → D.nx σ' H') : tFor (iSeq K (tOp (rIx K) (tVar s) (tC (.int (k : Nat))))) (gName j) tb D σ H := by
  obtain ⟨v, h1, h2⟩ := a.env.get hs0
  cases h2 with
  | tup ht rt =>
    rename_i b xs
    obtain ⟨x, hx, rx⟩ := atI_rpl rt hk
    cases rx with
    | tup ht2 rt2 =>
      rename_i q ys
      have hl : ys.length = l.length := rt2.length
      refine .inr ⟨_, h1, .inr (.inl ⟨b, xs, (k : Int), .ref q, rfl, rfl, same_t hid_same ht, hx, ?_⟩)⟩
      refine ⟨q, rfl, ⟨_, same_t hid_same ht2⟩, for_tup (K := K) (a := q) (xs := ys) (fun t σ' H' => Acc K (hid p H) i (ρs t) (dss t) p σ' H') a.rebase (fun t σ' H' _ b => same_t b.out ht2) (fun t x σ' H' hx b => ?_) (fun σ' H' b => hd σ' H' (a.unbase (by rw [← hl]; exact b)))⟩
      obtain ⟨d, hd', rd⟩ := rt2.back hx
      exact hs _ t d _ H' hd' (b.setH (rd.mono b.same) hj)
/-- a list of data of any kind -/
structure AcF (K : PySem.W.Frag) (H0 : Hp) (i : Nat) (ρ : List (Option Dat)) (ds : List Dat) (p : Addr) (σ : L2.St) (H : Hp) : Prop where
  new : H0 p = none
  same : Same H0 (hid p H)
  env : Env K (hid p H) σ ρ
  slot : σ[i]? = some (some (.ref p))
  off : ρ[i]? = some none
  at_ : ∃ vs, H p = some (.lst vs) ∧ RpL K (hid p H) vs ds
theorem AcF.begin {vs : List V} (e : Env K H σ ρ) (n : H p = none) (s : Same H H') (h : H' p = some (.lst [])) (hr : i < ρ.length := by exact Nat.le_of_ble_eq_true rfl) : AcF K H i (ρ.set i none) [] p (σ.set i (some (.ref p))) H' := by
  have hi : i < σ.length := by rw [e.len]; exact hr
  exact ⟨n, hid_of s n, (e.mono (hid_of s n)).drop i _, by simp [hi], by simp [hr], ⟨[], h, .nil⟩⟩
theorem AcF.all (a : AcF K H0 i ρ ds p σ H) : Env K H σ (ρ.set i (some (.lst ds))) := by
  obtain ⟨vs, h, r⟩ := a.at_
  have e := a.env.mono hid_same
  have q := e.set i (Rp.lst h (r.mono hid_same))
  have z : σ.set i (some (.ref p)) = σ := by
    have hs := a.slot
    apply List.ext_getElem?
    intro n
    by_cases hn : n = i
    · subst hn
      have := (List.getElem?_eq_some_iff.mp hs).1
      rw [List.getElem?_set_self this]
      exact hs.symm
    · rw [List.getElem?_set_ne (Ne.symm hn)]
  rw [z] at q
  exact q
theorem AcF.grow (a : AcF K H0 i ρ ds p σ H) (s : Same H H') : AcF K H0 i ρ ds p σ H' := by
  obtain ⟨vs, h, r⟩ := a.at_
  exact ⟨a.new, a.same.trans (hid_mono s), a.env.mono (hid_mono s), a.slot, a.off, ⟨vs, s _ _ h, r.mono (hid_mono s)⟩⟩
theorem AcF.setH {j : Nat} {v : V} (a : AcF K H0 i ρ ds p σ H) (r : Rp K (hid p H) v d) (hj : j ≠ i) : AcF K H0 i (ρ.set j (some d)) ds p (σ.set j (some v)) H :=
  ⟨a.new, a.same, a.env.set j r, by rw [List.getElem?_set_ne hj]; exact a.slot, by rw [List.getElem?_set_ne hj]; exact a.off, a.at_⟩
theorem AcF.forget {j : Nat} (a : AcF K H0 i ρ ds p σ H) (hj : j ≠ i) : AcF K H0 i (ρ.set j none) ds p σ H :=
  ⟨a.new, a.same, a.env.forget j, a.slot, by rw [List.getElem?_set_ne hj]; exact a.off, a.at_⟩
theorem AcF.out (a : AcF K H0 i ρ ds p σ H) : Same H0 H := a.same.trans hid_same
theorem AcF.app {vs : List V} {v : V} (a : AcF K H0 i ρ ds p σ H) (h : H p = some (.lst vs)) (r : Rp K (hid p H) v d) : AcF K H0 i ρ (ds ++ [d]) p σ (upd H p (.lst (vs ++ [v]))) := by
  obtain ⟨ws, h', rl⟩ := a.at_
  rw [h] at h'
  cases h'
  exact ⟨a.new, by rw [hid_upd]; exact a.same, by rw [hid_upd]; exact a.env, a.slot, a.off, ⟨_, upd_same, by rw [hid_upd]; exact rl.snoc r⟩⟩
theorem f_forR {tb : TS} {j n : Nat} (ρs : Nat → List (Option Dat)) (dss : Nat → List Dat) (a : AcF K H0 i (ρs 0) (dss 0) p σ H) (h : EvA K ta ((ρs 0).set i (some (.lst (dss 0)))) [.v (.int n)]) (hn : n ≤ 100000000) (hj : j ≠ i)
    (hs : ∀ (t : Nat) σ' H', t < n → AcF K H0 i ((ρs t).set j (some (.v (.int (t : Nat))))) (dss t) p σ' H' → tb { D with nx := AcF K H0 i (ρs (t + 1)) (dss (t + 1)) p, ct := AcF K H0 i (ρs (t + 1)) (dss (t + 1)) p, bk := D.nx } σ' H')
    (hd : ∀ σ' H', AcF K H0 i (ρs n) (dss n) p σ' H' → D.nx σ' H') : tFor (iRng1 ta) (gName j) tb D σ H :=
  s_forR (fun t => AcF K H0 i (ρs t) (dss t) p) a.all h hn (fun H' s => a.grow s) (fun t σ' H' ht q => hs t _ H' ht (q.setH (.v _) hj)) hd
end
end Tg
end

section
set_option Elab.async false
set_option linter.all false
set_option maxRecDepth 100000
set_option maxHeartbeats 4000000
/-! Answers in octets. -/
namespace Tg
open PySem PySem.Spec PyProof.Rows L2
open R7292f
def wr (p : Spec.Plain) : List UInt8 := RWire.write (Rust.given p)
def bD (b : List UInt8) : List Dat := b.map fun c => .v (o8 c)
/-- the values that are handed back, so deep at most -/
def outOk : Nat → Spec.Plain → Bool
  | 0, _ => false
  | _ + 1, .undef => true
  | _ + 1, .null => true
  | _ + 1, .bool _ => true
  | _ + 1, .str u => Rust.narrowText u
  | d + 1, .arr l => l.all (outOk d)
  | _ + 1, _ => false
theorem low_bD : ∀ k n : Nat, bD (RWire.low k n) = sc nI (lowN k n)
  | 0, _ => rfl
  | k + 1, n => by
    show Dat.v (o8 (UInt8.ofNat n)) :: bD (RWire.low k (n / 256)) = Dat.v (nI (n % 256)) :: sc nI (lowN k (n / 256))
    rw [low_bD k (n / 256)]
    congr 2
theorem low_len : ∀ k n : Nat, (RWire.low k n).length = k
  | 0, _ => rfl
  | k + 1, n => congrArg (· + 1) (low_len k _)
theorem octet_nat {c : UInt16} (h : c.toNat < 256) : (Rust.octetOf c).toNat = c.toNat := by
  unfold Rust.octetOf
  simp
  omega
theorem str_bD {u : Spec.Units} (h : Rust.narrowText u = true) : sc uI u = bD (u.map Rust.octetOf) := by
  unfold bD sc uI o8
  rw [List.map_map]
  apply List.map_congr_left
  intro c hc
  have := List.all_eq_true.mp h c hc
  show Dat.v (V.int _) = Dat.v (V.int _)
  rw [octet_nat (by have h2 : c.toNat ≤ 255 := (by simpa [Nat.blt] using this); omega)]
theorem wr_str (u : Spec.Units) : wr (.str u) = 6 :: (RWire.low 4 u.length ++ u.map Rust.octetOf) := by
  show RWire.write (Rust.givenText u) = _
  have e : Rust.givenText u = .text (u.map Rust.octetOf) := by
    unfold Rust.givenText
    rw [if_neg (by simp [Rust.wideTold])]
  rw [e]
  show 6 :: (RWire.low 4 (u.map Rust.octetOf).length ++ u.map Rust.octetOf) = _
  rw [List.length_map]
theorem many_wr : ∀ l : List Spec.Plain, RWire.writeMany (Rust.givenAll l) = l.flatMap wr
  | [] => rfl
  | v :: r => by
    show wr v ++ RWire.writeMany (Rust.givenAll r) = wr v ++ r.flatMap wr
    rw [many_wr r]
theorem givenAll_len : ∀ l : List Spec.Plain, (Rust.givenAll l).length = l.length
  | [] => rfl
  | v :: r => congrArg (· + 1) (givenAll_len r)
theorem wr_arr (l : List Spec.Plain) : wr (.arr l) = 7 :: (RWire.low 4 l.length ++ l.flatMap wr) := by
  show 7 :: (RWire.low 4 (Rust.givenAll l).length ++ RWire.writeMany (Rust.givenAll l)) = _
  rw [many_wr, givenAll_len]
theorem bD_stills (b : List UInt8) : Dat.stills (bD b) = true := sc_stills o8 b
theorem bD_app (x y : List UInt8) : bD x ++ bD y = bD (x ++ y) := (List.map_append).symm
theorem bD_len (b : List UInt8) : (bD b).length = b.length := List.length_map _
theorem flat_mem {l : List Spec.Plain} {x : Spec.Plain} (h : x ∈ l) : (wr x).length ≤ (l.flatMap wr).length := by
  induction l with
  | nil => cases h
  | cons y r ih =>
    rw [List.flatMap_cons, List.length_append]
    rcases List.mem_cons.mp h with h | h
    · subst h
      omega
    · have := ih h
      omega
theorem flat_take (l : List Spec.Plain) (t : Nat) : ((l.take t).flatMap wr).length ≤ (l.flatMap wr).length := by
  have e := congrArg (fun z => (z.flatMap wr).length) (List.take_append_drop t l)
  simp only [List.flatMap_append, List.length_append] at e
  omega
section
variable {P : Program} {w : World} {K : PySem.W.Frag} {mg : Str → Option Value} {base : Heap} {A : Ad} {f : Addr} {fd : FuncData} {d : Nat}
/-- the data of an answer: texts stand in it as tuples or as lists -/
def AnR : Nat → Spec.Plain → Dat → Prop
  | 0, _, _ => False
  | _ + 1, .undef, x => x = .tup [.v (.int 0)]
  | _ + 1, .null, x => x = .tup [.v (.int 1)]
  | _ + 1, .bool b, x => x = .tup [.v (.int (if b then 3 else 2))]
  | _ + 1, .str u, x => Rust.narrowText u = true ∧ (x = .tup [.v (.int 6), .tup (sc uI u)] ∨ x = .tup [.v (.int 6), .lst (sc uI u)])
  | d + 1, .arr l, x => ∃ xs, x = .tup [.v (.int 7), .tup xs] ∧ xs.length = l.length ∧ ∀ (i : Nat) p y, l[i]? = some p → xs[i]? = some y → AnR d p y
  | _ + 1, _, _ => False
def R_octets (d : Nat) (ds : List Dat) (es : List Dat) : Prop := ∃ p x, ds = [x] ∧ AnR d p x ∧ (wr p).length ≤ 100000 ∧ es = bD (wr p)
abbrev s_octets_of : Stmt := top 18
abbrev N_octets_of : List Str := ["value", "kind", "found", "part"]
theorem sc_octets_of : FnScope N_octets_of ["value"] (defScope s_octets_of) :=
  ⟨rfl, rfl, rfl, by decide +kernel, rfl, by decide +kernel, by decide +kernel⟩
theorem ok_octets0 (D : Df K mg "octets_of" s_octets_of ["value"] f fd) : Cl P w K mg base CX0 2 "octets_of" (NewSp K (R_octets 0)) := by
  refine D.cl (D.fn.ok sc_octets_of (fun vs H Q E h => ?_) (fun cdv _ outer s H vs Q E hr h => ?_))
  · obtain ⟨ds, es, _, ⟨p, x, _, h, _⟩, _⟩ := h
    cases h
  · obtain ⟨ds, es, _, ⟨p, x, _, h, _⟩, _⟩ := h
    cases h
theorem kd_at {ρ : List (Option Dat)} {i : Nat} {l : List Dat} {k : Nat} {x : Dat} (h : ρ[i]? = some (some (.tup l))) (hx : l[k]? = some x) : EvD K (tOp (rIx K) (tVar i) (tC (.int (k : Nat)))) ρ x :=
  ev_op (ev_var h) ev_c (rv_ixT (by omega) (by simpa using hx))
theorem ok_octets (D : Df K mg "octets_of" s_octets_of ["value"] f fd) (T : Txt K mg A) (g_low_first : Cl P w K mg base CX0 1 "low_first" (NewSp K R_low_first)) (g_octets_of : Cl P w K mg base CX0 (d + 2) "octets_of" (NewSp K (R_octets d))) :
    Cl P w K mg base CX0 (d + 2 + 1) "octets_of" (NewSp K (R_octets (d + 1))) := by
  refine D.cl (ok_new D.fn sc_octets_of (fun ds es h => ?_) fun cdv A outer s H E hr => ⟨_, (pss_cons (ps_set (i := 1) sc_octets_of.nd rfl (Or.inl rfl) (pe_ix (ix_seqK K) (pv 0) pe_int (fun _ _ => rfl)))
    (pss_cons (ps_if (pt_cmpR (op_eqGK K hr.units) (pv 1) (C8.pe_gc rfl T.c_INTEGER) (nomark _)) (pss_one (ps_ret (pe_op (op_plusK K) (pe_lst (pa_cons (pv 1) pa_nil)) (pe_cl g_low_first hr (by omega) pass0 (by rfl) (pa_cons (pe_ifExp (pt_cmpR op_geI (pe_ix (ix_seqK K) (pv 0) pe_int (fun _ _ => rfl)) pe_int (nomark _)) (pe_ix (ix_seqK K) (pv 0) pe_int (fun _ _ => rfl)) (pe_op (op_plusK K) (pe_ix (ix_seqK K) (pv 0) pe_int (fun _ _ => rfl)) (C8.pe_gc rfl T.c_WORD))) (pa_cons pe_int pa_nil)))))) pss_nil)
    (pss_cons (ps_if (pt_cmpR (op_eqGK K hr.units) (pv 1) (C8.pe_gc rfl T.c_TEXT) (nomark _)) (pss_one (ps_ret (pe_op (op_plusK K) (pe_op (op_plusK K) (pe_lst (pa_cons (pv 1) pa_nil)) (pe_cl g_low_first hr (by omega) pass0 (by rfl) (pa_cons (pe_callB (call_lenGK K) (by rfl) T.b_len bt_len (pa_cons (pe_ix (ix_seqK K) (pv 0) pe_int (fun _ _ => rfl)) pa_nil)) (pa_cons pe_int pa_nil)))) (pe_callTy (call_listGK K) (by rfl) T.b_list bt_list (pa_cons (pe_ix (ix_seqK K) (pv 0) pe_int (fun _ _ => rfl)) pa_nil))))) pss_nil)
    (pss_cons (ps_if (pt_cmpR op_ltI (pv 1) (C8.pe_gc rfl T.c_INTEGER) (nomark _)) (pss_one (ps_ret (pe_lst (pa_cons (pv 1) pa_nil)))) pss_nil)
    (pss_cons (ps_set (i := 2) sc_octets_of.nd rfl (Or.inl rfl) (pe_op (op_plusK K) (pe_lst (pa_cons (pv 1) pa_nil)) (pe_cl g_low_first hr (by omega) pass0 (by rfl) (pa_cons (pe_callB (call_lenGK K) (by rfl) T.b_len bt_len (pa_cons (pe_ix (ix_seqK K) (pv 0) pe_int (fun _ _ => rfl)) pa_nil)) (pa_cons pe_int pa_nil)))))
    (pss_cons (ps_for PassesOwn.never rfl (pi_seqK K (pe_ix (ix_seqK K) (pv 0) pe_int (fun _ _ => rfl))) (pg_name (i := 3) sc_octets_of.nd rfl (Or.inl rfl)) (pss_one (ps_if (pt_cmpR (op_eqGK K hr.units) (pv 1) (C8.pe_gc rfl T.c_RECORD) (nomark _)) (pss_one (ps_expr (pe_bmK K PySem.F.plainAttrs_list PySem.F.slot_list_extend PySem.F.type_list_extend (mt_extendGK K) (pv 2) (pa_cons (pe_op (op_plusK K) (pe_op (op_plusK K) (pe_cl g_low_first hr (by omega) pass0 (by rfl) (pa_cons (pe_callB (call_lenGK K) (by rfl) T.b_len bt_len (pa_cons (pe_ix (ix_seqK K) (pv 3) pe_int (fun _ _ => rfl)) pa_nil)) (pa_cons pe_int pa_nil))) (pe_callTy (call_listGK K) (by rfl) T.b_list bt_list (pa_cons (pe_ix (ix_seqK K) (pv 3) pe_int (fun _ _ => rfl)) pa_nil))) (pe_cl g_octets_of hr (by omega) pass0 (by rfl) (pa_cons (pe_ix (ix_seqK K) (pv 3) pe_int (fun _ _ => rfl)) pa_nil))) pa_nil)))) (pss_one (ps_expr (pe_bmK K PySem.F.plainAttrs_list PySem.F.slot_list_extend PySem.F.type_list_extend (mt_extendGK K) (pv 2) (pa_cons (pe_cl g_octets_of hr (by omega) pass0 (by rfl) (pa_cons (pv 3) pa_nil)) pa_nil)))))))
    (pss_one (ps_ret (pv 2))))))))), ?_⟩)
  · obtain ⟨p, x, rfl, _⟩ := h
    rfl
  · rintro ds es ⟨p, x, rfl, hok, hsz, rfl⟩ σ H Q e k
    by_cases leaf : ∃ kd : Nat, kd < 4 ∧ x = .tup [.v (.int (kd : Nat))] ∧ wr p = [UInt8.ofNat kd]
    · obtain ⟨kd, hk, h1, h2⟩ := leaf
      rw [h1] at e
      rw [h2] at k
      refine s_seq (s_asg e (kd_at (k := 0) (by rfl) (by rfl)) fun σ1 H1 s1 e1 => ?_)
      refine s_seq (s_if e1 (ev_test (ev_op (ev_var rfl) ev_c rv_eqI)) (fun hb => absurd (of_decide_eq_true hb) (by omega)) fun _ H2 s2 e2 => ?_)
      refine s_seq (s_if e2 (ev_test (ev_op (ev_var rfl) ev_c rv_eqI)) (fun hb => absurd (of_decide_eq_true hb) (by omega)) fun _ H3 s3 e3 => ?_)
      refine s_seq (s_if e3 (ev_test (ev_op (ev_var rfl) ev_c rv_lt)) (fun _ H4 s4 e4 => ?_) fun hb => absurd (of_decide_eq_false hb) (by omega))
      refine s_retN e4 (ev_lst (ev_cons (ev_var rfl) ev_nil)) fun q ws H5 n5 s5 h5 r5 => k q ws H5 ((((s1.trans s2).trans s3).trans s4).free n5) ((((s1.trans s2).trans s3).trans s4).trans s5) h5 ?_
      have e8 : bD [UInt8.ofNat kd] = [.v (.int (kd : Nat))] := by
        unfold bD o8
        simp
        omega
      rw [e8]
      exact r5
    cases p with
    | undef => exact absurd ⟨0, by decide, hok, rfl⟩ leaf
    | null => exact absurd ⟨1, by decide, hok, rfl⟩ leaf
    | bool b => cases b with
      | true => exact absurd ⟨3, by decide, hok, rfl⟩ leaf
      | false => exact absurd ⟨2, by decide, hok, rfl⟩ leaf
    | num x => exact hok.elim
    | obj fs => exact hok.elim
    | big i => exact hok.elim
    | str u =>
      obtain ⟨hu, hx⟩ : Rust.narrowText u = true ∧ (x = .tup [.v (.int 6), .tup (sc uI u)] ∨ x = .tup [.v (.int 6), .lst (sc uI u)]) := hok
      have hl := wr_str u
      rw [hl] at hsz k
      rw [List.length_cons, List.length_append, low_len, List.length_map] at hsz
      rcases hx with hx | hx
      · subst hx
        have e' : Env K H σ [some (.tup [.v (.int 6), .tup (sc uI u)]), none, none, none] := e
        refine s_seq (s_asg e' (kd_at (k := 0) (by rfl) (by rfl)) fun σ1 H1 s1 e1 => ?_)
        refine s_seq (s_if e1 (ev_test (ev_op (ev_var rfl) ev_c rv_eqI)) (fun hb => absurd (of_decide_eq_true hb) (by decide)) fun _ H2 s2 e2 => ?_)
        refine s_seq (s_if e2 (ev_test (ev_op (ev_var rfl) ev_c rv_eqI)) (fun _ H3 s3 e3 => ?_) fun hb => absurd (of_decide_eq_false hb) (by decide))
        refine s_retN (ds := bD (6 :: (RWire.low 4 u.length ++ u.map Rust.octetOf))) e3 ((ev_opN (EvN.toD (ev_opN (EvN.toD (ev_lst (ev_cons (ev_var rfl) ev_nil))) (EvN.toD (ev_callN (R := R_low_first) (ev_cons (ev_cb (ev_cons (kd_at (k := 1) (by rfl) (by rfl)) ev_nil) rc_lenT) (ev_cons ev_c ev_nil)) ⟨u.length, 4, by simp, by decide, rfl⟩)) (rv_plusL ?_)))
          (EvN.toD (ev_cbN (ev_cons (kd_at (k := 1) (by rfl) (by rfl)) ev_nil) rc_listT)) (rv_plusL ?_)).to ?_) fun q ws H5 n5 s5 h5 r5 => k q ws H5 (((s1.trans s2).trans s3).free n5) (((s1.trans s2).trans s3).trans s5) h5 r5
        · simp only [List.length_map, lowN_len, List.length_singleton]
          decide
        · simp only [List.length_append, List.length_map, lowN_len, List.length_singleton]
          exact Nat.le_trans (show _ ≤ 1000000 by omega) (by decide)
        · rw [← low_bD, str_bD hu, List.append_assoc, bD_app]
          rfl
      · subst hx
        have e' : Env K H σ [some (.tup [.v (.int 6), .lst (sc uI u)]), none, none, none] := e
        refine s_seq (s_asg e' (kd_at (k := 0) (by rfl) (by rfl)) fun σ1 H1 s1 e1 => ?_)
        refine s_seq (s_if e1 (ev_test (ev_op (ev_var rfl) ev_c rv_eqI)) (fun hb => absurd (of_decide_eq_true hb) (by decide)) fun _ H2 s2 e2 => ?_)
        refine s_seq (s_if e2 (ev_test (ev_op (ev_var rfl) ev_c rv_eqI)) (fun _ H3 s3 e3 => ?_) fun hb => absurd (of_decide_eq_false hb) (by decide))
        refine s_retN (ds := bD (6 :: (RWire.low 4 u.length ++ u.map Rust.octetOf))) e3 ((ev_opN (EvN.toD (ev_opN (EvN.toD (ev_lst (ev_cons (ev_var rfl) ev_nil))) (EvN.toD (ev_callN (R := R_low_first) (ev_cons (ev_cb (ev_cons (kd_at (k := 1) (by rfl) (by rfl)) ev_nil) rc_lenL) (ev_cons ev_c ev_nil)) ⟨u.length, 4, by simp, by decide, rfl⟩)) (rv_plusL ?_)))
          (EvN.toD (ev_cbN (ev_cons (kd_at (k := 1) (by rfl) (by rfl)) ev_nil) rc_listL)) (rv_plusL ?_)).to ?_) fun q ws H5 n5 s5 h5 r5 => k q ws H5 (((s1.trans s2).trans s3).free n5) (((s1.trans s2).trans s3).trans s5) h5 r5
        · simp only [List.length_map, lowN_len, List.length_singleton]
          decide
        · simp only [List.length_append, List.length_map, lowN_len, List.length_singleton]
          exact Nat.le_trans (show _ ≤ 1000000 by omega) (by decide)
        · rw [← low_bD, str_bD hu, List.append_assoc, bD_app]
          rfl
    | arr l =>
      obtain ⟨xs, hx, hxl, hall⟩ : ∃ xs, x = .tup [.v (.int 7), .tup xs] ∧ xs.length = l.length ∧ ∀ (i : Nat) p y, l[i]? = some p → xs[i]? = some y → AnR d p y := hok
      subst hx
      have hl := wr_arr l
      rw [hl] at hsz k
      rw [List.length_cons, List.length_append, low_len] at hsz
      have hll : l.length ≤ (l.flatMap wr).length := by
        clear hsz hl e k leaf hall hxl
        induction l with
        | nil => exact Nat.le_refl _
        | cons x r ih =>
          have h1 : 1 ≤ (wr x).length := by
            cases x with
            | str u => rw [wr_str]; simp
            | arr l => rw [wr_arr]; simp
            | undef => decide
            | null => decide
            | bool b => cases b <;> decide
            | num x => exact Nat.succ_le_succ (Nat.zero_le _)
            | obj fs => exact Nat.succ_le_succ (Nat.zero_le _)
            | big i => exact Nat.succ_le_succ (Nat.zero_le _)
          rw [List.flatMap_cons, List.length_append, List.length_cons]
          omega
      have e' : Env K H σ [some (.tup [.v (.int 7), .tup xs]), none, none, none] := e
      refine s_seq (s_asg e' (kd_at (k := 0) (by rfl) (by rfl)) fun σ1 H1 s1 e1 => ?_)
      refine s_seq (s_if e1 (ev_test (ev_op (ev_var rfl) ev_c rv_eqI)) (fun hb => absurd (of_decide_eq_true hb) (by decide)) fun _ H2 s2 e2 => ?_)
      refine s_seq (s_if e2 (ev_test (ev_op (ev_var rfl) ev_c rv_eqI)) (fun hb => absurd (of_decide_eq_true hb) (by decide)) fun _ H3 s3 e3 => ?_)
      refine s_seq (s_if e3 (ev_test (ev_op (ev_var rfl) ev_c rv_lt)) (fun hb => absurd (of_decide_eq_true hb) (by decide)) fun _ H4 s4 e4 => ?_)
      have s04 := ((s1.trans s2).trans s3).trans s4
      refine s_seq (s_asgN (ds := bD (7 :: RWire.low 4 l.length)) e4 ((ev_opN (EvN.toD (ev_lst (ev_cons (ev_var rfl) ev_nil))) (EvN.toD (ev_callN (R := R_low_first) (ev_cons (ev_cb (ev_cons (kd_at (k := 1) (x := .tup xs) (by rfl) (by rfl)) ev_nil) rc_lenT) (ev_cons ev_c ev_nil)) ⟨l.length, 4, by simp [hxl], by decide, rfl⟩)) (rv_plusL ?_)).to ?_) fun p vs H5 np s5 h5 r5 => ?_)
      · simp only [List.length_map, lowN_len, List.length_singleton]
        decide
      · rw [← low_bD]
        rfl
      have a := Acc.begin (i := 2) e4 np s5 h5 r5 (bD_stills _)
      refine s_seq (a_forIx (l := xs) (k := 1) (fun _ => [some (.tup [.v (.int 7), .tup xs]), some (.v (.int 7)), none, none]) (fun t => bD (7 :: (RWire.low 4 l.length ++ (l.take t).flatMap wr))) (by simpa using a) rfl rfl (by decide) ?_ ?_)
      · intro G t y σ' H' hy a
        have htl := (List.getElem?_eq_some_iff.mp hy).1
        have hx : l[t]? = some l[t] := List.getElem?_eq_getElem (by omega)
        have hmem := List.mem_of_getElem? hx
        have h1 := flat_mem hmem
        have h2 := flat_take l t
        refine a_if a (ev_test (ev_op (ev_var rfl) ev_c rv_eqI)) (fun hb => absurd (of_decide_eq_true hb) (by decide)) fun _ H6 a6 => ?_
        refine a_ext (es := bD (wr l[t])) a6 rfl (EvN.toD (ev_callN (R := R_octets d) (ev_cons (ev_var rfl) ev_nil) ⟨l[t], y, rfl, hall t _ _ hx hy, by omega, rfl⟩)) (bD_stills _) ?_ fun H7 a7 => ?_
        · rw [bD_len, bD_len, List.length_cons, List.length_append, low_len]
          omega
        · have a8 := a7.forget (j := 3) (by decide)
          rw [bD_app] at a8
          have et : (7 :: (RWire.low 4 l.length ++ (l.take t).flatMap wr)) ++ wr l[t] = 7 :: (RWire.low 4 l.length ++ (l.take (t + 1)).flatMap wr) := by
            rw [List.take_add_one, hx, List.flatMap_append, List.cons_append, List.append_assoc]
            show _ = 7 :: (_ ++ (_ ++ List.flatMap wr [l[t]]))
            rw [List.flatMap_cons, List.flatMap_nil, List.append_nil]
          rw [et] at a8
          exact a8
      · intro σ' H' a
        rw [hxl, List.take_length] at a
        exact a_ret a rfl fun p ws H6 n6 s6 h6 r6 => k p ws H6 (s04.free n6) (s04.trans s6) h6 r6
end
end Tg
end

section
set_option Elab.async false
set_option linter.all false
set_option maxRecDepth 100000
set_option maxHeartbeats 4000000
/-! Messages; the reader = the specification's. -/
namespace Tg
open PySem PySem.Spec PyProof.Rows L2
open R7292f
def strOf (u : Spec.Units) : Str := ⟨(u.map fun c => c.toNat).toArray⟩
def errOf (e : Spec.Err) : Err := ((Rust.classOf e.cls : Nat), strOf e.msg)
theorem units_small : ∀ l : List Char, (∀ c ∈ l, c.toNat < 65536) → (l.flatMap fun c => if c.toNat < 65536 then [UInt16.ofNat c.toNat] else [UInt16.ofNat (55296 + (c.toNat - 65536) / 1024), UInt16.ofNat (56320 + (c.toNat - 65536) % 1024)]) = l.map fun c => UInt16.ofNat c.toNat
  | [], _ => rfl
  | c :: r, h => by
    rw [List.flatMap_cons, units_small r fun x hx => h x (List.mem_cons_of_mem _ hx), if_pos (h c List.mem_cons_self)]
    rfl
theorem strOf_units (s : String) (h : ∀ c ∈ s.toList, c.toNat < 65536) : strOf (Spec.units s) = Str.ofString s := by
  rw [Str.ofString_eq_toList]
  unfold strOf Spec.units
  rw [units_small _ h, List.map_map]
  congr 2
  apply List.map_congr_left
  intro c hc
  have := h c hc
  simp
  omega
theorem ofString_app (a b : String) : Str.ofString (a ++ b) = Str.ofString a ++ Str.ofString b := by
  rw [Str.ofString_eq_toList, Str.ofString_eq_toList, Str.ofString_eq_toList, String.toList_append, List.map_append]
  show _ = Str.append _ _
  unfold Str.append
  simp
theorem num_small0 : ∀ n : Fin 301, ∀ c ∈ (toString n.val).toList, c.toNat < 65536 := by decide +kernel
theorem num_small {n : Nat} (h : n ≤ 300) : ∀ c ∈ (toString n).toList, c.toNat < 65536 := num_small0 ⟨n, by omega⟩
theorem int_str (n : Nat) : (toString (n : Int) : String) = toString n := rfl
def Plainly (s : String) : Prop := ∀ c ∈ s.toList, c.toNat < 65536
theorem Plainly.app {a b : String} (h1 : Plainly a) (h2 : Plainly b) : Plainly (a ++ b) := fun c hc => by
  rw [String.toList_append] at hc
  rcases List.mem_append.mp hc with h | h
  · exact h1 c h
  · exact h2 c h
theorem plainly_of {s : String} (h : (s.toList.all fun c => decide (c.toNat < 65536)) = true) : Plainly s := fun c hc => of_decide_eq_true (List.all_eq_true.mp h c hc)
theorem err_at {pre : String} (h : Plainly pre) {n : Nat} (hn : n ≤ 300) : errOf (Spec.unexpected pre n) = (2, msgAt (Str.ofString pre) "unexpected text at " n) := by
  unfold errOf Spec.unexpected Spec.beyond msgAt
  have h1 : Plainly (pre ++ "unexpected text at " ++ toString n) := (h.app (plainly_of (by decide +kernel))).app (num_small hn)
  show ((2 : Int), strOf (Spec.units (pre ++ "unexpected text at " ++ toString n))) = _
  rw [strOf_units _ h1, ofString_app, ofString_app]
  rfl
theorem err_un {pre : String} (h : Plainly pre) {n : Nat} (hn : n ≤ 300) : errOf (Spec.unknown pre n) = (2, msgAt (Str.ofString pre) "unknown tag at " n) := by
  unfold errOf Spec.unknown Spec.beyond msgAt
  have h1 : Plainly (pre ++ "unknown tag at " ++ toString n) := (h.app (plainly_of (by decide +kernel))).app (num_small hn)
  show ((2 : Int), strOf (Spec.units (pre ++ "unknown tag at " ++ toString n))) = _
  rw [strOf_units _ h1, ofString_app, ofString_app]
  rfl
theorem place_le {u : Spec.Units} {n : Nat} : Spec.placeOf u n ≤ u.length := by
  unfold Spec.placeOf
  cases h : (Spec.cut u)[(Spec.cut u).length - n]? with
  | none => exact Nat.le_refl _
  | some e =>
    have := cutBy_at _ _ _ e (List.mem_of_getElem? h)
    simp only [Nat.zero_add] at this
    exact Nat.le_of_lt this
theorem readTo_eq {pre : String} (h : Plainly pre) {tags : List Spec.Units} {u : Spec.Units} (hu : u.length ≤ 60) :
    (match readTo (Str.ofString pre) tags u with
      | .error m => (.error (2, m) : Except Err Spec.Filter)
      | .ok F => .ok F) = (match Spec.readFilter pre tags u with
      | .error e => .error (errOf e)
      | .ok F => .ok F) := by
  unfold readTo Spec.readFilter
  cases Spec.read (Spec.tokensOf u) with
  | error m =>
    simp only []
    rw [err_at h (Nat.le_trans place_le (by omega))]
  | ok F =>
    simp only []
    cases hf : (Spec.cut u).find? (Spec.isUnknown tags) with
    | none => rfl
    | some e =>
      have := cutBy_at _ _ _ e (List.mem_of_find?_eq_some hf)
      simp only []
      rw [err_un h (by omega)]
end Tg
end

section
set_option Elab.async false
set_option linter.all false
set_option maxRecDepth 100000
set_option maxHeartbeats 4000000
/-! Changes: their data, what is made of items. -/
namespace Tg
open PySem PySem.Spec PyProof.Rows L2
open R7292f
/-! ### further rules -/
section
variable {K : PySem.W.Frag} {ρ : List (Option Dat)} {te ta tb : TE}
theorem ev_lcZ {j k : Nat} {l m : List Bool} (g : Bool → Bool → Bool) (ha : EvD K ta ρ (.lst (sc V.bl l))) (hb : EvD K tb ρ (.lst (sc V.bl m))) (hl : l.length = m.length) (hz : l.length ≤ 1000000) (hjk : j ≠ k)
    (hv : ∀ x y, EvD K te ((ρ.set j (some (.v (.bl x)))).set k (some (.v (.bl y)))) (.v (.bl (g x y)))) : EvN K (tLc (iZip K (tCons ta (tCons tb tNil))) (gTup K 2 (gCons (gName j) (gCons (gName k) gNil))) tYes te [j, k]) ρ (sc V.bl ((l.zip m).map fun p => g p.1 p.2)) := fun σ H e Q q =>
  ha σ H e _ fun v1 H1 s1 r1 => hb σ H1 (e.mono s1) _ fun v2 H2 s2 r2 => by
    have r1' := r1.mono s2
    cases r1' with
    | lst h1 l1 =>
      cases r2 with
      | lst h2 l2 =>
        have e1 := sc_rpl l1
        have e2 := sc_rpl l2
        subst e1
        subst e2
        refine ⟨_, _, _, _, rfl, SqL.of h1, SqL.of h2, fun Dl hD => ?_⟩
        exact lc_zipD (K := K) g (e.mono (s1.trans s2)) h1 h2 hl hz hjk hv hD fun p vs H' n s h r => q p vs H' ((s1.trans s2).free n) ((s1.trans s2).trans s) h r
theorem ev_setI {ns : List Int} (h : EvD K te ρ (.lst (sc V.int ns))) (hn : ns.length ≤ 4000) : EvD K (tLenSet2 K te) ρ (.v (.int (distinct ns : Nat))) := fun σ H e Q q =>
  h σ H e _ fun v H1 s1 r1 => by
    cases r1 with
    | lst h1 l1 =>
      have e1 := sc_rpl l1
      subst e1
      exact .inl ⟨_, ns, rfl, SqL.of h1, hn, q _ H1 s1 (.v _)⟩
def intsU (u : Spec.Units) : List Int := u.map fun c => (c.toNat : Int)
theorem uD_keys {H : Hp} : ∀ {l : List Spec.Units} {vs : List V}, RpL K H vs (l.map uD) → ∃ ks : List (Addr × List Int), vs = ks.map (fun p => V.ref p.1) ∧ (∀ p ∈ ks, SqT K H p.1 (p.2.map V.int)) ∧ ks.map (·.2) = l.map intsU
  | [], _, .nil => ⟨[], rfl, fun _ h => (List.not_mem_nil h).elim, rfl⟩
  | u :: l, _, .cons h1 h2 => by
    obtain ⟨ks, e1, e2, e3⟩ := uD_keys h2
    cases h1 with
    | tup ht rt =>
      rename_i a xs
      have ex := sc_rpl rt
      refine ⟨(a, intsU u) :: ks, by rw [e1]; rfl, fun p hp => ?_, by simp [e3]⟩
      rcases List.mem_cons.mp hp with hp | hp
      · subst hp
        rw [ex] at ht
        have z : (intsU u).map V.int = u.map uI := by
          unfold intsU uI
          rw [List.map_map]
          rfl
        rw [z]
        exact ht
      · exact e2 p hp
theorem distinct_map {α β : Type} [BEq α] [LawfulBEq α] [BEq β] [LawfulBEq β] {f : α → β} (hf : ∀ x y, f x = f y → x = y) : ∀ l : List α, distinct (l.map f) = distinct l
  | [] => rfl
  | x :: r => by
    have e : (r.map f).contains (f x) = r.contains x := by
      cases h : r.contains x with
      | true => simpa using ⟨x, by simpa using h, rfl⟩
      | false =>
        have hx : x ∉ r := by simpa using h
        have : f x ∉ r.map f := fun hm => by
          obtain ⟨y, hy, e⟩ := List.mem_map.mp hm
          exact hx (hf _ _ e ▸ hy)
        simpa using this
    show (if (r.map f).contains (f x) then distinct (r.map f) else distinct (r.map f) + 1) = (if r.contains x then distinct r else distinct r + 1)
    rw [e, distinct_map hf r]
theorem intsU_inj : ∀ (x y : Spec.Units) (_ : intsU x = intsU y), x = y
  | [], [], _ => rfl
  | [], _ :: _, h => by cases h
  | _ :: _, [], h => by cases h
  | a :: x, b :: y, h => by
    have h1 : ((a.toNat : Nat) : Int) = ((b.toNat : Nat) : Int) := (List.cons.inj h).1
    have h2 := intsU_inj x y (List.cons.inj h).2
    have h3 : a = b := UInt16.toNat_inj.mp (by omega)
    rw [h2, h3]
theorem ev_setU {l : List Spec.Units} (h : EvD K te ρ (tagsD l)) (hn : l.length < 64) : EvD K (tLenSet2 K te) ρ (.v (.int (distinct l : Nat))) := fun σ H e Q q =>
  h σ H e _ fun v H1 s1 r1 => by
    cases r1 with
    | lst h1 l1 =>
      obtain ⟨ks, e1, e2, e3⟩ := uD_keys l1
      subst e1
      have hk : ks.length = l.length := by
        have := congrArg List.length e3
        simpa using this
      refine .inr ⟨_, ks, rfl, SqL.of h1, e2, by omega, ?_⟩
      rw [e3, distinct_map intsU_inj]
      exact q _ H1 s1 (.v _)
end
theorem map_set {α : Type} (c : α → V) (n i : Nat) (f g : Nat → α) (hi : i < 2 ^ n) (h : ∀ y, y < 2 ^ n → y ≠ i → f y = g y) : (sc c ((Spec.items n).map f)).set i (.v (c (g i))) = sc c ((Spec.items n).map g) := by
  apply List.ext_getElem?
  intro k
  by_cases hk : k = i
  · subst hk
    rw [List.getElem?_set_self (by simp [Spec.items]; exact hi)]
    simp [Spec.items, hi]
  · rw [List.getElem?_set_ne (Ne.symm hk)]
    by_cases hl : k < 2 ^ n
    · simp [Spec.items, hl, h k hl hk]
    · simp [Spec.items, hl]
/-! ### changes -/
def madeD (n : Nat) (mk : Nat → Nat) : Dat := .lst (sc nI ((Spec.items n).map mk))
def chG (old new : List Spec.Units) (mk : Nat → Nat) : List (Str × Dat) := [("old_tags", tagsD old), ("new_tags", tagsD new), ("made", madeD old.length mk)]
def chD (A : Ad) (old new : List Spec.Units) (mk : Nat → Nat) : Dat := .obj A.ch (chG old new mk)
structure ChOk (old new : List Spec.Units) (mk : Nat → Nat) : Prop where
  o : old.length ≤ 5
  n : new.length ≤ 5
  lt : ∀ x, x < 2 ^ old.length → mk x < 2 ^ new.length
theorem made_at {n i : Nat} {mk : Nat → Nat} (h : i < 2 ^ n) : (sc nI ((Spec.items n).map mk))[i]? = some (.v (.int (mk i : Nat))) := by
  simp [Spec.items, h, nI]
section
variable {P : Program} {w : World} {K : PySem.W.Frag} {mg : Str → Option Value} {base : Heap} {A : Ad} {f : Addr} {fd : FuncData} {ρ : List (Option Dat)} {old new : List Spec.Units} {mk : Nat → Nat} {i : Nat}
theorem cf_old (T : Txt K mg A) (h : ρ[i]? = some (some (chD A old new mk))) : EvD K (tFld K (tVar i) "old_tags") ρ (tagsD old) := ev_fld (ev_var h) T.k_Change T.n_Change_old_tags lkH
theorem cf_new (T : Txt K mg A) (h : ρ[i]? = some (some (chD A old new mk))) : EvD K (tFld K (tVar i) "new_tags") ρ (tagsD new) := ev_fld (ev_var h) T.k_Change T.n_Change_new_tags ((lkP (by decide +kernel)).trans lkH)
theorem cf_made (T : Txt K mg A) (h : ρ[i]? = some (some (chD A old new mk))) : EvD K (tFld K (tVar i) "made") ρ (madeD old.length mk) := ev_fld (ev_var h) T.k_Change T.n_Change_made ((lkP (by decide +kernel)).trans ((lkP (by decide +kernel)).trans lkH))
theorem ch_no {m : Str} (h1 : (m == ("old_tags" : Str)) = false) (h2 : (m == ("new_tags" : Str)) = false) (h3 : (m == ("made" : Str)) = false) : (chG old new mk).lookup m = none :=
  (lkP h1).trans ((lkP h2).trans ((lkP h3).trans lkN))
theorem ev_lenTags {te : TE} {l : List Spec.Units} (h : EvD K te ρ (tagsD l)) : EvD K (tCB (rLen K) (tCons te tNil)) ρ (.v (.int (l.length : Nat))) :=
  (ev_cb (ev_cons h ev_nil) rc_lenL).to (by simp)
theorem ev_manyOf {te : TE} {l : List Spec.Units} {E : XK} (h : EvD K te ρ (tagsD l)) (hn : l.length ≤ 5) : EvD K (tCall (PureSp K R_many_items) [] E (tCons (tCB (rLen K) (tCons te tNil)) tNil)) ρ (.v (.int (2 ^ l.length : Nat))) :=
  ev_call (R := R_many_items) (ev_cons (ev_lenTags h) ev_nil) ⟨l.length, rfl, hn, rfl⟩
theorem ev_lenMade {te : TE} {n : Nat} (h : EvD K te ρ (madeD n mk)) : EvD K (tCB (rLen K) (tCons te tNil)) ρ (.v (.int (2 ^ n : Nat))) :=
  (ev_cb (ev_cons h ev_nil) rc_lenL).to (by simp [Spec.items])
theorem ev_lenT {te : TE} {n : Nat} {on : Nat → Bool} (h : EvD K te ρ (tabD n on)) : EvD K (tCB (rLen K) (tCons te tNil)) ρ (.v (.int (2 ^ n : Nat))) :=
  (ev_cb (ev_cons h ev_nil) rc_lenL).to (by simp [Spec.items])
theorem rep_all {α : Type} (c : α → V) (n : Nat) (b : α) (on : Nat → α) (h : ∀ m, m < 2 ^ n → on m = b) : (List.replicate (2 ^ n) [Dat.v (c b)]).flatten = sc c ((Spec.items n).map on) := by
  have e : (Spec.items n).map on = List.replicate (2 ^ n) b := by
    unfold Spec.items
    rw [List.eq_replicate_iff]
    refine ⟨by simp, fun x hx => ?_⟩
    obtain ⟨m, hm, rfl⟩ := List.mem_map.mp hx
    exact h m (List.mem_range.mp hm)
  rw [e]
  generalize 2 ^ n = k
  induction k with
  | zero => rfl
  | succ k ih =>
    rw [List.replicate_succ, List.flatten_cons, ih, List.replicate_succ]
    rfl
theorem ev_reps {α : Type} (c : α → V) {tx te : TE} {n : Nat} (hn : n ≤ 5) (b : α) (on : Nat → α) (ho : ∀ m, m < 2 ^ n → on m = b) (hx : EvN K tx ρ [.v (c b)]) (hm : EvD K te ρ (.v (.int (2 ^ n : Nat)))) :
    EvN K (tOp rTimes tx te) ρ (sc c ((Spec.items n).map on)) := by
  have h32 := small_pow hn
  refine (ev_opN (EvN.toD hx) hm (rv_timesL ⟨Int.natCast_nonneg _, Int.ofNat_le.mpr (Nat.le_trans h32 (by decide))⟩ (by simp))).to ?_
  rw [← rep_all c _ _ _ ho]
  have e0 : (((2 ^ n : Nat) : Int)).toNat = 2 ^ n := Int.toNat_natCast _
  rw [e0]
/-! ### __init__ -/
def R_Change (ds : List Dat) (r : Except Err (List (Str × Dat))) : Prop := ∃ old new mk, ds = [tagsD old, tagsD new, madeD old.length mk] ∧ r = .ok (chG old new mk)
theorem tags_flat (l : List Spec.Units) : (tagsD l).flat = true := Dat.stills_flats (uD_stills l)
theorem made_flat (n : Nat) (mk : Nat → Nat) : (madeD n mk).flat = true := Dat.stills_flats (sc_stills nI _)
abbrev s_Change_init : Stmt := inClass (top 46) 0
abbrev N_Change_init : List Str := ["self", "old_tags", "new_tags", "made"]
theorem sc_Change_init : FnScope N_Change_init ["self", "old_tags", "new_tags", "made"] (defScope s_Change_init) :=
  ⟨rfl, rfl, rfl, by decide +kernel, rfl, by decide +kernel, by decide +kernel⟩
theorem ok_Change (D : Di K mg "Change" A.ch "Change.__init__" s_Change_init ["self", "old_tags", "new_tags", "made"] f fd) (T : Txt K mg A) : Mc P w K mg base CX0 1 "Change" A.ch (MkSp K A.rf A.ch R_Change) := by
  refine D.mc (D.fn.ok sc_Change_init (fun vs H Q E h => ?_) (fun cdv _ outer s H vs Q E hr h => ⟨_, (pss_cons (ps_fldK K (pv 0) (pv 1) rfl)
    (pss_cons (ps_fldK K (pv 0) (pv 2) rfl)
    (pss_one (ps_fldK K (pv 0) (pv 3) rfl)))), ?_⟩))
  · obtain ⟨a, dx, vs', ds, r, rfl, _, r1, ⟨old, new, mk, rfl, _⟩, _⟩ := h
    have := r1.length
    simp [this]
  · obtain ⟨a, dx, vs', ds, r, rfl, ha, r1, ⟨old, new, mk, rfl, hr'⟩, kok, kerr⟩ := h
    have b0 := bst_start N_Change_init ha r1
    refine s_seq (b_fld b0 T.k_Change T.n_Change_old_tags (ev_var rfl) (tags_flat old) rfl (by simp) fun H1 s1 b1 => ?_)
    refine s_seq (b_fld b1 T.k_Change T.n_Change_new_tags (ev_var rfl) (tags_flat new) (lkP (by decide +kernel)) (by simp) fun H2 s2 b2 => ?_)
    refine b_fld b2 T.k_Change T.n_Change_made (ev_var rfl) (made_flat _ mk) ((lkP (by decide +kernel)).trans (lkP (by decide +kernel))) (by simp) fun H3 s3 b3 => ?_
    obtain ⟨dx', fs, h1, h2⟩ := b3.at_
    exact kok _ hr' H3 dx' fs ((s1.trans s2).trans s3) h1 h2
theorem ev_mk {te : TA} {E : XK} (h : EvA K te ρ [tagsD old, tagsD new, madeD old.length mk]) : EvD K (tMake A.ch (MkSp K A.rf A.ch R_Change) [] E te) ρ (chD A old new mk) := by
  have := ev_mkX (Cx := A.rf) (C := A.ch) (E := E) (R := R_Change) (r := .ok (chG old new mk)) h ⟨old, new, mk, rfl, rfl⟩
  exact EvX.ok this
end
end Tg
end

section
set_option Elab.async false
set_option linter.all false
set_option maxRecDepth 100000
set_option maxHeartbeats 4000000
/-! Changes: what is made of items, texts. -/
namespace Tg
open PySem PySem.Spec PyProof.Rows L2
open R7292f
def byM (n : Nat) (mk : Nat → Nat) (on : Nat → Bool) (y : Nat) : Bool := (Spec.items n).any fun x => mk x == y && on x
def byT (t : Nat) (mk : Nat → Nat) (on : Nat → Bool) (y : Nat) : Bool := (List.range t).any fun x => mk x == y && on x
theorem byT_succ (t : Nat) (mk : Nat → Nat) (on : Nat → Bool) (y : Nat) : byT (t + 1) mk on y = (byT t mk on y || (mk t == y && on t)) := by
  unfold byT
  rw [List.range_succ, List.any_append]
  simp
def lastT (mk : Nat → Nat) : Nat → Nat → Nat
  | 0, _ => 0
  | t + 1, y => if mk t = y then t else lastT mk t y
section
variable {P : Program} {w : World} {K : PySem.W.Frag} {mg : Str → Option Value} {base : Heap} {A : Ad} {f : Addr} {fd : FuncData} {ρ : List (Option Dat)}
abbrev s_Change_by_made : Stmt := inClass (top 46) 1
abbrev N_Change_by_made : List Str := ["self", "wanted", "found", "item"]
theorem sc_Change_by_made : FnScope N_Change_by_made ["self", "wanted"] (defScope s_Change_by_made) :=
  ⟨rfl, rfl, rfl, by decide +kernel, rfl, by decide +kernel, by decide +kernel⟩
def R_by_made (A : Ad) (ds : List Dat) (es : List Dat) : Prop := ∃ old new mk on, ds = [chD A old new mk, tabD old.length on] ∧ ChOk old new mk ∧ es = sc V.bl ((Spec.items new.length).map (byM old.length mk on))
theorem ok_by_made (D : Dm K A.ch "by_made" "Change.by_made" s_Change_by_made ["self", "wanted"] f fd) (T : Txt K mg A) (g_many_items : Cl P w K mg base CX0 1 "many_items" (PureSp K R_many_items)) : Mt P w K mg base CX0 2 A.ch "by_made" (NewSp K (R_by_made A)) := by
  refine D.mt' (ok_new D.fn sc_Change_by_made (fun ds es h => ?_) fun cdv _ outer s H E hr => ⟨_, (pss_cons (ps_set (i := 2) sc_Change_by_made.nd rfl (Or.inl rfl) (pe_op op_times (pe_lst (pa_cons pe_bl pa_nil)) (pe_cl g_many_items hr (by omega) pass0 (by rfl) (pa_cons (pe_callB (call_lenGK K) (by rfl) T.b_len bt_len (pa_cons (pe_fldK K (pv 0) rfl) pa_nil)) pa_nil))))
    (pss_cons (ps_for PassesOwn.never rfl (pi_range1 rfl T.b_range (pa_cons (pe_callB (call_lenGK K) (by rfl) T.b_len bt_len (pa_cons (pv 1) pa_nil)) pa_nil)) (pg_name (i := 3) sc_Change_by_made.nd rfl (Or.inl rfl)) (pss_one (ps_asg (pe_or (pe_ix (ix_seqK K) (pv 2) (pe_ix (ix_seqK K) (pe_fldK K (pv 0) rfl) (pv 3) (fun _ _ => rfl)) (fun _ _ => rfl)) (pe_one (pe_ix (ix_seqK K) (pv 1) (pv 3) (fun _ _ => rfl)))) (pg_sub (pv 2) (pe_ix (ix_seqK K) (pe_fldK K (pv 0) rfl) (pv 3) (fun _ _ => rfl)) set_list))))
    (pss_one (ps_ret (pv 2))))), ?_⟩)
  · obtain ⟨old, new, mk, on, rfl, _⟩ := h
    rfl
  · rintro ds es ⟨old, new, mk, on, rfl, c, rfl⟩ σ H Q e k
    have h32 := small_pow c.o
    refine s_seq (s_asgN e (ev_reps V.bl c.n false (byT 0 mk on) (fun _ _ => rfl) (ev_lst (ev_cons ev_c ev_nil)) (ev_manyOf (cf_new T rfl) c.n)) fun p vs H1 np s1 h1 r1 => ?_)
    have a := Acc.begin (i := 2) e np s1 h1 r1 (sc_stills _ _)
    refine s_seq (a_forR (fun _ => [some (chD A old new mk), some (tabD old.length on), none, none]) (fun t => sc V.bl ((Spec.items new.length).map (byT t mk on))) a (ev_cons (ev_lenT (ev_var rfl)) ev_nil) (by omega) (by decide) ?_ ?_)
    · intro t σ' H' ht a
      have hm := c.lt t ht
      refine a_put a rfl (d := .v (.bl (byT (t + 1) mk on (mk t)))) ((ev_orV (c := byT t mk on (mk t)) (c' := on t) (ev_op (ev_var rfl) (ev_op (cf_made T rfl) (ev_var rfl) (rv_ixL (by omega) (made_at (show (t : Int).toNat < 2 ^ old.length by simpa using ht)))) (rv_ixL (by omega) ?_)) fun _ => ev_op (ev_var rfl) (ev_var rfl) (rv_ixL (by omega) (tab_at (show (t : Int).toNat < 2 ^ old.length by simpa using ht)))).to ?_)
        (ev_op (cf_made T rfl) (ev_var rfl) (rv_ixL (by omega) (made_at (show (t : Int).toNat < 2 ^ old.length by simpa using ht)))) rfl ?_ fun H2 a2 => ?_
      · have e0 : ((mk (t : Int).toNat : Nat) : Int).toNat = mk t := by simp
        rw [e0]
        exact tab_at hm
      · rw [byT_succ]
        simp
      · simp [Spec.items]
        exact hm
      · have e0 : (mk (t : Int).toNat) = mk t := by simp
        rw [e0, map_set V.bl new.length (mk t) (byT t mk on) (byT (t + 1) mk on) hm fun y _ hy => by rw [byT_succ]; simp [Ne.symm hy]] at a2
        exact a2.forget (j := 3) (by decide)
    · intro σ' H' a
      exact a_ret a rfl fun p ws H6 n6 s6 h6 r6 => k p ws H6 n6 s6 h6 r6
abbrev s_Change_unreached : Stmt := inClass (top 46) 2
abbrev N_Change_unreached : List Str := ["self", "one"]
theorem sc_Change_unreached : FnScope N_Change_unreached ["self"] (defScope s_Change_unreached) :=
  ⟨rfl, rfl, rfl, by decide +kernel, rfl, by decide +kernel, by decide +kernel⟩
def freeM (n : Nat) (mk : Nat → Nat) (y : Nat) : Bool := !byM n mk (fun _ => true) y
def R_unreached (A : Ad) (ds : List Dat) (es : List Dat) : Prop := ∃ old new mk, ds = [chD A old new mk] ∧ ChOk old new mk ∧ es = sc V.bl ((Spec.items new.length).map (freeM old.length mk))
theorem ok_unreached (D : Dm K A.ch "unreached" "Change.unreached" s_Change_unreached ["self"] f fd) (T : Txt K mg A) (g_Change_by_made : Mt P w K mg base CX0 2 A.ch "by_made" (NewSp K (R_by_made A))) : Mt P w K mg base CX0 3 A.ch "unreached" (NewSp K (R_unreached A)) := by
  refine D.mt' (ok_new D.fn sc_Change_unreached (fun ds es h => ?_) fun cdv _ outer s H E hr => ⟨_, (pss_one (ps_ret (pe_lc (own := [("one", 1)]) (by rfl) sc_Change_unreached.nd (pi_seqK K (pe_mtX g_Change_by_made hr (by omega) pass0 (pv 0) (pa_cons (pe_op op_times (pe_lst (pa_cons pe_bl pa_nil)) (pe_callB (call_lenGK K) (by rfl) T.b_len bt_len (pa_cons (pe_fldK K (pv 0) rfl) pa_nil))) pa_nil))) (blkOk_by (own := [("one", 1)]) (N := N_Change_unreached) (sc := defScope s_Change_unreached) (by decide +kernel)) (fun _ _ _ _ _ => (pg_name (i := 1) sc_Change_unreached.nd rfl (Or.inl rfl))) (fun _ _ _ _ _ => pts_nil) (fun _ _ _ _ _ => (pe_not (pv 1)))))), ?_⟩)
  · obtain ⟨old, new, mk, rfl, _⟩ := h
    rfl
  · rintro ds es ⟨old, new, mk, rfl, c, rfl⟩ σ H Q e k
    have h32 := small_pow c.o
    have h33 := small_pow c.n
    refine s_retN e ((ev_lcL1 (l := (Spec.items new.length).map (byM old.length mk fun _ => true)) (fun b => .v (.bl b)) (fun b => .v (.bl (!b)))
      (EvN.toD (ev_methN (R := R_by_made A) (gs := chG old new mk) (ev_var rfl) (ch_no (by decide +kernel) (by decide +kernel) (by decide +kernel))
        (ev_cons (EvN.toD (ev_reps V.bl c.o true (fun _ => true) (fun _ _ => rfl) (ev_lst (ev_cons ev_c ev_nil)) (ev_lenMade (cf_made T rfl)))) ev_nil) ⟨old, new, mk, fun _ => true, rfl, c, rfl⟩))
      (by simp [Spec.items]; omega) (fun _ _ => rfl) fun x _ => ev_notV (ev_var rfl)).to ?_) k
    rw [List.map_map]
    unfold sc
    rw [List.map_map]
    rfl
abbrev s_Change_least : Stmt := inClass (top 46) 3
abbrev N_Change_least : List Str := ["self", "wanted"]
theorem sc_Change_least : FnScope N_Change_least ["self", "wanted"] (defScope s_Change_least) :=
  ⟨rfl, rfl, rfl, by decide +kernel, rfl, by decide +kernel, by decide +kernel⟩
def leastU (old new : List Spec.Units) (mk : Nat → Nat) (on : Nat → Bool) : Spec.Units := Spec.canonical new (byM old.length mk on) (freeM old.length mk)
def R_least (A : Ad) (ds : List Dat) (es : List Dat) : Prop := ∃ old new mk on, ds = [chD A old new mk, tabD old.length on] ∧ ChOk old new mk ∧ Good new ∧ es = sc uI (leastU old new mk on)
theorem ok_least (D : Dm K A.ch "least" "Change.least" s_Change_least ["self", "wanted"] f fd) (T : Txt K mg A) (g_canonical : Cl P w K mg base CX0 5 "canonical" (NewSp K R_canonical)) (g_Change_by_made : Mt P w K mg base CX0 2 A.ch "by_made" (NewSp K (R_by_made A)))
    (g_Change_unreached : Mt P w K mg base CX0 3 A.ch "unreached" (NewSp K (R_unreached A))) : Mt P w K mg base CX0 6 A.ch "least" (NewSp K (R_least A)) := by
  refine D.mt' (ok_new D.fn sc_Change_least (fun ds es h => ?_) fun cdv _ outer s H E hr => ⟨_, (pss_one (ps_ret (pe_cl g_canonical hr (by omega) pass0 (by rfl) (pa_cons (pe_fldK K (pv 0) rfl) (pa_cons (pe_mtX g_Change_by_made hr (by omega) pass0 (pv 0) (pa_cons (pv 1) pa_nil)) (pa_cons (pe_mt0X g_Change_unreached hr (by omega) pass0 (pv 0)) pa_nil)))))), ?_⟩)
  · obtain ⟨old, new, mk, on, rfl, _⟩ := h
    rfl
  · rintro ds es ⟨old, new, mk, on, rfl, c, g, rfl⟩ σ H Q e k
    exact s_retN e (ev_callN (R := R_canonical) (ev_cons (cf_new T rfl) (ev_cons (EvN.toD (ev_methN (R := R_by_made A) (gs := chG old new mk) (ev_var rfl) (ch_no (by decide +kernel) (by decide +kernel) (by decide +kernel)) (ev_cons (ev_var rfl) ev_nil) ⟨old, new, mk, on, rfl, c, rfl⟩))
      (ev_cons (EvN.toD (ev_methN (R := R_unreached A) (gs := chG old new mk) (ev_var rfl) (ch_no (by decide +kernel) (by decide +kernel) (by decide +kernel)) ev_nil ⟨old, new, mk, rfl, c, rfl⟩)) ev_nil))) ⟨new, byM old.length mk on, freeM old.length mk, rfl, c.n, g, rfl⟩) k
abbrev s_Change_greatest : Stmt := inClass (top 46) 4
abbrev N_Change_greatest : List Str := ["self", "wanted", "others", "free", "rows", "one", "other"]
theorem sc_Change_greatest : FnScope N_Change_greatest ["self", "wanted"] (defScope s_Change_greatest) :=
  ⟨rfl, rfl, rfl, by decide +kernel, rfl, by decide +kernel, by decide +kernel⟩
def mostM (n : Nat) (mk : Nat → Nat) (on : Nat → Bool) (y : Nat) : Bool := !byM n mk (fun x => !on x) y && !freeM n mk y
def greatestU (old new : List Spec.Units) (mk : Nat → Nat) (on : Nat → Bool) : Spec.Units := Spec.canonical new (mostM old.length mk on) (freeM old.length mk)
def R_greatest (A : Ad) (ds : List Dat) (es : List Dat) : Prop := ∃ old new mk on, ds = [chD A old new mk, tabD old.length on] ∧ ChOk old new mk ∧ Good new ∧ es = sc uI (greatestU old new mk on)
theorem ok_greatest (D : Dm K A.ch "greatest" "Change.greatest" s_Change_greatest ["self", "wanted"] f fd) (T : Txt K mg A) (g_canonical : Cl P w K mg base CX0 5 "canonical" (NewSp K R_canonical)) (g_Change_by_made : Mt P w K mg base CX0 2 A.ch "by_made" (NewSp K (R_by_made A)))
    (g_Change_unreached : Mt P w K mg base CX0 3 A.ch "unreached" (NewSp K (R_unreached A))) : Mt P w K mg base CX0 6 A.ch "greatest" (NewSp K (R_greatest A)) := by
  refine D.mt' (ok_new D.fn sc_Change_greatest (fun ds es h => ?_) fun cdv _ outer s H E hr => ⟨_, (pss_cons (ps_set (i := 2) sc_Change_greatest.nd rfl (Or.inl rfl) (pe_mtX g_Change_by_made hr (by omega) pass0 (pv 0) (pa_cons (pe_lc (own := [("one", 5)]) (by rfl) sc_Change_greatest.nd (pi_seqK K (pv 1)) (blkOk_by (own := [("one", 5)]) (N := N_Change_greatest) (sc := defScope s_Change_greatest) (by decide +kernel)) (fun _ _ _ _ _ => (pg_name (i := 5) sc_Change_greatest.nd rfl (Or.inl rfl))) (fun _ _ _ _ _ => pts_nil) (fun _ _ _ _ _ => (pe_not (pv 5)))) pa_nil)))
    (pss_cons (ps_set (i := 3) sc_Change_greatest.nd rfl (Or.inl rfl) (pe_mt0X g_Change_unreached hr (by omega) pass0 (pv 0)))
    (pss_cons (ps_setLc (i := 4) (own := [("one", 5), ("other", 6)]) (by rfl) sc_Change_greatest.nd rfl rfl (sw_true rfl rfl rfl (by decide +kernel)) (pi_zipK K (by rfl) T.b_zip (pa_cons (pv 2) (pa_cons (pv 3) pa_nil))) (blkOk_by (own := [("one", 5), ("other", 6)]) (N := N_Change_greatest) (sc := defScope s_Change_greatest) (by decide +kernel)) (fun _ _ _ _ _ => (pg_tupK K (n := 2) (by rfl) (pgs_cons (pg_name (i := 5) sc_Change_greatest.nd rfl (Or.inl rfl)) (pgs_cons (pg_name (i := 6) sc_Change_greatest.nd rfl (Or.inl rfl)) pgs_nil)))) (fun _ _ _ _ _ => pts_nil) (fun _ _ _ _ _ => (pe_and (pe_not (pv 5)) (pe_one (pe_not (pv 6))))))
    (pss_one (ps_ret (pe_cl g_canonical hr (by omega) pass0 (by rfl) (pa_cons (pe_fldK K (pv 0) rfl) (pa_cons (pv 4) (pa_cons (pv 3) pa_nil))))))))), ?_⟩)
  · obtain ⟨old, new, mk, on, rfl, _⟩ := h
    rfl
  · rintro ds es ⟨old, new, mk, on, rfl, c, g, rfl⟩ σ H Q e k
    have h32 := small_pow c.o
    have h33 := small_pow c.n
    have hneg : EvN K (tLc (iSeq K (tVar 1)) (gName 5) tYes (tNotV (tVar 5)) [5]) (begin N_Change_greatest [chD A old new mk, tabD old.length on]) (sc V.bl ((Spec.items old.length).map fun x => !on x)) :=
      (ev_lcL1 (l := (Spec.items old.length).map on) (fun b => .v (.bl b)) (fun b => .v (.bl (!b))) (ev_var rfl) (by simp [Spec.items]; omega) (fun _ _ => rfl) fun x _ => ev_notV (ev_var rfl)).to (by rw [List.map_map]; unfold sc; rw [List.map_map]; rfl)
    refine s_seq (s_asg (d := tabD new.length (byM old.length mk fun x => !on x)) e (EvN.toD (ev_methN (R := R_by_made A) (gs := chG old new mk) (ev_var rfl) (ch_no (by decide +kernel) (by decide +kernel) (by decide +kernel)) (ev_cons (EvN.toD hneg) ev_nil) ⟨old, new, mk, fun x => !on x, rfl, c, rfl⟩)) fun σ1 H1 s1 e1 => ?_)
    refine s_seq (s_asg (d := tabD new.length (freeM old.length mk)) e1 (EvN.toD (ev_methN (R := R_unreached A) (gs := chG old new mk) (ev_var rfl) (ch_no (by decide +kernel) (by decide +kernel) (by decide +kernel)) ev_nil ⟨old, new, mk, rfl, c, rfl⟩)) fun σ2 H2 s2 e2 => ?_)
    refine s_seq (s_asg (d := tabD new.length (mostM old.length mk on)) e2 (EvN.toD ((ev_lcZ (j := 5) (k := 6) (fun x y => !x && !y) (ev_var (i := 2) rfl) (ev_var (i := 3) rfl) (by simp) (by simp [Spec.items]; omega) (by decide) fun x y => ev_andV (ev_notV (ev_var rfl)) fun _ => ev_notV (ev_var rfl)).to ?_)) fun σ3 H3 s3 e3 => ?_)
    · rw [List.zip_map', List.map_map]
      rfl
    refine s_retN e3 (ev_callN (R := R_canonical) (ev_cons (cf_new T rfl) (ev_cons (ev_var rfl) (ev_cons (ev_var rfl) ev_nil))) ⟨new, mostM old.length mk on, freeM old.length mk, rfl, c.n, g, rfl⟩) fun p ws H4 n4 s4 h4 r4 => k p ws H4 (((s1.trans s2).trans s3).free n4) (((s1.trans s2).trans s3).trans s4) h4 r4
abbrev s_Change_is_lossless : Stmt := inClass (top 46) 6
abbrev N_Change_is_lossless : List Str := ["self"]
theorem sc_Change_is_lossless : FnScope N_Change_is_lossless ["self"] (defScope s_Change_is_lossless) :=
  ⟨rfl, rfl, rfl, by decide +kernel, rfl, by decide +kernel, by decide +kernel⟩
def losslessM (n : Nat) (mk : Nat → Nat) : Bool := decide (distinct ((Spec.items n).map fun x => (mk x : Int)) = 2 ^ n)
def R_lossless (A : Ad) (ds : List Dat) (d : Dat) : Prop := ∃ old new mk, ds = [chD A old new mk] ∧ old.length ≤ 5 ∧ d = .v (.bl (losslessM old.length mk))
theorem ok_lossless (D : Dm K A.ch "is_lossless" "Change.is_lossless" s_Change_is_lossless ["self"] f fd) (T : Txt K mg A) : Mt P w K mg base CX0 1 A.ch "is_lossless" (PureSp K (R_lossless A)) := by
  refine D.mt' (ok_pure D.fn sc_Change_is_lossless (fun ds es h => ?_) fun cdv _ outer s H E hr => ⟨_, (pss_one (ps_ret (pe_cmpR (op_eqGK K hr.units) (pe_lenSet2K K (by rfl) (by rfl) T.b_len (by rfl) T.b_set hr.units (pe_fldK K (pv 0) rfl)) (pe_callB (call_lenGK K) (by rfl) T.b_len bt_len (pa_cons (pe_fldK K (pv 0) rfl) pa_nil)) (nomark _)))), ?_⟩)
  · obtain ⟨old, new, mk, rfl, _⟩ := h
    rfl
  · rintro ds d ⟨old, new, mk, rfl, ho, rfl⟩ σ H Q e k
    have h32 := small_pow ho
    have hm : EvD K (tFld K (tVar 0) "made") (begin N_Change_is_lossless [chD A old new mk]) (.lst (sc V.int ((Spec.items old.length).map fun x => (mk x : Int)))) := (cf_made T rfl).to (by unfold madeD sc nI; rw [List.map_map, List.map_map]; rfl)
    refine s_ret e ((ev_op (ev_setI hm (by simp [Spec.items]; omega)) (ev_lenMade (cf_made T rfl)) rv_eqI).to ?_) k
    unfold losslessM
    congr 2
    exact decide_eq_decide.mpr Int.ofNat_inj
abbrev s_Change_definition : Stmt := inClass (top 46) 7
abbrev N_Change_definition : List Str := ["self", "tag", "wanted", "made"]
theorem sc_Change_definition : FnScope N_Change_definition ["self", "tag"] (defScope s_Change_definition) :=
  ⟨rfl, rfl, rfl, by decide +kernel, rfl, by decide +kernel, by decide +kernel⟩
def defU (old : List Spec.Units) (mk : Nat → Nat) (i : Nat) : Spec.Units := Spec.canonical old (fun x => (mk x).testBit i) Spec.never
def R_definition (A : Ad) (ds : List Dat) (es : List Dat) : Prop := ∃ old new mk, ∃ i : Nat, ds = [chD A old new mk, .v (.int i)] ∧ i ≤ 5 ∧ ChOk old new mk ∧ Good old ∧ es = sc uI (defU old mk i)
theorem ok_definition (D : Dm K A.ch "definition" "Change.definition" s_Change_definition ["self", "tag"] f fd) (T : Txt K mg A) (g_canonical : Cl P w K mg base CX0 5 "canonical" (NewSp K R_canonical)) (g_has : Cl P w K mg base CX0 1 "has" (PureSp K R_has)) : Mt P w K mg base CX0 6 A.ch "definition" (NewSp K (R_definition A)) := by
  refine D.mt' (ok_new D.fn sc_Change_definition (fun ds es h => ?_) fun cdv _ outer s H E hr => ⟨_, (pss_cons (ps_setLc (i := 2) (own := [("made", 3)]) (by rfl) sc_Change_definition.nd rfl rfl (sw_true rfl rfl rfl (by decide +kernel)) (pi_seqK K (pe_fldK K (pv 0) rfl)) (blkOk_by (own := [("made", 3)]) (N := N_Change_definition) (sc := defScope s_Change_definition) (by decide +kernel)) (fun _ _ _ _ _ => (pg_name (i := 3) sc_Change_definition.nd rfl (Or.inl rfl))) (fun _ _ _ _ _ => pts_nil) (fun _ _ _ _ _ => (pe_cl g_has hr (by omega) pass0 (by rfl) (pa_cons (pv 3) (pa_cons (pv 1) pa_nil)))))
    (pss_one (ps_ret (pe_cl g_canonical hr (by omega) pass0 (by rfl) (pa_cons (pe_fldK K (pv 0) rfl) (pa_cons (pv 2) (pa_cons (pe_op op_times (pe_lst (pa_cons pe_bl pa_nil)) (pe_callB (call_lenGK K) (by rfl) T.b_len bt_len (pa_cons (pv 2) pa_nil))) pa_nil))))))), ?_⟩)
  · obtain ⟨old, new, mk, i, rfl, _⟩ := h
    rfl
  · rintro ds es ⟨old, new, mk, i, rfl, hi, c, g, rfl⟩ σ H Q e k
    have h32 := small_pow c.o
    refine s_seq (s_asg (d := tabD old.length fun x => (mk x).testBit i) e (EvN.toD ((ev_lcL1 (j := 3) (l := (Spec.items old.length).map mk) (fun m => .v (nI m)) (fun m => .v (.bl (m.testBit i))) (cf_made T rfl) (by simp [Spec.items]; omega) (fun _ _ => rfl) fun m _ =>
      ev_call (R := R_has) (ev_cons (ev_var rfl) (ev_cons (ev_var rfl) ev_nil)) ⟨m, i, rfl, hi, rfl⟩).to ?_)) fun σ1 H1 s1 e1 => ?_)
    · rw [List.map_map]
      unfold sc
      rw [List.map_map]
      rfl
    refine s_retN e1 (ev_callN (R := R_canonical) (ev_cons (cf_old T rfl) (ev_cons (ev_var rfl) (ev_cons (EvN.toD (ev_reps V.bl c.o false Spec.never (fun _ _ => rfl) (ev_lst (ev_cons ev_c ev_nil)) (ev_lenT (ev_var rfl)))) ev_nil))) ⟨old, fun x => (mk x).testBit i, Spec.never, rfl, c.o, g, rfl⟩) fun p ws H4 n4 s4 h4 r4 => k p ws H4 (s1.free n4) (s1.trans s4) h4 r4
abbrev s_Change_back : Stmt := inClass (top 46) 8
abbrev N_Change_back : List Str := ["self", "found", "item"]
theorem sc_Change_back : FnScope N_Change_back ["self"] (defScope s_Change_back) :=
  ⟨rfl, rfl, rfl, by decide +kernel, rfl, by decide +kernel, by decide +kernel⟩
def R_back (A : Ad) (ds : List Dat) (d : Dat) : Prop := ∃ old new mk, ds = [chD A old new mk] ∧ ChOk old new mk ∧ d = chD A new old (lastT mk (2 ^ old.length))
theorem ok_back (D : Dm K A.ch "back" "Change.back" s_Change_back ["self"] f fd) (T : Txt K mg A) (g_many_items : Cl P w K mg base CX0 1 "many_items" (PureSp K R_many_items)) (g_Change_init : Mc P w K mg base CX0 1 "Change" A.ch (MkSp K A.rf A.ch R_Change)) : Mt P w K mg base CX0 3 A.ch "back" (PureSp K (R_back A)) := by
  refine D.mt' (ok_pure D.fn sc_Change_back (fun ds es h => ?_) fun cdv _ outer s H E hr => ⟨_, (pss_cons (ps_set (i := 1) sc_Change_back.nd rfl (Or.inl rfl) (pe_op op_times (pe_lst (pa_cons pe_int pa_nil)) (pe_cl g_many_items hr (by omega) pass0 (by rfl) (pa_cons (pe_callB (call_lenGK K) (by rfl) T.b_len bt_len (pa_cons (pe_fldK K (pv 0) rfl) pa_nil)) pa_nil))))
    (pss_cons (ps_for PassesOwn.never rfl (pi_range1 rfl T.b_range (pa_cons (pe_callB (call_lenGK K) (by rfl) T.b_len bt_len (pa_cons (pe_fldK K (pv 0) rfl) pa_nil)) pa_nil)) (pg_name (i := 2) sc_Change_back.nd rfl (Or.inl rfl)) (pss_one (ps_asg (pv 2) (pg_sub (pv 1) (pe_ix (ix_seqK K) (pe_fldK K (pv 0) rfl) (pv 2) (fun _ _ => rfl)) set_list))))
    (pss_one (ps_ret (pe_mkX g_Change_init hr (by omega) pass0 (by rfl) (pa_cons (pe_fldK K (pv 0) rfl) (pa_cons (pe_fldK K (pv 0) rfl) (pa_cons (pv 1) pa_nil)))))))), ?_⟩)
  · obtain ⟨old, new, mk, rfl, _⟩ := h
    rfl
  · rintro ds d ⟨old, new, mk, rfl, c, rfl⟩ σ H Q e k
    have h32 := small_pow c.o
    refine s_seq (s_asgN e (ev_reps nI c.n 0 (lastT mk 0) (fun _ _ => rfl) (ev_lst (ev_cons ev_c ev_nil)) (ev_manyOf (cf_new T rfl) c.n)) fun p vs H1 np s1 h1 r1 => ?_)
    have a := Acc.begin (i := 1) e np s1 h1 r1 (sc_stills _ _)
    refine s_seq (a_forR (fun _ => [some (chD A old new mk), none, none]) (fun t => sc nI ((Spec.items new.length).map (lastT mk t))) a (ev_cons (ev_lenMade (cf_made T rfl)) ev_nil) (by omega) (by decide) ?_ ?_)
    · intro t σ' H' ht a
      have hm := c.lt t ht
      refine a_put a rfl (d := .v (nI t)) (ev_var rfl) (ev_op (cf_made T rfl) (ev_var rfl) (rv_ixL (by omega) (made_at (show (t : Int).toNat < 2 ^ old.length by simpa using ht)))) rfl ?_ fun H2 a2 => ?_
      · simp [Spec.items]
        exact hm
      · have e0 : (mk (t : Int).toNat) = mk t := by simp
        have e1 : nI t = nI (lastT mk (t + 1) (mk t)) := by simp [lastT]
        rw [e0, e1, map_set nI new.length (mk t) (lastT mk t) (lastT mk (t + 1)) hm fun y _ hy => by simp [lastT, Ne.symm hy]] at a2
        exact a2.forget (j := 2) (by decide)
    · intro σ' H' a
      refine (ev_mk (mk := lastT mk (2 ^ old.length)) (ev_cons (cf_new (i := 0) T rfl) (ev_cons (cf_old (i := 0) T rfl) (ev_cons (ev_var rfl) ev_nil)))) σ' H' a.all _ fun v H2 s2 r2 => k v H2 (a.out.trans s2) r2
abbrev s_Change_followed : Stmt := inClass (top 46) 9
abbrev N_Change_followed : List Str := ["self", "other", "item"]
theorem sc_Change_followed : FnScope N_Change_followed ["self", "other"] (defScope s_Change_followed) :=
  ⟨rfl, rfl, rfl, by decide +kernel, rfl, by decide +kernel, by decide +kernel⟩
def R_followed (A : Ad) (ds : List Dat) (d : Dat) : Prop := ∃ old new mk new2 mk2, ds = [chD A old new mk, chD A new new2 mk2] ∧ ChOk old new mk ∧ d = chD A old new2 (fun x => mk2 (mk x))
theorem ok_followed (D : Dm K A.ch "followed" "Change.followed" s_Change_followed ["self", "other"] f fd) (T : Txt K mg A) (g_Change_init : Mc P w K mg base CX0 1 "Change" A.ch (MkSp K A.rf A.ch R_Change)) : Mt P w K mg base CX0 3 A.ch "followed" (PureSp K (R_followed A)) := by
  refine D.mt' (ok_pure D.fn sc_Change_followed (fun ds es h => ?_) fun cdv _ outer s H E hr => ⟨_, (pss_one (ps_ret (pe_mkX g_Change_init hr (by omega) pass0 (by rfl) (pa_cons (pe_fldK K (pv 0) rfl) (pa_cons (pe_fldK K (pv 1) rfl) (pa_cons (pe_lc (own := [("item", 2)]) (by rfl) sc_Change_followed.nd (pi_seqK K (pe_fldK K (pv 0) rfl)) (blkOk_by (own := [("item", 2)]) (N := N_Change_followed) (sc := defScope s_Change_followed) (by decide +kernel)) (fun _ _ _ _ _ => (pg_name (i := 2) sc_Change_followed.nd rfl (Or.inl rfl))) (fun _ _ _ _ _ => pts_nil) (fun _ _ _ _ _ => (pe_ix (ix_seqK K) (pe_fldK K (pv 1) rfl) (pv 2) (fun _ _ => rfl)))) pa_nil)))))), ?_⟩)
  · obtain ⟨old, new, mk, new2, mk2, rfl, _⟩ := h
    rfl
  · rintro ds d ⟨old, new, mk, new2, mk2, rfl, c, rfl⟩ σ H Q e k
    have h32 := small_pow c.o
    refine s_ret e (ev_mk (mk := fun x => mk2 (mk x)) (ev_cons (cf_old (i := 0) T rfl) (ev_cons (cf_new (i := 1) T rfl) (ev_cons (EvN.toD ((ev_lcL1 (j := 2) (l := (Spec.items old.length).map mk) (fun m => .v (nI m)) (fun m => .v (nI (mk2 m))) (cf_made (i := 0) T rfl) (by simp [Spec.items]; omega) (fun _ _ => rfl) fun m hm => ?_).to ?_)) ev_nil)))) k
    · have hlt : m < 2 ^ new.length := by
        obtain ⟨x, hx, rfl⟩ := List.mem_map.mp hm
        exact c.lt x (by simpa [Spec.items] using hx)
      exact (ev_op (cf_made (i := 1) T rfl) (ev_var rfl) (rv_ixL (d := .v (nI (mk2 m))) (by omega) (by have e0 : (m : Int).toNat = m := Int.toNat_natCast m; rw [e0]; exact made_at hlt)))
    · rw [List.map_map]
      unfold sc
      rw [List.map_map]
      rfl
/-! ### change_of -/
abbrev s_change_of : Stmt := top 47
abbrev N_change_of : List Str := ["old_tags", "new_tags", "tables", "made", "item", "tag"]
theorem sc_change_of : FnScope N_change_of ["old_tags", "new_tags", "tables"] (defScope s_change_of) :=
  ⟨rfl, rfl, rfl, by decide +kernel, rfl, by decide +kernel, by decide +kernel⟩
/-- an item's image under tables -/
def imgT (ts : List (Nat → Bool)) (x : Nat) : Nat := Spec.fromBits (ts.map fun t => t x)
def R_change_of (A : Ad) (ds : List Dat) (d : Dat) : Prop := ∃ old new ts, ds = [tagsD old, tagsD new, .lst (ts.map (tabD old.length))] ∧ old.length ≤ 5 ∧ ts.length ≤ 5 ∧ d = chD A old new (imgT ts)
theorem bits_sum : ∀ (l : List Bool) (b : Nat), (((List.range l.length).filter fun i => l.getD i false).map fun i => ((2 ^ (b + i) : Nat) : Int)).sum = ((2 ^ b * Spec.fromBits l : Nat) : Int)
  | [], b => by simp [Spec.fromBits]
  | x :: r, b => by
    rw [List.length_cons, List.range_succ_eq_map, List.filter_cons]
    have ih := bits_sum r (b + 1)
    have e : ((List.map Nat.succ (List.range r.length)).filter fun i => (x :: r).getD i false) = ((List.range r.length).filter fun i => r.getD i false).map Nat.succ := by
      rw [List.filter_map]
      rfl
    have e2 : (((List.map Nat.succ ((List.range r.length).filter fun i => r.getD i false)).map fun i => ((2 ^ (b + i) : Nat) : Int))).sum = ((2 ^ (b + 1) * Spec.fromBits r : Nat) : Int) := by
      rw [List.map_map, ← ih]
      congr 1
      apply List.map_congr_left
      intro i _
      show ((2 ^ (b + (i + 1)) : Nat) : Int) = ((2 ^ (b + 1 + i) : Nat) : Int)
      rw [show b + (i + 1) = b + 1 + i by omega]
    rw [e]
    have e3 : (2 : Nat) ^ (b + 1) * Spec.fromBits r = 2 ^ b * (2 * Spec.fromBits r) := by rw [Nat.pow_succ, Nat.mul_assoc]
    cases x with
    | true =>
      show ((if true = true then 0 :: _ else _ : List Nat).map _).sum = _
      rw [if_pos rfl, List.map_cons, List.sum_cons, e2, e3]
      simp only [Spec.fromBits, if_true]
      rw [Nat.mul_add]
      simp
    | false =>
      show ((if false = true then 0 :: _ else _ : List Nat).map _).sum = _
      rw [if_neg (by decide), e2, e3]
      simp only [Spec.fromBits]
      simp
theorem weights_at (i : Nat) (h : i < 5) : ([1, 2, 4, 8, 16, 32] : List Int)[i]? = some ((2 ^ i : Nat) : Int) := by
  rcases i with _ | _ | _ | _ | _ | i <;> first | rfl | omega
theorem ok_change_of (D : Df K mg "change_of" s_change_of ["old_tags", "new_tags", "tables"] f fd) (T : Txt K mg A) (g_many_items : Cl P w K mg base CX0 1 "many_items" (PureSp K R_many_items)) (g_Change_init : Mc P w K mg base CX0 1 "Change" A.ch (MkSp K A.rf A.ch R_Change)) :
    Cl P w K mg base CX0 3 "change_of" (PureSp K (R_change_of A)) := by
  refine D.cl (ok_pure D.fn sc_change_of (fun ds es h => ?_) fun cdv _ outer s H E hr => ⟨_, (pss_cons (ps_set (i := 3) sc_change_of.nd rfl (Or.inl rfl) (pe_lst pa_nil))
    (pss_cons (ps_for PassesOwn.never rfl (pi_range1 rfl T.b_range (pa_cons (pe_cl g_many_items hr (by omega) pass0 (by rfl) (pa_cons (pe_callB (call_lenGK K) (by rfl) T.b_len bt_len (pa_cons (pv 0) pa_nil)) pa_nil)) pa_nil)) (pg_name (i := 4) sc_change_of.nd rfl (Or.inr rfl)) (pss_one (ps_expr (pe_bmK K PySem.F.plainAttrs_list PySem.F.slot_list_append PySem.F.type_list_append mt_append (pv 3) (pa_cons (pe_callB (cr_sumK K rfl) (by rfl) T.b_sum bt_sum (pa_cons (pe_lc (own := [("tag", 5)]) (by rfl) sc_change_of.nd (pi_range1 rfl T.b_range (pa_cons (pe_callB (call_lenGK K) (by rfl) T.b_len bt_len (pa_cons (pv 2) pa_nil)) pa_nil)) (blkOk_by (own := [("tag", 5)]) (N := N_change_of) (sc := defScope s_change_of) (by decide +kernel)) (fun _ _ _ _ _ => (pg_name (i := 5) sc_change_of.nd rfl (Or.inl rfl))) (fun _ _ _ _ _ => (pts_one (pt_val (pe_ix (ix_seqK K) (pe_ix (ix_seqK K) (pv 2) (pv 5) (fun _ _ => rfl)) (pv 4) (fun _ _ => rfl))))) (fun _ _ _ _ _ => (pe_ix (ix_seqK K) (C8.pe_gc rfl T.c_WEIGHTS) (pv 5) (fun _ _ => rfl)))) pa_nil)) pa_nil)))))
    (pss_one (ps_ret (pe_mkX g_Change_init hr (by omega) pass0 (by rfl) (pa_cons (pv 0) (pa_cons (pv 1) (pa_cons (pv 3) pa_nil)))))))), ?_⟩)
  · obtain ⟨old, new, ts, rfl, _⟩ := h
    rfl
  · rintro ds d ⟨old, new, ts, rfl, ho, ht, rfl⟩ σ H Q e k
    have h32 := small_pow ho
    refine s_seq (s_asgN e (ev_lst ev_nil) fun p vs H1 np s1 h1 r1 => ?_)
    have a := Acc.begin (i := 3) e np s1 h1 r1 rfl
    refine s_seq (a_forR (n := 2 ^ old.length) (fun _ => [some (tagsD old), some (tagsD new), some (.lst (ts.map (tabD old.length))), none, none, none]) (fun t => sc nI ((List.range t).map (imgT ts))) a (ev_cons (ev_manyOf (ev_var rfl) ho) ev_nil) (by omega) (by decide) ?_ ?_)
    · intro t σ' H' htl a
      refine a_app a rfl (d := .v (nI (imgT ts t))) ((ev_cb (ev_cons (EvN.toD ((ev_lcR (j := 5) ts.length (fun i => (ts.map fun g => g t).getD i false) (fun i => .v (.int (2 ^ (0 + i) : Nat))) (ev_cons ((ev_cb (ev_cons (ev_var rfl) ev_nil) (rc_lenL (ds := ts.map (tabD old.length)))).to (by simp)) ev_nil) (by omega) (fun _ _ => rfl) (fun i hi => ?_) fun i hi _ => ?_).to ?_)) ev_nil) (rc_sum (ns := ((List.range ts.length).filter fun i => (ts.map fun g => g t).getD i false).map fun i => ((2 ^ (0 + i) : Nat) : Int)))).to ?_) rfl (by simp; omega) fun H2 a2 => ?_
      · have hti : (ts.map (tabD old.length))[(i : Int).toNat]? = some (tabD old.length ts[i]) := by simp [hi]
        have htt : (ts.map fun g => g t).getD i false = ts[i] t := by simp [hi]
        rw [htt]
        exact ev_B (ev_op (ev_op (ev_var (i := 2) rfl) (ev_var rfl) (rv_ixL (by omega) hti)) (ev_var (i := 4) rfl) (rv_ixL (by omega) (tab_at (show (t : Int).toNat < 2 ^ old.length by simpa using htl))))
      · exact (ev_op (ev_weights T) (ev_var rfl) (rv_ixT (by omega) (weight_at (show (i : Int).toNat ≤ 5 by simp; omega)))).to (by simp)
      · unfold sc
        rw [List.map_map]
        rfl
      · have := bits_sum (ts.map fun g => g t) 0
        rw [List.length_map] at this
        rw [this]
        simp [imgT, nI]
      · have a3 := a2.forget (j := 4) (by decide)
        rw [List.range_succ, List.map_append]
        simpa [sc] using a3
    · intro σ' H' a
      refine (ev_mk (mk := imgT ts) (ev_cons (ev_var (i := 0) rfl) (ev_cons (ev_var (i := 1) rfl) (ev_cons (ev_var rfl) ev_nil)))) σ' H' a.all _ fun v H2 s2 r2 => k v H2 (a.out.trans s2) r2
end
end Tg
end

section
set_option Elab.async false
set_option linter.all false
set_option maxRecDepth 100000
set_option maxHeartbeats 4000000
/-! Changes: a clash. -/
namespace Tg
open PySem PySem.Spec PyProof.Rows L2
open R7292f
theorem fm_nil {β : Type} {g : Nat → List β} : ∀ {N : Nat}, (∀ x, x < N → g x = []) → (List.range N).flatMap g = []
  | 0, _ => rfl
  | N + 1, h => by
    rw [List.range_succ, List.flatMap_append, fm_nil fun x hx => h x (by omega)]
    simp [h N (Nat.lt_succ_self N)]
theorem fm_head {β : Type} {g : Nat → List β} {i : Nat} {b : β} : ∀ {N : Nat}, i < N → (∀ x, x < i → g x = []) → (g i).head? = some b → ((List.range N).flatMap g).head? = some b
  | 0, h, _, _ => absurd h (Nat.not_lt_zero _)
  | N + 1, h, h0, h1 => by
    rw [List.range_succ, List.flatMap_append]
    by_cases hi : i < N
    · rw [List.head?_append, fm_head hi h0 h1]
      rfl
    · have e : i = N := by omega
      subst e
      rw [fm_nil h0]
      simpa using h1
theorem fl_flat {β : Type} (p : Nat → Bool) (f : Nat → β) : ∀ N : Nat, ((List.range N).filter p).map f = (List.range N).flatMap fun y => if p y then [f y] else []
  | 0 => rfl
  | N + 1 => by
    rw [List.range_succ, List.filter_append, List.map_append, List.flatMap_append, fl_flat p f N]
    congr 1
    cases h : p N <;> simp [h]
def hitM (mk : Nat → Nat) (on : Nat → Bool) (x y : Nat) : Bool := mk x == mk y && on x && !on y
def clashM (n : Nat) (mk : Nat → Nat) (on : Nat → Bool) : Option (Nat × Nat) := ((Spec.items n).flatMap fun x => ((Spec.items n).filter fun y => mk x == mk y && on x && !on y).map fun y => (x, y)).head?
theorem clash_none {n : Nat} {mk : Nat → Nat} {on : Nat → Bool} (h : ∀ x, x < 2 ^ n → ∀ y, y < 2 ^ n → hitM mk on x y = false) : clashM n mk on = none := by
  unfold clashM Spec.items
  rw [fm_nil fun x hx => ?_]
  · rfl
  · rw [fl_flat]
    refine fm_nil fun y hy => ?_
    have := h x hx y hy
    unfold hitM at this
    rw [this]
    rfl
theorem clash_some {n i j : Nat} {mk : Nat → Nat} {on : Nat → Bool} (hi : i < 2 ^ n) (hj : j < 2 ^ n) (h0 : ∀ x, x < i → ∀ y, y < 2 ^ n → hitM mk on x y = false) (h1 : ∀ y, y < j → hitM mk on i y = false) (h2 : hitM mk on i j = true) : clashM n mk on = some (i, j) := by
  unfold clashM Spec.items
  refine fm_head hi (fun x hx => ?_) ?_
  · rw [fl_flat]
    refine fm_nil fun y hy => ?_
    have := h0 x hx y hy
    unfold hitM at this
    rw [this]
    rfl
  · rw [fl_flat]
    refine fm_head hj (fun y hy => ?_) ?_
    · have := h1 y hy
      unfold hitM at this
      rw [this]
      rfl
    · unfold hitM at h2
      rw [h2]
      rfl
section
variable {P : Program} {w : World} {K : PySem.W.Frag} {mg : Str → Option Value} {base : Heap} {A : Ad} {f : Addr} {fd : FuncData} {ρ : List (Option Dat)}
def pairD : Option (Nat × Nat) → Dat
  | none => .v .non
  | some p => .tup [.v (.int p.1), .v (.int p.2)]
def R_clash (A : Ad) (ds : List Dat) (d : Dat) : Prop := ∃ old new mk on, ds = [chD A old new mk, tabD old.length on] ∧ old.length ≤ 5 ∧ d = pairD (clashM old.length mk on)
abbrev s_Change_clash : Stmt := inClass (top 46) 5
abbrev N_Change_clash : List Str := ["self", "wanted", "item", "other"]
theorem sc_Change_clash : FnScope N_Change_clash ["self", "wanted"] (defScope s_Change_clash) :=
  ⟨rfl, rfl, rfl, by decide +kernel, rfl, by decide +kernel, by decide +kernel⟩
theorem ok_clash (D : Dm K A.ch "clash" "Change.clash" s_Change_clash ["self", "wanted"] f fd) (T : Txt K mg A) : Mt P w K mg base CX0 1 A.ch "clash" (PureSp K (R_clash A)) := by
  refine D.mt' (ok_pure D.fn sc_Change_clash (fun ds es h => ?_) fun cdv _ outer s H E hr => ⟨_, (pss_cons (ps_for PassesOwn.never rfl (pi_range1 rfl T.b_range (pa_cons (pe_callB (call_lenGK K) (by rfl) T.b_len bt_len (pa_cons (pv 1) pa_nil)) pa_nil)) (pg_name (i := 2) sc_Change_clash.nd rfl (Or.inl rfl)) (pss_one (ps_if (pt_val (pe_ix (ix_seqK K) (pv 1) (pv 2) (fun _ _ => rfl))) (pss_one (ps_for PassesOwn.never rfl (pi_range1 rfl T.b_range (pa_cons (pe_callB (call_lenGK K) (by rfl) T.b_len bt_len (pa_cons (pv 1) pa_nil)) pa_nil)) (pg_name (i := 3) sc_Change_clash.nd rfl (Or.inl rfl)) (pss_one (ps_if (PW.pt (pw_and (pt_not (pt_val (pe_ix (ix_seqK K) (pv 1) (pv 3) (fun _ _ => rfl)))) (pw_and1 (pt_cmpR (op_eqGK K hr.units) (pe_ix (ix_seqK K) (pe_fldK K (pv 0) rfl) (pv 2) (fun _ _ => rfl)) (pe_ix (ix_seqK K) (pe_fldK K (pv 0) rfl) (pv 3) (fun _ _ => rfl)) (nomark _))))) (pss_one (ps_ret (pe_tup (pa_cons (pv 2) (pa_cons (pv 3) pa_nil))))) pss_nil)))) pss_nil)))
    (pss_one (ps_ret pe_non))), ?_⟩)
  · obtain ⟨old, new, mk, on, rfl, _⟩ := h
    rfl
  · rintro ds d ⟨old, new, mk, on, rfl, ho, rfl⟩ σ H Q e k
    have h32 := small_pow ho
    have mid : ∀ t : Nat, t < 2 ^ old.length → (sc V.bl ((Spec.items old.length).map on))[(t : Int).toNat]? = some (.v (.bl (on t))) := fun t ht => by
      have e0 : (t : Int).toNat = t := Int.toNat_natCast t
      rw [e0]
      exact tab_at ht
    have mad : ∀ t : Nat, t < 2 ^ old.length → (sc nI ((Spec.items old.length).map mk))[(t : Int).toNat]? = some (.v (.int (mk t : Nat))) := fun t ht => by
      have e0 : (t : Int).toNat = t := Int.toNat_natCast t
      rw [e0]
      exact made_at ht
    refine s_seq (s_forR (K := K) (n := 2 ^ old.length) (j := 2) (fun i σ' H' => Env K H' σ' [some (chD A old new mk), some (tabD old.length on), none, none] ∧ Same H H' ∧ ∀ x, x < i → ∀ y, y < 2 ^ old.length → hitM mk on x y = false) e (ev_cons (ev_lenT (ev_var rfl)) ev_nil) (by omega) (fun H' s => ⟨e.mono s, s, fun x hx => absurd hx (Nat.not_lt_zero _)⟩) ?_ ?_)
    · rintro i σ1 H1 hi ⟨e1, s1, h1⟩
      have e2 := e1.set 2 (d := .v (.int (i : Nat))) (.v (.int (i : Nat)))
      refine s_if e2 (ev_B (ev_op (ev_var (i := 1) rfl) (ev_var (i := 2) rfl) (rv_ixL (by omega) (mid i hi)))) (fun hb H3 s3 e3 => ?_) fun hb H3 s3 e3 => ?_
      · refine s_forR (K := K) (n := 2 ^ old.length) (j := 3) (fun j σ' H' => Env K H' σ' [some (chD A old new mk), some (tabD old.length on), some (.v (.int (i : Nat))), none] ∧ Same H H' ∧ ∀ y, y < j → hitM mk on i y = false) e3 (ev_cons (ev_lenT (ev_var rfl)) ev_nil) (by omega) (fun H' s => ⟨e3.mono s, (s1.trans s3).trans s, fun y hy => absurd hy (Nat.not_lt_zero _)⟩) ?_ ?_
        · rintro j σ4 H4 hj ⟨e4, s4, h4⟩
          have e5 := e4.set 3 (d := .v (.int (j : Nat))) (.v (.int (j : Nat)))
          refine s_if e5 (ev_and (c := !on j) (c' := decide (((mk i : Nat) : Int) = ((mk j : Nat) : Int))) (ev_not (ev_B (ev_op (ev_var (i := 1) rfl) (ev_var (i := 3) rfl) (rv_ixL (by omega) (mid j hj))))) fun _ => ev_test (ev_op (ev_op (cf_made (i := 0) T rfl) (ev_var (i := 2) rfl) (rv_ixL (by omega) (mad i hi))) (ev_op (cf_made (i := 0) T rfl) (ev_var (i := 3) rfl) (rv_ixL (by omega) (mad j hj))) rv_eqI)) (fun hc H6 s6 e6 => ?_) fun hc H6 s6 e6 => ?_
          · have hcc := Bool.and_eq_true_iff.mp hc
            have hm : mk i = mk j := by
              have := of_decide_eq_true hcc.2
              omega
            have hh : hitM mk on i j = true := by
              unfold hitM
              rw [hb, hcc.1, hm]
              simp
            refine s_ret e6 (ev_tup (ev_cons (ev_var (i := 2) rfl) (ev_cons (ev_var (i := 3) rfl) ev_nil))) fun v H7 s7 r7 => k v H7 ((s4.trans s6).trans s7) ?_
            rw [clash_some hi hj h1 h4 hh]
            exact r7
          · refine ⟨e6.forget 3, s4.trans s6, fun y hy => ?_⟩
            by_cases hy' : y < j
            · exact h4 y hy'
            · have ey : y = j := by omega
              subst ey
              unfold hitM
              rw [hb]
              rcases Bool.and_eq_false_iff.mp hc with z | z
              · rw [z]
                simp
              · have hne : mk i ≠ mk y := fun q => by
                  have := of_decide_eq_false z
                  exact this (by rw [q])
                simp [hne]
        · rintro σ4 H4 ⟨e4, s4, h4⟩
          refine ⟨e4.forget 2, s4, fun x hx y hy => ?_⟩
          by_cases hx' : x < i
          · exact h1 x hx' y hy
          · have ex : x = i := by omega
            subst ex
            exact h4 y hy
      · refine ⟨e3.forget 2, s1.trans s3, fun x hx y hy => ?_⟩
        by_cases hx' : x < i
        · exact h1 x hx' y hy
        · have ex : x = i := by omega
          subst ex
          unfold hitM
          rw [hb]
          simp
    · rintro σ1 H1 ⟨e1, s1, h1⟩
      dsimp only
      refine s_ret e1 ev_c fun v H2 s2 r2 => k v H2 (s1.trans s2) ?_
      rw [clash_none h1]
      exact r2
end
end Tg
end

section
set_option Elab.async false
set_option linter.all false
set_option maxRecDepth 100000
set_option maxHeartbeats 4000000
/-! The doors: names, texts, tags. -/
namespace Tg
open PySem PySem.Spec PyProof.Rows L2
open R7292f
def kindN : Spec.Plain → Nat
  | .undef => 0
  | .null => 1
  | .bool b => if b then 3 else 2
  | .num _ => 4
  | .str _ => 6
  | .arr _ => 7
  | .obj _ => 8
  | .big _ => 5
theorem plD_kind : ∀ p : Spec.Plain, ∃ r, plD p = .tup (.v (.int (kindN p : Nat)) :: r)
  | .undef => ⟨_, rfl⟩
  | .null => ⟨_, rfl⟩
  | .bool b => by cases b <;> exact ⟨_, rfl⟩
  | .num _ => ⟨_, rfl⟩
  | .str _ => ⟨_, rfl⟩
  | .arr _ => ⟨_, rfl⟩
  | .obj _ => ⟨_, rfl⟩
  | .big _ => ⟨_, rfl⟩
theorem kind6 {p : Spec.Plain} (h : kindN p = 6) : ∃ u, p = .str u := by
  cases p with
  | str u => exact ⟨u, rfl⟩
  | bool b => cases b <;> cases h
  | _ => cases h
theorem kind7 {p : Spec.Plain} (h : kindN p = 7) : ∃ l, p = .arr l := by
  cases p with
  | arr u => exact ⟨u, rfl⟩
  | bool b => cases b <;> cases h
  | _ => cases h
section
variable {K : PySem.W.Frag} {ρ : List (Option Dat)} {te : TE} {p : Spec.Plain}
theorem ev_kind (h : EvD K te ρ (plD p)) : EvD K (tOp (rIx K) te (tC (.int 0))) ρ (.v (.int (kindN p : Nat))) := by
  obtain ⟨r, e⟩ := plD_kind p
  rw [e] at h
  exact ev_op h ev_c (rv_ixT (by omega) rfl)
theorem ev_isKind (h : EvD K te ρ (plD p)) (k : Nat) : EvD K (tOp (rEqG K) (tOp (rIx K) te (tC (.int 0))) (tC (.int (k : Nat)))) ρ (.v (.bl (decide (kindN p = k)))) :=
  (ev_op (ev_kind h) ev_c rv_eqI).to (by congr 2; exact decide_eq_decide.mpr Int.ofNat_inj)
theorem ev_str {u : Spec.Units} (h : EvD K te ρ (plD (.str u))) : EvD K (tOp (rIx K) te (tC (.int 1))) ρ (uD u) := ev_op h ev_c (rv_ixT (by omega) rfl)
theorem ev_arr {l : List Spec.Plain} (h : EvD K te ρ (plD (.arr l))) : EvD K (tOp (rIx K) te (tC (.int 1))) ρ (.tup (l.map plD)) := by
  have e : plD (.arr l) = .tup [.v (.int 7), .tup (l.map plD)] := by
    show Dat.tup [.v (.int 7), .tup (plDs l)] = _
    rw [plDs_map]
  rw [e] at h
  exact ev_op h ev_c (rv_ixT (by omega) rfl)
end
/-! ### the specification's readers, said otherwise -/
theorem nameIn_str (u : Spec.Units) : (Spec.nameIn (.str u)).isSome = (decide (1 ≤ u.length) && (decide (u.length ≤ 8) && u.all Spec.isLetter)) := by
  unfold Spec.nameIn Spec.when Spec.stringIn
  simp only []
  by_cases h : 1 ≤ u.length ∧ u.length ≤ 8
  · rw [if_pos h]
    simp only [Option.bind]
    rw [decide_eq_true h.1, decide_eq_true h.2]
    by_cases hl : u.all Spec.isLetter = true
    · rw [if_pos hl, hl]
      rfl
    · rw [if_neg hl]
      have hl' : u.all Spec.isLetter = false := by simpa using hl
      rw [hl']
      rfl
  · rw [if_neg h]
    by_cases h1 : 1 ≤ u.length
    · have h2 : ¬ u.length ≤ 8 := fun q => h ⟨h1, q⟩
      simp [h2]
    · simp [h1]
theorem nameIn_some {p : Spec.Plain} {u : Spec.Units} (h : Spec.nameIn p = some u) : p = .str u ∧ u ≠ [] ∧ u.length ≤ 8 ∧ u.all Spec.isLetter = true := by
  unfold Spec.nameIn Spec.when Spec.stringIn at h
  cases p with
  | str v =>
    simp only [] at h
    split at h
    · rename_i hl
      simp only [Option.bind] at h
      split at h
      · rename_i ha
        cases h
        exact ⟨rfl, fun e => by rw [e] at hl; simp at hl, hl.2, ha⟩
      · cases h
    · cases h
  | _ => cases h
theorem textIn_some {p : Spec.Plain} {u : Spec.Units} (h : Spec.textIn p = some u) : p = .str u ∧ u.length ≤ 60 := by
  unfold Spec.textIn Spec.stringIn at h
  cases p with
  | str v =>
    simp only [] at h
    split at h
    · rename_i hl
      cases h
      exact ⟨rfl, hl.2⟩
    · cases h
  | _ => cases h
theorem textIn_str (u : Spec.Units) : (Spec.textIn (.str u)).isSome = decide (u.length ≤ 60) := by
  unfold Spec.textIn Spec.stringIn
  simp only []
  by_cases h : u.length ≤ 60
  · rw [if_pos ⟨Nat.zero_le _, h⟩, decide_eq_true h]
    rfl
  · rw [if_neg fun q => h q.2, decide_eq_false h]
    rfl
theorem allSome_isSome {α β : Type} (f : α → Option β) : ∀ l : List α, (Spec.allSome f l).isSome = l.all fun x => (f x).isSome
  | [] => rfl
  | x :: r => by
    unfold Spec.allSome
    rw [List.all_cons, ← allSome_isSome f r]
    cases f x with
    | none => rfl
    | some a =>
      cases Spec.allSome f r <;> rfl
theorem allSome_some {α β : Type} {f : α → Option β} {g : β → α} (h : ∀ x y, f x = some y → x = g y) : ∀ {l : List α} {m : List β}, Spec.allSome f l = some m → l = m.map g ∧ ∀ y ∈ m, f (g y) = some y
  | [], m, e => by
    cases e
    exact ⟨rfl, fun y hy => (List.not_mem_nil hy).elim⟩
  | x :: r, m, e => by
    unfold Spec.allSome at e
    cases hx : f x with
    | none =>
      rw [hx] at e
      cases e
    | some a =>
      rw [hx] at e
      cases hr : Spec.allSome f r with
      | none =>
        rw [hr] at e
        cases e
      | some m' =>
        rw [hr] at e
        cases e
        obtain ⟨e1, e2⟩ := allSome_some h hr
        have ea := h x a hx
        refine ⟨by rw [e1, ea]; rfl, fun y hy => ?_⟩
        rcases List.mem_cons.mp hy with z | z
        · subst z
          rw [← ea]
          exact hx
        · exact e2 y z
section
variable {P : Program} {w : World} {K : PySem.W.Frag} {mg : Str → Option Value} {base : Heap} {A : Ad} {f : Addr} {fd : FuncData} {ρ : List (Option Dat)}
abbrev s_is_name : Stmt := top 53
abbrev N_is_name : List Str := ["value", "code"]
theorem sc_is_name : FnScope N_is_name ["value"] (defScope s_is_name) :=
  ⟨rfl, rfl, rfl, by decide +kernel, rfl, by decide +kernel, by decide +kernel⟩
def R_is_name (ds : List Dat) (d : Dat) : Prop := ∃ p, ds = [plD p] ∧ d = .v (.bl (Spec.nameIn p).isSome)
theorem ok_is_name (D : Df K mg "is_name" s_is_name ["value"] f fd) (T : Txt K mg A) (g_is_letter : Cl P w K mg base CX0 1 "is_letter" (PureSp K R_is_letter)) : Cl P w K mg base CX0 2 "is_name" (PureSp K R_is_name) := by
  refine D.cl (ok_pure D.fn sc_is_name (fun ds es h => ?_) fun cdv _ outer s H E hr => ⟨_, (pss_one (ps_ret (pe_and (pe_cmpR (op_eqGK K hr.units) (pe_ix (ix_seqK K) (pv 0) pe_int (fun _ _ => rfl)) (C8.pe_gc rfl T.c_TEXT) (nomark _)) (pe_and (pe_chain op_leI op_leI pe_int (pe_callB (call_lenGK K) (by rfl) T.b_len bt_len (pa_cons (pe_ix (ix_seqK K) (pv 0) pe_int (fun _ _ => rfl)) pa_nil)) (C8.pe_gc rfl T.c_MOST_NAME)) (pe_one (pe_callB (cr_allK K rfl) (by rfl) T.b_all bt_all (pa_cons (pe_lc (own := [("code", 1)]) (by rfl) sc_is_name.nd (pi_seqK K (pe_ix (ix_seqK K) (pv 0) pe_int (fun _ _ => rfl))) (blkOk_by (own := [("code", 1)]) (N := N_is_name) (sc := defScope s_is_name) (by decide +kernel)) (fun _ _ _ _ _ => (pg_name (i := 1) sc_is_name.nd rfl (Or.inl rfl))) (fun _ _ _ _ _ => pts_nil) (fun _ _ _ _ _ => (pe_cl g_is_letter hr (by omega) pass0 (by rfl) (pa_cons (pv 1) pa_nil)))) pa_nil))))))), ?_⟩)
  · obtain ⟨p, rfl, _⟩ := h
    rfl
  · rintro ds d ⟨p, rfl, rfl⟩ σ H Q e k
    by_cases h6 : kindN p = 6
    · obtain ⟨u, rfl⟩ := kind6 h6
      refine s_ret e ((ev_andV (c := true) (c' := decide (1 ≤ u.length) && (decide (u.length ≤ 8) && u.all Spec.isLetter)) ((ev_isKind (ev_var rfl) 6).to (by rw [decide_eq_true h6])) fun _ => ?_).to ?_) k
      · refine (ev_andV (c := decide (1 ≤ u.length) && decide (u.length ≤ 8)) (c' := u.all Spec.isLetter) ((ev_chain ev_c (ev_cb (ev_cons (ev_str (ev_var rfl)) ev_nil) rc_lenT) ev_c rv_le rv_le).to ?_) fun hb => ?_).to ?_
        · simp only [List.length_map]
          have e1 : decide ((1 : Int) ≤ ((u.length : Nat) : Int)) = decide (1 ≤ u.length) := decide_eq_decide.mpr (by omega)
          have e2 : decide (((u.length : Nat) : Int) ≤ (8 : Int)) = decide (u.length ≤ 8) := decide_eq_decide.mpr (by omega)
          rw [e1, e2]
        · have hz : u.length ≤ 1000000 := by
            have := of_decide_eq_true (Bool.and_eq_true_iff.mp hb).2
            omega
          exact ev_cb (ev_cons (EvN.toD ((ev_lcT1 (l := u) (fun c => .v (uI c)) (fun c => .v (.bl (Spec.isLetter c))) (ev_str (ev_var rfl)) hz (fun _ _ => rfl) fun c _ => ev_call (R := R_is_letter) (ev_cons (ev_var rfl) ev_nil) ⟨c, rfl, rfl⟩))) ev_nil) rc_allM
        · rw [Bool.and_assoc]
      · rw [nameIn_str, Bool.true_and]
    · refine s_ret e ((ev_andV (c := false) (c' := false) ((ev_isKind (ev_var rfl) 6).to (by rw [decide_eq_false h6])) fun h => by cases h).to ?_) k
      have : Spec.nameIn p = none := by
        cases p with
        | str u => exact absurd rfl h6
        | _ => rfl
      rw [this]
      rfl
abbrev s_is_text : Stmt := top 54
abbrev N_is_text : List Str := ["value"]
theorem sc_is_text : FnScope N_is_text ["value"] (defScope s_is_text) :=
  ⟨rfl, rfl, rfl, by decide +kernel, rfl, by decide +kernel, by decide +kernel⟩
def R_is_text (ds : List Dat) (d : Dat) : Prop := ∃ p, ds = [plD p] ∧ d = .v (.bl (Spec.textIn p).isSome)
theorem ok_is_text (D : Df K mg "is_text" s_is_text ["value"] f fd) (T : Txt K mg A) : Cl P w K mg base CX0 1 "is_text" (PureSp K R_is_text) := by
  refine D.cl (ok_pure D.fn sc_is_text (fun ds es h => ?_) fun cdv _ outer s H E hr => ⟨_, (pss_one (ps_ret (pe_and (pe_cmpR (op_eqGK K hr.units) (pe_ix (ix_seqK K) (pv 0) pe_int (fun _ _ => rfl)) (C8.pe_gc rfl T.c_TEXT) (nomark _)) (pe_one (pe_cmpR op_leI (pe_callB (call_lenGK K) (by rfl) T.b_len bt_len (pa_cons (pe_ix (ix_seqK K) (pv 0) pe_int (fun _ _ => rfl)) pa_nil)) (C8.pe_gc rfl T.c_MOST_TEXT) (nomark _)))))), ?_⟩)
  · obtain ⟨p, rfl, _⟩ := h
    rfl
  · rintro ds d ⟨p, rfl, rfl⟩ σ H Q e k
    by_cases h6 : kindN p = 6
    · obtain ⟨u, rfl⟩ := kind6 h6
      refine s_ret e ((ev_andV (c := true) (c' := decide (u.length ≤ 60)) ((ev_isKind (ev_var rfl) 6).to (by rw [decide_eq_true h6])) fun _ => ?_).to ?_) k
      · refine (ev_op (ev_cb (ev_cons (ev_str (ev_var rfl)) ev_nil) rc_lenT) ev_c rv_le).to ?_
        simp only [List.length_map]
        congr 2
        exact decide_eq_decide.mpr (by omega)
      · rw [textIn_str, Bool.true_and]
    · refine s_ret e ((ev_andV (c := false) (c' := false) ((ev_isKind (ev_var rfl) 6).to (by rw [decide_eq_false h6])) fun h => by cases h).to ?_) k
      have : Spec.textIn p = none := by
        cases p with
        | str u => exact absurd rfl h6
        | _ => rfl
      rw [this]
      rfl
abbrev s_names_in : Stmt := top 55
abbrev N_names_in : List Str := ["value", "one"]
theorem sc_names_in : FnScope N_names_in ["value"] (defScope s_names_in) :=
  ⟨rfl, rfl, rfl, by decide +kernel, rfl, by decide +kernel, by decide +kernel⟩
def R_names_in (ds : List Dat) (es : List Dat) : Prop := ∃ us : List Spec.Units, ds = [plD (.arr (us.map .str))] ∧ us.length ≤ 1000 ∧ es = us.map uD
theorem ok_names_in (D : Df K mg "names_in" s_names_in ["value"] f fd) (T : Txt K mg A) : Cl P w K mg base CX0 1 "names_in" (NewSp K R_names_in) := by
  refine D.cl (ok_new D.fn sc_names_in (fun ds es h => ?_) fun cdv _ outer s H E hr => ⟨_, (pss_one (ps_ret (pe_lc (own := [("one", 1)]) (by rfl) sc_names_in.nd (pi_seqK K (pe_ix (ix_seqK K) (pv 0) pe_int (fun _ _ => rfl))) (blkOk_by (own := [("one", 1)]) (N := N_names_in) (sc := defScope s_names_in) (by decide +kernel)) (fun _ _ _ _ _ => (pg_name (i := 1) sc_names_in.nd rfl (Or.inl rfl))) (fun _ _ _ _ _ => pts_nil) (fun _ _ _ _ _ => (pe_callTy (call_tupGK K) (by rfl) T.b_tuple bt_tuple (pa_cons (pe_ix (ix_seqK K) (pv 1) pe_int (fun _ _ => rfl)) pa_nil)))))), ?_⟩)
  · obtain ⟨p, rfl, _⟩ := h
    rfl
  · rintro ds es ⟨us, rfl, hl, rfl⟩ σ H Q e k
    refine s_retN e (ev_lcT1 (l := us) (fun u => plD (.str u)) uD ((ev_arr (ev_var rfl)).to (by rw [List.map_map]; rfl)) (by omega) (fun u _ => uD_still u) fun u _ => ev_cb (ev_cons (ev_str (ev_var rfl)) ev_nil) rc_tupT) k
end
end Tg
end

section
set_option Elab.async false
set_option linter.all false
set_option maxRecDepth 100000
set_option maxHeartbeats 4000000
/-! The doors: definitions, tags, filters, items. -/
namespace Tg
open PySem PySem.Spec PyProof.Rows L2
open R7292f
section
variable {K : PySem.W.Frag} {ρ : List (Option Dat)} {te : TE} {ta : TA} {σ : L2.St} {H : Hp} {D : Ends} {E : XK} {C : Addr} {r : Except Err Dat}
theorem s_dropX (e : Env K H σ ρ) (h : EvX K C E te ρ r) (k : ∀ d, r = .ok d → ∀ H', Same H H' → Env K H' σ ρ → D.nx σ H') (x : ∀ er, r = .error er → ∀ a H', Same H H' → XErr K H' a er → E (.ref C) (some a) H') : tDrop te D σ H :=
  h σ H e _ (fun d hd v H1 s1 r1 => k d hd H1 s1 (e.mono s1)) x
theorem s_asgX {i : Nat} (e : Env K H σ ρ) (h : EvX K C E te ρ r) (k : ∀ d, r = .ok d → ∀ σ' H', Same H H' → Env K H' σ' (ρ.set i (some d)) → D.nx σ' H') (x : ∀ er, r = .error er → ∀ a H', Same H H' → XErr K H' a er → E (.ref C) (some a) H') : tAsg te (gName i) D σ H :=
  h σ H e _ (fun d hd v H1 s1 r1 => k d hd _ H1 s1 ((e.mono s1).set i r1)) x
theorem s_retX (e : Env K H σ ρ) (h : EvX K C E te ρ r) (k : ∀ d, r = .ok d → ∀ v H', Same H H' → Rp K H' v d → D.rt v H') (x : ∀ er, r = .error er → ∀ a H', Same H H' → XErr K H' a er → E (.ref C) (some a) H') : tRet te D σ H := h σ H e _ k x
theorem ev_refuse {n : Int} {b : Bool} {m : Str} (h : EvA K ta ρ [.v (.bl b), .v (.str m)]) : EvX K C E (tCall (MaySp K C (R_refuse n)) [] E ta) ρ (if b then .error (n, m) else .ok (.v .non)) := ev_callX h ⟨b, m, rfl, rfl⟩
/-- what a filter's text finds, or its refusal -/
def fltR (pre : String) (tags : List Spec.Units) (u : Spec.Units) : Except Err Dat := match Spec.readFilter pre tags u with
  | .error e => .error (errOf e)
  | .ok F => .ok (tabD tags.length fun m => Spec.holds tags m F)
theorem ev_found {mg : Str → Option Value} {A : Ad} (T : Txt K mg A) {pre : String} {tags : List Spec.Units} {u : Spec.Units} {z : Str} (hz : z = Str.ofString pre) (hp : Plainly pre) (h : EvA K ta ρ [uD u, tagsD tags, .v (.str z)]) (sz : Szs u tags z) :
    EvX K A.rf E (tFld K (tMake A.pa (MkSp K A.rf A.pa R_Parser) [] E ta) "found") ρ (fltR pre tags u) := fun σ H e Q q x => by
  have hm := ev_mkX (Cx := A.rf) (C := A.pa) (E := E) (R := R_Parser) h ⟨u, tags, z, rfl, sz, rfl⟩
  have hr := readTo_eq hp (tags := tags) sz.1
  rw [← hz] at hr
  refine hm σ H e _ (fun d hd v H1 s1 r1 => ?_) fun er he b H1 s1 xe => ?_
  · cases hrt : readTo z tags u with
    | error m =>
      rw [hrt] at hd
      cases hd
    | ok F =>
      rw [hrt] at hd hr
      cases hd
      have hq : fltR pre tags u = .ok (tabD tags.length fun m => Spec.holds tags m F) := by
        unfold fltR
        cases hf : Spec.readFilter pre tags u with
        | error e =>
          rw [hf] at hr
          cases hr
        | ok G =>
          rw [hf] at hr
          cases hr
          rfl
      cases r1 with
      | obj ho rf =>
        obtain ⟨v, lv, rv⟩ := rf.look (show (foundG u tags z F).lookup ("found" : Str) = some (tabD tags.length fun m => Spec.holds tags m F) from pG_f')
        exact ⟨_, A.pa, _, _, v, rfl, ho, T.k_Parser, T.n_Parser_found, lv, q _ hq v H1 s1 rv⟩
  · cases hrt : readTo z tags u with
    | ok F =>
      rw [hrt] at he
      cases he
    | error m =>
      rw [hrt] at he hr
      cases he
      refine x (2, m) ?_ b H1 s1 xe
      unfold fltR
      cases hf : Spec.readFilter pre tags u with
      | ok G =>
        rw [hf] at hr
        cases hr
      | error e =>
        rw [hf] at hr
        simp only [Except.error.injEq] at hr ⊢
        exact hr.symm
end
/-! ### all different -/
theorem diff_eq : ∀ l : List Spec.Units, Spec.allDifferent l = decide (distinct l = l.length)
  | [] => rfl
  | u :: r => by
    have ih := diff_eq r
    have hle := distinct_le r
    unfold Spec.allDifferent distinct
    rw [ih]
    cases h : r.contains u with
    | true =>
      simp
      omega
    | false => simp
theorem diff_lt (l : List Spec.Units) : decide (((distinct l : Nat) : Int) < ((l.length : Nat) : Int)) = !Spec.allDifferent l := by
  have hle := distinct_le l
  rw [diff_eq]
  by_cases h : distinct l = l.length
  · rw [decide_eq_true h]
    exact decide_eq_false (by omega)
  · rw [decide_eq_false h]
    exact decide_eq_true (by omega)
theorem err_lit {s : String} {c : Spec.Cls} (h : (s.toList.all fun c => decide (c.toNat < 65536)) = true) : errOf ⟨c, Spec.units s⟩ = (((Rust.classOf c : Nat) : Int), Str.ofString s) := by
  unfold errOf
  rw [strOf_units _ (plainly_of h)]
section
variable {P : Program} {w : World} {K : PySem.W.Frag} {mg : Str → Option Value} {base : Heap} {A : Ad} {f : Addr} {fd : FuncData} {ρ : List (Option Dat)}
abbrev s_is_definition : Stmt := top 58
abbrev N_is_definition : List Str := ["value"]
theorem sc_is_definition : FnScope N_is_definition ["value"] (defScope s_is_definition) :=
  ⟨rfl, rfl, rfl, by decide +kernel, rfl, by decide +kernel, by decide +kernel⟩
def R_is_definition (ds : List Dat) (d : Dat) : Prop := ∃ p, ds = [plD p] ∧ d = .v (.bl (Spec.pairIn p).isSome)
theorem ok_is_definition (D : Df K mg "is_definition" s_is_definition ["value"] f fd) (T : Txt K mg A) (g_is_text : Cl P w K mg base CX0 1 "is_text" (PureSp K R_is_text)) (g_is_name : Cl P w K mg base CX0 2 "is_name" (PureSp K R_is_name)) : Cl P w K mg base CX0 3 "is_definition" (PureSp K R_is_definition) := by
  refine D.cl (ok_pure D.fn sc_is_definition (fun ds es h => ?_) fun cdv _ outer s H E hr => ⟨_, (pss_one (ps_ret (pe_and (pe_cmpR (op_eqGK K hr.units) (pe_ix (ix_seqK K) (pv 0) pe_int (fun _ _ => rfl)) (C8.pe_gc rfl T.c_LIST) (nomark _)) (pe_and (pe_cmpR (op_eqGK K hr.units) (pe_callB (call_lenGK K) (by rfl) T.b_len bt_len (pa_cons (pe_ix (ix_seqK K) (pv 0) pe_int (fun _ _ => rfl)) pa_nil)) pe_int (nomark _)) (pe_and (pe_cl g_is_name hr (by omega) pass0 (by rfl) (pa_cons (pe_ix (ix_seqK K) (pe_ix (ix_seqK K) (pv 0) pe_int (fun _ _ => rfl)) pe_int (fun _ _ => rfl)) pa_nil)) (pe_one (pe_cl g_is_text hr (by omega) pass0 (by rfl) (pa_cons (pe_ix (ix_seqK K) (pe_ix (ix_seqK K) (pv 0) pe_int (fun _ _ => rfl)) pe_int (fun _ _ => rfl)) pa_nil)))))))), ?_⟩)
  · obtain ⟨p, rfl, _⟩ := h
    rfl
  · rintro ds d ⟨p, rfl, rfl⟩ σ H Q e k
    by_cases h7 : kindN p = 7
    · obtain ⟨l, rfl⟩ := kind7 h7
      have ha : EvD K (tOp (rIx K) (tVar 0) (tC (.int 1))) (begin N_is_definition [plD (.arr l)]) (.tup (l.map plD)) := ev_arr (ev_var rfl)
      refine s_ret e ((ev_andV (c := true) (c' := (Spec.pairIn (.arr l)).isSome) ((ev_isKind (ev_var rfl) 7).to (by rw [decide_eq_true h7])) fun _ => ?_).to (by rw [Bool.true_and])) k
      by_cases h2 : l.length = 2
      · match l, h2 with
        | [a, b], _ =>
          refine (ev_andV (c := true) (c' := (Spec.nameIn a).isSome && (Spec.textIn b).isSome) ((ev_op (ev_cb (ev_cons ha ev_nil) rc_lenT) ev_c rv_eqI).to (by simp)) fun _ => ?_).to ?_
          · exact ev_andV (ev_call (R := R_is_name) (ev_cons (ev_op ha ev_c (rv_ixT (by omega) rfl)) ev_nil) ⟨a, rfl, rfl⟩) fun _ => ev_call (R := R_is_text) (ev_cons (ev_op ha ev_c (rv_ixT (by omega) rfl)) ev_nil) ⟨b, rfl, rfl⟩
          · unfold Spec.pairIn
            simp only []
            cases Spec.nameIn a <;> cases Spec.textIn b <;> rfl
      · refine (ev_andV (c := false) (c' := false) ((ev_op (ev_cb (ev_cons ha ev_nil) rc_lenT) ev_c rv_eqI).to ?_) fun h => by cases h).to ?_
        · rw [List.length_map]
          congr 2
          exact decide_eq_false (by omega)
        · have : Spec.pairIn (.arr l) = none := by
            match l with
            | [] => rfl
            | [a] => rfl
            | [a, b] => exact absurd rfl h2
            | a :: b :: c :: r => rfl
          rw [this]
          rfl
    · refine s_ret e ((ev_andV (c := false) (c' := false) ((ev_isKind (ev_var rfl) 7).to (by rw [decide_eq_false h7])) fun h => by cases h).to ?_) k
      have : Spec.pairIn p = none := by
        cases p with
        | arr u => exact absurd rfl h7
        | _ => rfl
      rw [this]
      rfl
/-! ### tags_of -/
def tagsR (p : Spec.Plain) : Except Err Dat := match Spec.tagsArg p with
  | .error e => .error (errOf e)
  | .ok us => .ok (tagsD us)
def R_tags_of (ds : List Dat) (r : Except Err Dat) : Prop := ∃ p, ds = [plD p] ∧ r = tagsR p
abbrev s_tags_of : Stmt := top 56
abbrev N_tags_of : List Str := ["value", "right", "names", "one"]
theorem sc_tags_of : FnScope N_tags_of ["value"] (defScope s_tags_of) :=
  ⟨rfl, rfl, rfl, by decide +kernel, rfl, by decide +kernel, by decide +kernel⟩
theorem listIn_isSome {α : Type} (lo hi : Nat) (f : Spec.Plain → Option α) (l : List Spec.Plain) : (Spec.listIn lo hi f (.arr l)).isSome = (decide (lo ≤ l.length) && (decide (l.length ≤ hi) && l.all fun x => (f x).isSome)) := by
  unfold Spec.listIn
  simp only []
  by_cases h : lo ≤ l.length ∧ l.length ≤ hi
  · rw [if_pos h, allSome_isSome, decide_eq_true h.1, decide_eq_true h.2]
    rfl
  · rw [if_neg h]
    by_cases h1 : lo ≤ l.length
    · have h2 : ¬ l.length ≤ hi := fun q => h ⟨h1, q⟩
      simp [h2]
    · simp [h1]
theorem listIn_some {α : Type} {lo hi : Nat} {f : Spec.Plain → Option α} {g : α → Spec.Plain} (hg : ∀ x y, f x = some y → x = g y) {p : Spec.Plain} {m : List α} (h : Spec.listIn lo hi f p = some m) : p = .arr (m.map g) ∧ lo ≤ m.length ∧ m.length ≤ hi ∧ ∀ y ∈ m, f (g y) = some y := by
  unfold Spec.listIn at h
  cases p with
  | arr l =>
    simp only [] at h
    split at h
    · rename_i hl
      obtain ⟨e1, e2⟩ := allSome_some hg h
      have : l.length = m.length := by rw [e1, List.length_map]
      exact ⟨by rw [e1], by omega, by omega, e2⟩
    · cases h
  | _ => cases h
theorem ok_tags_of (D : Df K mg "tags_of" s_tags_of ["value"] f fd) (T : Txt K mg A) (g_is_name : Cl P w K mg base CX0 2 "is_name" (PureSp K R_is_name)) (g_wrong_kind : Cl P w K mg base (L2N.CX P w) 3 "wrong_kind" (MaySp K A.rf (R_refuse 1)))
    (g_names_in : Cl P w K mg base CX0 1 "names_in" (NewSp K R_names_in)) (g_out_of_range : Cl P w K mg base (L2N.CX P w) 3 "out_of_range" (MaySp K A.rf (R_refuse 2))) : Cl P w K mg base (L2N.CX P w) 4 "tags_of" (MaySp K A.rf R_tags_of) := by
  refine D.cl (ok_may D.fn sc_tags_of (fun ds r h => ?_) fun cdv _ outer s H E hr => ⟨_, (pss_cons (ps_set (i := 1) sc_tags_of.nd rfl (Or.inl rfl) (pe_and (pe_cmpR (op_eqGK K hr.units) (pe_ix (ix_seqK K) (pv 0) pe_int (fun _ _ => rfl)) (C8.pe_gc rfl T.c_LIST) (nomark _)) (pe_and (pe_chain op_leI op_leI pe_int (pe_callB (call_lenGK K) (by rfl) T.b_len bt_len (pa_cons (pe_ix (ix_seqK K) (pv 0) pe_int (fun _ _ => rfl)) pa_nil)) (C8.pe_gc rfl T.c_MOST_TAGS)) (pe_one (pe_callB (cr_allK K rfl) (by rfl) T.b_all bt_all (pa_cons (pe_lc (own := [("one", 3)]) (by rfl) sc_tags_of.nd (pi_seqK K (pe_ix (ix_seqK K) (pv 0) pe_int (fun _ _ => rfl))) (blkOk_by (own := [("one", 3)]) (N := N_tags_of) (sc := defScope s_tags_of) (by decide +kernel)) (fun _ _ _ _ _ => (pg_name (i := 3) sc_tags_of.nd rfl (Or.inl rfl))) (fun _ _ _ _ _ => pts_nil) (fun _ _ _ _ _ => (pe_cl g_is_name hr (by omega) pass0 (by rfl) (pa_cons (pv 3) pa_nil)))) pa_nil))))))
    (pss_cons (ps_expr (pe_cl g_wrong_kind hr (by omega) passX (by rfl) (pa_cons (pe_not (pv 1)) (pa_cons pe_str pa_nil))))
    (pss_cons (ps_set (i := 2) sc_tags_of.nd rfl (Or.inl rfl) (pe_cl g_names_in hr (by omega) pass0 (by rfl) (pa_cons (pv 0) pa_nil)))
    (pss_cons (ps_expr (pe_cl g_out_of_range hr (by omega) passX (by rfl) (pa_cons (pe_cmpR op_ltI (pe_lenSet2K K (by rfl) (by rfl) T.b_len (by rfl) T.b_set hr.units (pv 2)) (pe_callB (call_lenGK K) (by rfl) T.b_len bt_len (pa_cons (pv 2) pa_nil)) (nomark _)) (pa_cons pe_str pa_nil))))
    (pss_one (ps_ret (pv 2))))))), ?_⟩)
  · obtain ⟨p, rfl, _⟩ := h
    rfl
  · rintro ds r ⟨p, rfl, rfl⟩ σ H Q e k x
    refine s_seq (s_asg (d := .v (.bl (Spec.listIn 1 5 Spec.nameIn p).isSome)) e ?_ fun σ1 H1 s1 e1 => ?_)
    · by_cases h7 : kindN p = 7
      · obtain ⟨l, rfl⟩ := kind7 h7
        refine (ev_andV (c := true) (c' := decide (1 ≤ l.length) && (decide (l.length ≤ 5) && l.all fun x => (Spec.nameIn x).isSome)) ((ev_isKind (ev_var rfl) 7).to (by rw [decide_eq_true h7])) fun _ => ?_).to ?_
        · refine (ev_andV (c := decide (1 ≤ l.length) && decide (l.length ≤ 5)) (c' := l.all fun x => (Spec.nameIn x).isSome) ((ev_chain ev_c (ev_cb (ev_cons (ev_arr (ev_var rfl)) ev_nil) rc_lenT) ev_c rv_le rv_le).to ?_) fun hb => ?_).to ?_
          · simp only [List.length_map]
            have e1 : decide ((1 : Int) ≤ ((l.length : Nat) : Int)) = decide (1 ≤ l.length) := decide_eq_decide.mpr (by omega)
            have e2 : decide (((l.length : Nat) : Int) ≤ (5 : Int)) = decide (l.length ≤ 5) := decide_eq_decide.mpr (by omega)
            rw [e1, e2]
          · have hz : l.length ≤ 1000000 := by
              have := of_decide_eq_true (Bool.and_eq_true_iff.mp hb).2
              omega
            exact ev_cb (ev_cons (EvN.toD (ev_lcT1 (l := l) plD (fun x => .v (.bl (Spec.nameIn x).isSome)) (ev_arr (ev_var rfl)) hz (fun _ _ => rfl) fun x _ => ev_call (R := R_is_name) (ev_cons (ev_var rfl) ev_nil) ⟨x, rfl, rfl⟩)) ev_nil) rc_allM
          · rw [Bool.and_assoc]
        · rw [listIn_isSome, Bool.true_and]
      · refine (ev_andV (c := false) (c' := false) ((ev_isKind (ev_var rfl) 7).to (by rw [decide_eq_false h7])) fun h => by cases h).to ?_
        have : Spec.listIn 1 5 Spec.nameIn p = none := by
          cases p with
          | arr u => exact absurd rfl h7
          | _ => rfl
        rw [this]
        rfl
    refine s_seq (s_dropX e1 (ev_refuse (ev_cons (ev_notV (ev_var rfl)) (ev_cons ev_c ev_nil))) (fun d hd H2 s2 e2 => ?_) fun er he a H2 s2 xe => ?_)
    · cases hl : Spec.listIn 1 5 Spec.nameIn p with
      | none =>
        rw [hl] at hd
        cases hd
      | some us =>
        rw [hl] at e2
        obtain ⟨hp, h1, h5, hn⟩ := listIn_some (g := .str) (fun x y h => (nameIn_some h).1) hl
        subst hp
        have ht : Spec.tagsArg (.arr (us.map .str)) = if Spec.allDifferent us then .ok us else .error Spec.sameTags := by
          unfold Spec.tagsArg
          show Spec.andThen (Spec.orElse Spec.noTags (Spec.listIn 1 5 Spec.nameIn _)) _ = _
          rw [hl]
          show Spec.andThen (Spec.check Spec.sameTags (Spec.allDifferent us)) (fun _ => .ok us) = _
          unfold Spec.check
          cases Spec.allDifferent us <;> rfl
        refine s_seq (s_asg (d := tagsD us) e2 (EvN.toD (ev_callN (R := R_names_in) (ev_cons (ev_var rfl) ev_nil) ⟨us, rfl, by omega, rfl⟩)) fun σ3 H3 s3 e3 => ?_)
        refine s_seq (s_dropX e3 (ev_refuse (ev_cons ((ev_op (ev_setU (ev_var rfl) (by omega)) (ev_lenTags (ev_var rfl)) rv_lt).to (by rw [diff_lt])) (ev_cons ev_c ev_nil))) (fun d hd H4 s4 e4 => ?_) fun er he a H4 s4 xe => ?_)
        · cases hdf : Spec.allDifferent us with
          | false =>
            rw [hdf] at hd
            cases hd
          | true =>
            refine s_ret e4 (ev_var rfl) fun v H5 s5 r5 => k (tagsD us) ?_ v H5 ((((s1.trans s2).trans s3).trans s4).trans s5) r5
            unfold tagsR
            rw [ht, hdf]
            rfl
        · cases hdf : Spec.allDifferent us with
          | true =>
            rw [hdf] at he
            cases he
          | false =>
            rw [hdf] at he
            refine x er ?_ a H4 (((s1.trans s2).trans s3).trans s4) xe
            unfold tagsR
            rw [ht, hdf]
            cases he
            show Except.error (errOf Spec.sameTags) = _
            rw [show Spec.sameTags = ⟨.rangeError, Spec.units "tags must be different"⟩ from rfl, err_lit (by decide +kernel)]
            rfl
    · cases hl : Spec.listIn 1 5 Spec.nameIn p with
      | some us =>
        rw [hl] at he
        cases he
      | none =>
        rw [hl] at he
        refine x er ?_ a H2 (s1.trans s2) xe
        have ht : Spec.tagsArg p = .error Spec.noTags := by
          unfold Spec.tagsArg
          show Spec.andThen (Spec.orElse Spec.noTags (Spec.listIn 1 5 Spec.nameIn p)) _ = _
          rw [hl]
          rfl
        unfold tagsR
        rw [ht]
        cases he
        show Except.error (errOf Spec.noTags) = _
        rw [show Spec.noTags = ⟨.typeError, Spec.units "tags must be a list of 1 to 5 names"⟩ from rfl, err_lit (by decide +kernel)]
        rfl
end
end Tg
end

section
set_option Elab.async false
set_option linter.all false
set_option maxRecDepth 100000
set_option maxHeartbeats 4000000
/-! The doors: filters, items. -/
namespace Tg
open PySem PySem.Spec PyProof.Rows L2
open R7292f
theorem tagsOf_eq (tags : List Spec.Units) (m : Nat) : ∀ L : List Nat, (∀ i ∈ L, i < tags.length) → (L.filterMap fun i => if m.testBit i then tags[i]? else none) = (L.filter fun i => m.testBit i).map fun i => tags.getD i []
  | [], _ => rfl
  | i :: r, h => by
    have hi := h i List.mem_cons_self
    have ih := tagsOf_eq tags m r fun j hj => h j (List.mem_cons_of_mem _ hj)
    rw [List.filterMap_cons, List.filter_cons]
    cases hb : m.testBit i with
    | true =>
      simp only [if_true]
      rw [ih]
      have e : tags[i]? = some (tags.getD i []) := by simp [hi]
      rw [e]
      rfl
    | false =>
      simp only [Bool.false_eq_true, if_false]
      exact ih
theorem bits_snoc : ∀ (l : List Bool) (b : Bool), Spec.fromBits (l ++ [b]) = Spec.fromBits l + (if b then 2 ^ l.length else 0)
  | [], b => by cases b <;> rfl
  | x :: r, b => by
    show (if x then 1 else 0) + 2 * Spec.fromBits (r ++ [b]) = (if x then 1 else 0) + 2 * Spec.fromBits r + _
    rw [bits_snoc r b, List.length_cons, Nat.pow_succ]
    cases b <;> simp <;> omega
section
variable {P : Program} {w : World} {K : PySem.W.Frag} {mg : Str → Option Value} {base : Heap} {A : Ad} {f : Addr} {fd : FuncData} {ρ : List (Option Dat)}
/-! ### filter_of -/
def fargR (name : String) (tags : List Spec.Units) (p : Spec.Plain) : Except Err Dat := match Spec.filterArg name tags p with
  | .error e => .error (errOf e)
  | .ok F => .ok (tabD tags.length fun m => Spec.holds tags m F)
def R_filter_of (ds : List Dat) (r : Except Err Dat) : Prop := ∃ p name tags, ds = [plD p, .v (.str (Str.ofString name)), tagsD tags] ∧ Plainly name ∧ (Str.ofString name).length ≤ 100 ∧ tags.length ≤ 5 ∧ r = fargR name tags p
abbrev s_filter_of : Stmt := top 57
abbrev N_filter_of : List Str := ["value", "name", "tags"]
theorem sc_filter_of : FnScope N_filter_of ["value", "name", "tags"] (defScope s_filter_of) :=
  ⟨rfl, rfl, rfl, by decide +kernel, rfl, by decide +kernel, by decide +kernel⟩
theorem ok_filter_of (D : Df K mg "filter_of" s_filter_of ["value", "name", "tags"] f fd) (T : Txt K mg A) (g_wrong_kind : Cl P w K mg base (L2N.CX P w) 3 "wrong_kind" (MaySp K A.rf (R_refuse 1))) (g_is_text : Cl P w K mg base CX0 1 "is_text" (PureSp K R_is_text))
    (g_Parser_init : Mc P w K mg base (L2N.CX P w) 192 "Parser" A.pa (MkSp K A.rf A.pa R_Parser)) : Cl P w K mg base (L2N.CX P w) 194 "filter_of" (MaySp K A.rf R_filter_of) := by
  refine D.cl (ok_may D.fn sc_filter_of (fun ds r h => ?_) fun cdv _ outer s H E hr => ⟨_, (pss_cons (ps_expr (pe_cl g_wrong_kind hr (by omega) passX (by rfl) (pa_cons (pe_not (pe_cl g_is_text hr (by omega) pass0 (by rfl) (pa_cons (pv 0) pa_nil))) (pa_cons (pe_op (op_plusK K) (pv 1) pe_str) pa_nil))))
    (pss_one (ps_ret (pe_fldK K (pe_mkX g_Parser_init hr (by omega) passX (by rfl) (pa_cons (pe_ix (ix_seqK K) (pv 0) pe_int (fun _ _ => rfl)) (pa_cons (pv 2) (pa_cons pe_str pa_nil)))) rfl)))), ?_⟩)
  · obtain ⟨p, name, tags, rfl, _⟩ := h
    rfl
  · rintro ds r ⟨p, name, tags, rfl, hp, hl, hn, rfl⟩ σ H Q e k x
    have hlit : (Str.ofString " must be a text of at most 60 characters").length = 40 := by decide +kernel
    refine s_seq (s_dropX e (ev_refuse (ev_cons (ev_notV (ev_call (R := R_is_text) (ev_cons (ev_var rfl) ev_nil) ⟨p, rfl, rfl⟩)) (ev_cons (ev_op (ev_var rfl) ev_c (rv_plusS ?_)) ev_nil))) (fun d hd H2 s2 e2 => ?_) fun er he a H2 s2 xe => ?_)
    · rw [hlit]
      omega
    · cases ht : Spec.textIn p with
      | none =>
        rw [ht] at hd
        cases hd
      | some u =>
        obtain ⟨rfl, hu⟩ := textIn_some ht
        have hf : Spec.filterArg name tags (.str u) = Spec.readFilter "" tags u := by
          unfold Spec.filterArg
          rw [ht]
          rfl
        have hfr : fargR name tags (.str u) = fltR "" tags u := by
          unfold fargR fltR
          rw [hf] <;> rfl
        refine s_retX e2 (ev_found T (pre := "") rfl (fun c hc => by simp at hc) (ev_cons (ev_str (ev_var rfl)) (ev_cons (ev_var rfl) (ev_cons ev_c ev_nil))) ⟨hu, hn, by decide +kernel⟩) (fun d hd v H3 s3 r3 => k d (by rw [hfr]; exact hd) v H3 (s2.trans s3) r3) fun er he a H3 s3 xe => x er (by rw [hfr]; exact he) a H3 (s2.trans s3) xe
    · cases ht : Spec.textIn p with
      | some u =>
        rw [ht] at he
        cases he
      | none =>
        rw [ht] at he
        refine x er ?_ a H2 s2 xe
        have hf : Spec.filterArg name tags p = .error (Spec.noText name) := by
          unfold Spec.filterArg
          rw [ht]
          rfl
        unfold fargR
        rw [hf]
        cases he
        show Except.error (errOf ⟨.typeError, Spec.units (name ++ " must be a text of at most 60 characters")⟩) = _
        unfold errOf
        rw [strOf_units _ (hp.app (plainly_of (by decide +kernel))), ofString_app]
        rfl
/-! ### told_item -/
def R_told_item (ds : List Dat) (d : Dat) : Prop := ∃ (m : Nat) (tags : List Spec.Units), ds = [.v (.int m), tagsD tags] ∧ tags.length ≤ 5 ∧ d = plD (Spec.namesPlain (Spec.tagsOf tags m))
abbrev s_told_item : Stmt := top 60
abbrev N_told_item : List Str := ["item", "tags", "tag"]
theorem sc_told_item : FnScope N_told_item ["item", "tags"] (defScope s_told_item) :=
  ⟨rfl, rfl, rfl, by decide +kernel, rfl, by decide +kernel, by decide +kernel⟩
theorem ok_told_item (D : Df K mg "told_item" s_told_item ["item", "tags"] f fd) (T : Txt K mg A) (g_listed : Cl P w K mg base CX0 1 "listed" (PureSp K R_listed)) (g_has : Cl P w K mg base CX0 1 "has" (PureSp K R_has)) : Cl P w K mg base CX0 2 "told_item" (PureSp K R_told_item) := by
  refine D.cl (ok_pure D.fn sc_told_item (fun ds r h => ?_) fun cdv _ outer s H E hr => ⟨_, (pss_one (ps_ret (pe_cl g_listed hr (by omega) pass0 (by rfl) (pa_cons (pe_lc (own := [("tag", 2)]) (by rfl) sc_told_item.nd (pi_range1 rfl T.b_range (pa_cons (pe_callB (call_lenGK K) (by rfl) T.b_len bt_len (pa_cons (pv 1) pa_nil)) pa_nil)) (blkOk_by (own := [("tag", 2)]) (N := N_told_item) (sc := defScope s_told_item) (by decide +kernel)) (fun _ _ _ _ _ => (pg_name (i := 2) sc_told_item.nd rfl (Or.inl rfl))) (fun _ _ _ _ _ => (pts_one (pt_val (pe_cl g_has hr (by omega) pass0 (by rfl) (pa_cons (pv 0) (pa_cons (pv 2) pa_nil)))))) (fun _ _ _ _ _ => (pe_tup (pa_cons (C8.pe_gc rfl T.c_TEXT) (pa_cons (pe_ix (ix_seqK K) (pv 1) (pv 2) (fun _ _ => rfl)) pa_nil))))) pa_nil)))), ?_⟩)
  · obtain ⟨m, tags, rfl, _⟩ := h
    rfl
  · rintro ds d ⟨m, tags, rfl, hn, rfl⟩ σ H Q e k
    refine s_ret e ?_ k
    have hd : plD (Spec.namesPlain (Spec.tagsOf tags m)) = .tup [.v (.int 7), .tup (((List.range tags.length).filter fun i => m.testBit i).map fun i => plD (.str (tags.getD i [])))] := by
      unfold Spec.namesPlain Spec.tagsOf
      rw [tagsOf_eq tags m _ fun i hi => List.mem_range.mp hi]
      show Dat.tup [.v (.int 7), .tup (plDs _)] = _
      rw [plDs_map, List.map_map, List.map_map]
      rfl
    rw [hd]
    refine ev_call (R := R_listed) (ev_cons (EvN.toD (ev_lcR tags.length (fun i => m.testBit i) (fun i => plD (.str (tags.getD i []))) (ev_cons (ev_lenTags (ev_var rfl)) ev_nil) (by omega) (fun i _ => plD_still _) (fun i hi => ?_) fun i hi _ => ?_)) ev_nil) ⟨_, rfl, rfl⟩
    · exact ev_B (ev_call (R := R_has) (ev_cons (ev_var rfl) (ev_cons (ev_var rfl) ev_nil)) ⟨m, i, rfl, by omega, rfl⟩)
    · exact ev_tup (ev_cons ev_c (ev_cons (ev_op (ev_var (i := 1) rfl) (ev_var rfl) (rv_ixL (by omega) (tags_at (show (i : Int).toNat < tags.length by simp; omega)))) ev_nil))
/-! ### item_of -/
def itemR (tags : List Spec.Units) (p : Spec.Plain) : Except Err Dat := match Spec.itemIn tags p with
  | none => .error (errOf Spec.noItem)
  | some l => .ok (.v (.int (Spec.maskOf tags l : Nat)))
def R_item_of (ds : List Dat) (r : Except Err Dat) : Prop := ∃ p tags, ds = [plD p, tagsD tags] ∧ tags.length ≤ 5 ∧ r = itemR tags p
abbrev s_item_of : Stmt := top 61
abbrev N_item_of : List Str := ["value", "tags", "right", "names", "found", "weight", "tag", "one", "name"]
theorem sc_item_of : FnScope N_item_of ["value", "tags"] (defScope s_item_of) :=
  ⟨rfl, rfl, rfl, by decide +kernel, rfl, by decide +kernel, by decide +kernel⟩
theorem ok_item_of (D : Df K mg "item_of" s_item_of ["value", "tags"] f fd) (T : Txt K mg A) (g_is_name : Cl P w K mg base CX0 2 "is_name" (PureSp K R_is_name)) (g_names_in : Cl P w K mg base CX0 1 "names_in" (NewSp K R_names_in))
    (g_wrong_kind : Cl P w K mg base (L2N.CX P w) 3 "wrong_kind" (MaySp K A.rf (R_refuse 1))) : Cl P w K mg base (L2N.CX P w) 4 "item_of" (MaySp K A.rf R_item_of) := by
  refine D.cl (ok_may D.fn sc_item_of (fun ds r h => ?_) fun cdv _ outer s H E hr => ⟨_, (pss_cons (ps_set (i := 2) sc_item_of.nd rfl (Or.inl rfl) (pe_and (pe_cmpR (op_eqGK K hr.units) (pe_ix (ix_seqK K) (pv 0) pe_int (fun _ _ => rfl)) (C8.pe_gc rfl T.c_LIST) (nomark _)) (pe_and (pe_cmpR op_leI (pe_callB (call_lenGK K) (by rfl) T.b_len bt_len (pa_cons (pe_ix (ix_seqK K) (pv 0) pe_int (fun _ _ => rfl)) pa_nil)) (C8.pe_gc rfl T.c_MOST_TAGS) (nomark _)) (pe_one (pe_callB (cr_allK K rfl) (by rfl) T.b_all bt_all (pa_cons (pe_lc (own := [("one", 7)]) (by rfl) sc_item_of.nd (pi_seqK K (pe_ix (ix_seqK K) (pv 0) pe_int (fun _ _ => rfl))) (blkOk_by (own := [("one", 7)]) (N := N_item_of) (sc := defScope s_item_of) (by decide +kernel)) (fun _ _ _ _ _ => (pg_name (i := 7) sc_item_of.nd rfl (Or.inl rfl))) (fun _ _ _ _ _ => pts_nil) (fun _ _ _ _ _ => (pe_cl g_is_name hr (by omega) pass0 (by rfl) (pa_cons (pv 7) pa_nil)))) pa_nil))))))
    (pss_cons (ps_set (i := 3) sc_item_of.nd rfl (Or.inl rfl) (pe_ifExp (pt_val (pv 2)) (pe_cl g_names_in hr (by omega) pass0 (by rfl) (pa_cons (pv 0) pa_nil)) (pe_lst pa_nil)))
    (pss_cons (ps_set (i := 2) sc_item_of.nd rfl (Or.inl rfl) (pe_and (pv 2) (pe_and (pe_cmpR (op_eqGK K hr.units) (pe_lenSet2K K (by rfl) (by rfl) T.b_len (by rfl) T.b_set hr.units (pv 3)) (pe_callB (call_lenGK K) (by rfl) T.b_len bt_len (pa_cons (pv 3) pa_nil)) (nomark _)) (pe_one (pe_callB (cr_allK K rfl) (by rfl) T.b_all bt_all (pa_cons (pe_lc (own := [("name", 8)]) (by rfl) sc_item_of.nd (pi_seqK K (pv 3)) (blkOk_by (own := [("name", 8)]) (N := N_item_of) (sc := defScope s_item_of) (by decide +kernel)) (fun _ _ _ _ _ => (pg_name (i := 8) sc_item_of.nd rfl (Or.inl rfl))) (fun _ _ _ _ _ => pts_nil) (fun _ _ _ _ _ => (pe_cmpR (op_inGK K (units65 hr)) (pv 8) (pv 1) (by rfl)))) pa_nil))))))
    (pss_cons (ps_expr (pe_cl g_wrong_kind hr (by omega) passX (by rfl) (pa_cons (pe_not (pv 2)) (pa_cons pe_str pa_nil))))
    (pss_cons (ps_set (i := 4) sc_item_of.nd rfl (Or.inl rfl) pe_int)
    (pss_cons (ps_set (i := 5) sc_item_of.nd rfl (Or.inl rfl) pe_int)
    (pss_cons (ps_for passOwnX rfl (pi_seqK K (pv 1)) (pg_name (i := 6) sc_item_of.nd rfl (Or.inl rfl)) (pss_cons (ps_aug (i := 4) sc_item_of.nd rfl (Or.inl rfl) (pe_ifExp (pt_cmpR (op_inGK K (units65 hr)) (pv 6) (pv 3) (by rfl)) (pv 5) pe_int) ip_add)
    (pss_one (ps_aug (i := 5) sc_item_of.nd rfl (Or.inl rfl) (pv 5) ip_add))))
    (pss_one (ps_ret (pv 4)))))))))), ?_⟩)
  · obtain ⟨p, tags, rfl, _⟩ := h
    rfl
  · rintro ds r ⟨p, tags, rfl, hn, rfl⟩ σ H Q e k x
    refine s_seq (s_asg (d := .v (.bl (Spec.listIn 0 5 Spec.nameIn p).isSome)) e ?_ fun σ1 H1 s1 e1 => ?_)
    · by_cases h7 : kindN p = 7
      · obtain ⟨l, rfl⟩ := kind7 h7
        refine (ev_andV (c := true) (c' := decide (l.length ≤ 5) && l.all fun x => (Spec.nameIn x).isSome) ((ev_isKind (ev_var rfl) 7).to (by rw [decide_eq_true h7])) fun _ => ?_).to ?_
        · refine ev_andV (c := decide (l.length ≤ 5)) (c' := l.all fun x => (Spec.nameIn x).isSome) ((ev_op (ev_cb (ev_cons (ev_arr (ev_var rfl)) ev_nil) rc_lenT) ev_c rv_le).to ?_) fun hb => ?_
          · simp only [List.length_map]
            congr 2
            exact decide_eq_decide.mpr (by omega)
          · have hz : l.length ≤ 1000000 := by
              have := of_decide_eq_true hb
              omega
            exact ev_cb (ev_cons (EvN.toD (ev_lcT1 (l := l) plD (fun x => .v (.bl (Spec.nameIn x).isSome)) (ev_arr (ev_var rfl)) hz (fun _ _ => rfl) fun x _ => ev_call (R := R_is_name) (ev_cons (ev_var rfl) ev_nil) ⟨x, rfl, rfl⟩)) ev_nil) rc_allM
        · rw [listIn_isSome]
          simp
      · refine (ev_andV (c := false) (c' := false) ((ev_isKind (ev_var rfl) 7).to (by rw [decide_eq_false h7])) fun h => by cases h).to ?_
        have : Spec.listIn 0 5 Spec.nameIn p = none := by
          cases p with
          | arr u => exact absurd rfl h7
          | _ => rfl
        rw [this]
        rfl
    have hres : itemR tags p = if (match Spec.listIn 0 5 Spec.nameIn p with | none => false | some us => Spec.allDifferent us && us.all tags.contains) then .ok (.v (.int (Spec.maskOf tags ((Spec.listIn 0 5 Spec.nameIn p).getD []) : Nat))) else .error (errOf Spec.noItem) := by
      unfold itemR Spec.itemIn Spec.when
      rw [show Spec.maxTags = 5 from rfl]
      cases Spec.listIn 0 5 Spec.nameIn p with
      | none => rfl
      | some us =>
        simp only [Option.bind, Option.getD]
        by_cases hc : (Spec.allDifferent us && us.all tags.contains) = true
        · rw [if_pos hc, if_pos hc]
        · rw [if_neg hc, if_neg hc]
    have herr : errOf Spec.noItem = (1, Str.ofString "item must be a list of different tags") := by
      rw [show Spec.noItem = ⟨.typeError, Spec.units "item must be a list of different tags"⟩ from rfl, err_lit (by decide +kernel)]
      rfl
    -- names
    refine s_seq (s_asg (d := tagsD ((Spec.listIn 0 5 Spec.nameIn p).getD [])) e1 (ev_if (ev_B (ev_var rfl)) (fun hb => ?_) fun hb => ?_) fun σ2 H2 s2 e2 => ?_)
    · cases hl : Spec.listIn 0 5 Spec.nameIn p with
      | none =>
        rw [hl] at hb
        cases hb
      | some us =>
        obtain ⟨hp, h1, h5, hnm⟩ := listIn_some (g := .str) (fun x y h => (nameIn_some h).1) hl
        subst hp
        exact EvN.toD (ev_callN (R := R_names_in) (ev_cons (ev_var rfl) ev_nil) ⟨us, rfl, by omega, rfl⟩)
    · cases hl : Spec.listIn 0 5 Spec.nameIn p with
      | none => exact EvN.toD (ev_lst ev_nil)
      | some us =>
        rw [hl] at hb
        cases hb
    have hnl : ((Spec.listIn 0 5 Spec.nameIn p).getD []).length ≤ 5 := by
      cases hl : Spec.listIn 0 5 Spec.nameIn p with
      | none => exact Nat.zero_le _
      | some us =>
        obtain ⟨hp, h1, h5, hnm⟩ := listIn_some (g := .str) (fun x y h => (nameIn_some h).1) hl
        exact h5
    refine s_seq (s_asg (d := .v (.bl (match Spec.listIn 0 5 Spec.nameIn p with | none => false | some us => Spec.allDifferent us && us.all tags.contains))) e2 ((ev_andV (c' := Spec.allDifferent ((Spec.listIn 0 5 Spec.nameIn p).getD []) && ((Spec.listIn 0 5 Spec.nameIn p).getD []).all tags.contains) (ev_var rfl) fun _ =>
      ev_andV ((ev_op (ev_setU (ev_var rfl) (by omega)) (ev_lenTags (ev_var rfl)) rv_eqI).to ?_) fun _ => ev_cb (ev_cons (EvN.toD (ev_lcL1 (l := (Spec.listIn 0 5 Spec.nameIn p).getD []) uD (fun u => .v (.bl (tags.contains u))) (ev_var (i := 3) rfl) (by omega) (fun _ _ => rfl) fun u _ => ev_op (ev_var rfl) (ev_var (i := 1) rfl) rv_inTags)) ev_nil) rc_allM).to ?_) fun σ3 H3 s3 e3 => ?_)
    · rw [diff_eq]
      congr 2
      exact decide_eq_decide.mpr Int.ofNat_inj
    · cases Spec.listIn 0 5 Spec.nameIn p <;> rfl
    generalize hg : (match Spec.listIn 0 5 Spec.nameIn p with | none => false | some us => Spec.allDifferent us && us.all tags.contains) = good at hres e3
    generalize hus : (Spec.listIn 0 5 Spec.nameIn p).getD [] = us at hres e3 hnl
    refine s_seq (s_dropX e3 (ev_refuse (ev_cons (ev_notV (ev_var rfl)) (ev_cons ev_c ev_nil))) (fun d hd H4 s4 e4 => ?_) fun er he a H4 s4 xe => ?_)
    · cases good with
      | false => cases hd
      | true =>
        rw [if_pos rfl] at hres
        dsimp only
        refine s_seq (s_asg e4 ev_c fun σ5 H5 s5 e5 => ?_)
        dsimp only
        refine s_seq (s_asg e5 ev_c fun σ6 H6 s6 e6 => ?_)
        have s06 := ((((s1.trans s2).trans s3).trans s4).trans s5).trans s6
        dsimp only
        have e7 := e6
        obtain ⟨v, h1, h2⟩ := e6.get (i := 1) rfl
        cases h2 with
        | lst ha r =>
          rename_i b xs
          refine s_seq (s_forL (K := K) (j := 6) (l := tags) uD H6 (fun t σ' H' => Env K H' σ' [some (plD p), some (tagsD tags), some (.v (.bl true)), some (tagsD us), some (.v (.int (Spec.fromBits ((tags.take t).map us.contains) : Nat))), some (.v (.int (2 ^ t : Nat))), none, none, none] ∧ Same H6 H')
            (fun Q q => ⟨_, h1, q⟩) (Same.refl _) ha r ⟨e7, Same.refl _⟩ (fun i σ' H' q => q.2) (fun t u v σ' H' hu rv q => ?_) fun σ' H' q => ?_)
          · obtain ⟨q1, q2⟩ := q
            have q3 := q1.set 6 (rv.mono q2)
            refine s_seq (s_aug (f := fun i j => i + j) (c := ((if us.contains u then 2 ^ t else 0 : Nat) : Int)) q3 rfl (ev_if (ev_test (ev_op (ev_var (i := 6) rfl) (ev_var (i := 3) rfl) rv_inTags)) (fun hb => ?_) fun hb => ?_) fun σ8 H8 s8 e8 => ?_)
            · rw [if_pos hb]
              exact ev_var (i := 5) rfl
            · rw [if_neg (by rw [hb]; decide)]
              exact ev_c
            refine s_aug (f := fun i j => i + j) e8 rfl (ev_var (i := 5) rfl) fun σ9 H9 s9 e9 => ⟨?_, q2.trans (s8.trans s9)⟩
            have e10 := e9.forget 6
            have ht : (tags.take (t + 1)).map us.contains = (tags.take t).map us.contains ++ [us.contains u] := by
              rw [List.take_add_one, hu, List.map_append]
              rfl
            have hlt := (List.getElem?_eq_some_iff.mp hu).1
            have hlen : ((tags.take t).map us.contains).length = t := by
              rw [List.length_map, List.length_take]
              omega
            have h3 : Spec.fromBits ((tags.take (t + 1)).map us.contains) = Spec.fromBits ((tags.take t).map us.contains) + (if us.contains u then 2 ^ t else 0) := by
              rw [ht, bits_snoc, hlen]
            have h4 : ((2 ^ (t + 1) : Nat) : Int) = ((2 ^ t : Nat) : Int) + ((2 ^ t : Nat) : Int) := by
              rw [Nat.pow_succ]
              omega
            rw [h3, h4, Int.natCast_add]
            exact e10
          · obtain ⟨q1, q2⟩ := q
            dsimp only
            rw [List.take_length] at q1
            exact s_ret q1 (ev_var (i := 4) rfl) fun v H7 s7 r7 => k _ hres v H7 ((s06.trans q2).trans s7) r7
    · cases good with
      | true => cases he
      | false =>
        rw [if_neg (by decide)] at hres
        refine x er ?_ a H4 (((s1.trans s2).trans s3).trans s4) xe
        rw [hres, herr]
        cases he
        rfl
end
end Tg
end

section
set_option Elab.async false
set_option linter.all false
set_option maxRecDepth 100000
set_option maxHeartbeats 4000000
/-! The doors: a change created. -/
namespace Tg
open PySem PySem.Spec PyProof.Rows L2
open R7292f
/-! ### definitions read one by one -/
def preS (i : Nat) : String := "definition " ++ toString i ++ ": "
def okF (tags : List Spec.Units) (i : Nat) (u : Spec.Units) : Spec.Filter := match Spec.readFilter (preS i) tags u with
  | .error _ => .nothing
  | .ok F => F
theorem preS_plain {i : Nat} (h : i ≤ 300) : Plainly (preS i) := ((plainly_of (by decide +kernel)).app (num_small h)).app (plainly_of (by decide +kernel))
theorem preS_str (i : Nat) : Str.ofString (preS i) = Str.ofString "definition " ++ Str.ofString (toString (i : Int)) ++ Str.ofString ": " := by
  unfold preS
  rw [ofString_app, ofString_app]
  rfl
def defsFrom (tags : List Spec.Units) : Nat → List (Spec.Units × Spec.Units) → List (Spec.Units × List Bool)
  | _, [] => []
  | i, e :: l => (e.1, Spec.tableOf tags (okF tags i e.2)) :: defsFrom tags (i + 1) l
theorem readAll_ok (tags : List Spec.Units) : ∀ (l : List (Spec.Units × Spec.Units)) (k : Nat), (∀ i, i < l.length → ∃ F, Spec.readFilter (preS (k + i)) tags (l.getD i ([], [])).2 = .ok F) → Spec.readAll tags k l = .ok (defsFrom tags k l)
  | [], _, _ => rfl
  | e :: l, k, h => by
    obtain ⟨F, hF⟩ := h 0 (by simp)
    have h2 := readAll_ok tags l (k + 1) fun i hi => by
      have := h (i + 1) (by simp; omega)
      rw [show k + 1 + i = k + (i + 1) by omega]
      exact this
    have hF' : Spec.readFilter ("definition " ++ toString k ++ ": ") tags e.2 = .ok F := hF
    unfold Spec.readAll
    rw [hF']
    show Spec.andThen (Spec.readAll tags (k + 1) l) _ = _
    rw [h2]
    have ho : okF tags k e.2 = F := by
      unfold okF
      rw [show Spec.readFilter (preS k) tags e.2 = .ok F from hF']
    show Except.ok _ = Except.ok _
    rw [← ho]
    rfl
theorem readAll_err (tags : List Spec.Units) : ∀ (l : List (Spec.Units × Spec.Units)) (k i : Nat) (er : Spec.Err), i < l.length → (∀ j, j < i → ∃ F, Spec.readFilter (preS (k + j)) tags (l.getD j ([], [])).2 = .ok F) → Spec.readFilter (preS (k + i)) tags (l.getD i ([], [])).2 = .error er → Spec.readAll tags k l = .error er
  | [], _, _, _, h, _, _ => absurd h (Nat.not_lt_zero _)
  | e :: l, k, 0, er, _, _, h => by
    have h' : Spec.readFilter ("definition " ++ toString k ++ ": ") tags e.2 = .error er := h
    unfold Spec.readAll
    rw [h']
    rfl
  | e :: l, k, i + 1, er, hl, h0, h => by
    obtain ⟨F, hF⟩ := h0 0 (by omega)
    have hF' : Spec.readFilter ("definition " ++ toString k ++ ": ") tags e.2 = .ok F := hF
    have h2 := readAll_err tags l (k + 1) i er (by simp at hl; omega) (fun j hj => by
      have := h0 (j + 1) (by omega)
      rw [show k + 1 + j = k + (j + 1) by omega]
      exact this) (by rw [show k + 1 + i = k + (i + 1) by omega]; exact h)
    unfold Spec.readAll
    rw [hF']
    show Spec.andThen (Spec.readAll tags (k + 1) l) _ = _
    rw [h2]
    rfl
theorem defs_names (tags : List Spec.Units) : ∀ (l : List (Spec.Units × Spec.Units)) (k : Nat), (defsFrom tags k l).map (·.1) = l.map (·.1)
  | [], _ => rfl
  | e :: l, k => by
    show e.1 :: _ = e.1 :: _
    rw [defs_names tags l (k + 1)]
def goG {α β : Type} (G : Nat → α → β) : Nat → List α → List β
  | _, [] => []
  | k, e :: l => G k e :: goG G (k + 1) l
theorem goG_range {α β : Type} (G : Nat → α → β) (z : α) : ∀ (l : List α) (k : Nat), goG G k l = (List.range l.length).map fun i => G (k + i) (l.getD i z)
  | [], _ => rfl
  | e :: l, k => by
    rw [List.length_cons, List.range_succ_eq_map, List.map_cons, List.map_map]
    unfold goG
    rw [goG_range G z l (k + 1)]
    refine congr (congrArg List.cons ?_) ?_
    · rw [Nat.add_zero, List.getD_cons_zero]
    · apply List.map_congr_left
      intro i _
      simp only [Function.comp]
      rw [List.getD_cons_succ, show k + 1 + i = k + i.succ by omega]
theorem found_tab {tags : List Spec.Units} {m : Nat} (hm : m < 2 ^ tags.length) (F : Spec.Filter) : Spec.found (Spec.tableOf tags F) m = Spec.holds tags m F := by
  unfold Spec.found Spec.tableOf
  generalize Spec.holds tags = h
  simp [Spec.items, hm]
theorem defs_go (tags : List Spec.Units) (m : Nat) (hm : m < 2 ^ tags.length) : ∀ (l : List (Spec.Units × Spec.Units)) (k : Nat), (defsFrom tags k l).map (fun e => Spec.found e.2 m) = goG (fun i e => Spec.holds tags m (okF tags i e.2)) k l
  | [], _ => rfl
  | e :: l, k => by
    unfold defsFrom goG
    rw [List.map_cons, defs_go tags m hm l (k + 1), found_tab hm]
theorem defs_tabs (tags : List Spec.Units) (m : Nat) (hm : m < 2 ^ tags.length) (l : List (Spec.Units × Spec.Units)) (k : Nat) : (defsFrom tags k l).map (fun e => Spec.found e.2 m) = (List.range l.length).map fun i => Spec.holds tags m (okF tags (k + i) (l.getD i ([], [])).2) := by
  rw [defs_go tags m hm]
  exact goG_range (fun i (e : Spec.Units × Spec.Units) => Spec.holds tags m (okF tags i e.2)) ([], []) l k
/-- a change's data -/
def chDat (A : Ad) (c : Spec.Change) : Dat := chD A c.old (Spec.newTags c) (Spec.imageOf c)
theorem madeD_congr {n : Nat} {mk mk' : Nat → Nat} (h : ∀ x, x < 2 ^ n → mk x = mk' x) : madeD n mk = madeD n mk' := by
  unfold madeD
  congr 2
  apply List.map_congr_left
  intro x hx
  exact h x (by simpa [Spec.items] using hx)
theorem chD_congr {A : Ad} {old new : List Spec.Units} {mk mk' : Nat → Nat} (h : ∀ x, x < 2 ^ old.length → mk x = mk' x) : chD A old new mk = chD A old new mk' := by
  unfold chD chG
  rw [madeD_congr h]
section
variable {K : PySem.W.Frag} {H0 : Hp} {i : Nat} {ρ : List (Option Dat)} {ds : List Dat} {p : Addr} {σ : L2.St} {H : Hp} {te : TE} {D : Ends} {E : XK} {C : Addr} {r : Except Err Dat}
/-- a table stands apart from the list of tables -/
theorem tab_hid {l : List Bool} {v : V} (a : AcF K H0 i ρ ds p σ H) (hds : ∀ d ∈ ds, ∃ l, d = .lst l) (hl : l ≠ []) (x : Rp K H v (.lst (sc V.bl l))) : Rp K (hid p H) v (.lst (sc V.bl l)) := by
  cases x with
  | lst hq rl =>
    rename_i q xs
    have ex := sc_rpl rl
    have hne : q ≠ p := fun e => by
      obtain ⟨vs, hv, rv⟩ := a.at_
      rw [e, hv] at hq
      cases hq
      cases l with
      | nil => exact hl rfl
      | cons b l =>
        rw [ex] at rv
        cases rv with
        | cons h1 h2 =>
          rename_i d ds'
          obtain ⟨l', e'⟩ := hds d List.mem_cons_self
          subst e'
          cases h1
    exact .lst (by rw [hid_ne hne]; exact hq) (by rw [ex]; exact rpl_sc V.bl l)
theorem f_appX (a : AcF K H0 i ρ ds p σ H) (h : EvX K C E te (ρ.set i (some (.lst ds))) r) (hz : ds.length < 1000000)
    (hok : ∀ d, r = .ok d → ∀ v H1, Same H H1 → AcF K H0 i ρ ds p σ H1 → Rp K H1 v d → Rp K (hid p H1) v d)
    (k : ∀ d, r = .ok d → ∀ H', AcF K H0 i ρ (ds ++ [d]) p σ H' → D.nx σ H') (x : ∀ er, r = .error er → ∀ b H', Same H H' → XErr K H' b er → E (.ref C) (some b) H') :
    tDrop (tBM K "list" rAppend (tVar i) (tCons te tNil)) D σ H := by
  obtain ⟨vs, hp, rl⟩ := a.at_
  refine ⟨_, a.slot, .inl ⟨rfl, _, SqL.of hp⟩, h σ H a.all _ (fun d hd v H1 s1 r1 => ?_) fun er he b H' s xe => x er he b H' s xe⟩
  have a1 := a.grow s1
  refine ⟨p, vs, v, rfl, rfl, s1 _ _ hp, ?_, k d hd _ (a1.app (s1 _ _ hp) (hok d hd v H1 s1 a1 r1))⟩
  rw [rl.length]
  exact Nat.lt_of_lt_of_le hz (by decide)
end
theorem tagsArg_ok {x : Spec.Plain} {us : List Spec.Units} (h : Spec.tagsArg x = .ok us) : 1 ≤ us.length ∧ us.length ≤ 5 ∧ Spec.allDifferent us = true ∧ ∀ u ∈ us, Spec.nameIn (.str u) = some u := by
  unfold Spec.tagsArg at h
  have h' : Spec.andThen (Spec.orElse Spec.noTags (Spec.listIn 1 5 Spec.nameIn x)) (fun l => Spec.andThen (Spec.check Spec.sameTags (Spec.allDifferent l)) fun _ => .ok l) = .ok us := h
  cases hl : Spec.listIn 1 5 Spec.nameIn x with
  | none =>
    rw [hl] at h'
    cases h'
  | some l =>
    rw [hl] at h'
    obtain ⟨hp, h1, h5, hnm⟩ := listIn_some (g := .str) (fun x y h => (nameIn_some h).1) hl
    have h2 : Spec.andThen (Spec.check Spec.sameTags (Spec.allDifferent l)) (fun _ => (.ok l : Spec.Res (List Spec.Units))) = .ok us := h'
    cases hd : Spec.allDifferent l with
    | false =>
      rw [hd] at h2
      cases h2
    | true =>
      rw [hd] at h2
      cases h2
      exact ⟨h1, h5, hd, hnm⟩
theorem pairIn_some {p : Spec.Plain} {e : Spec.Units × Spec.Units} (h : Spec.pairIn p = some e) : p = .arr [.str e.1, .str e.2] ∧ Spec.nameIn (.str e.1) = some e.1 ∧ e.2.length ≤ 60 := by
  unfold Spec.pairIn at h
  split at h
  · rename_i a b
    cases hn : Spec.nameIn a with
    | none =>
      rw [hn] at h
      cases h
    | some u =>
      cases ht : Spec.textIn b with
      | none =>
        rw [hn, ht] at h
        cases h
      | some v =>
        rw [hn, ht] at h
        cases h
        have e1 := (nameIn_some hn).1
        obtain ⟨e2, e3⟩ := textIn_some ht
        subst e1
        subst e2
        exact ⟨rfl, hn, e3⟩
  · cases h
end Tg
end

section
set_option Elab.async false
set_option linter.all false
set_option maxRecDepth 100000
set_option maxHeartbeats 1000000
/-! The doors: created. -/
namespace Tg
open PySem PySem.Spec PyProof.Rows L2
open R7292f
theorem newFn_eq (x y : Spec.Plain) : Spec.newFn x y = (match Spec.tagsArg x with
  | .error e => .error e
  | .ok tags => match Spec.listIn 0 5 Spec.pairIn y with
    | none => .error Spec.noChanges
    | some l => if Spec.allDifferent (l.map fun e => e.1) then (match Spec.readAll tags 0 l with
      | .error e => .error e
      | .ok defs => .ok ⟨tags, defs⟩) else .error Spec.sameNew) := by
  unfold Spec.newFn
  cases Spec.tagsArg x with
  | error e => rfl
  | ok tags =>
    show Spec.andThen (Spec.orElse Spec.noChanges (Spec.listIn 0 5 Spec.pairIn y)) _ = _
    cases Spec.listIn 0 5 Spec.pairIn y with
    | none => rfl
    | some l =>
      show Spec.andThen (Spec.check Spec.sameNew (Spec.allDifferent (l.map fun e => e.1))) (fun _ => Spec.andThen (Spec.readAll tags 0 l) fun defs => .ok (⟨tags, defs⟩ : Spec.Change)) = (if Spec.allDifferent (l.map fun e => e.1) = true then (match Spec.readAll tags 0 l with
        | .error e => .error e
        | .ok defs => .ok (⟨tags, defs⟩ : Spec.Change)) else .error Spec.sameNew)
      cases Spec.allDifferent (l.map fun e => e.1) with
      | false => rfl
      | true =>
        rw [if_pos rfl]
        show Spec.andThen (Spec.readAll tags 0 l) _ = _
        cases Spec.readAll tags 0 l <;> rfl
theorem chDat_defs (A : Ad) (tags : List Spec.Units) (l : List (Spec.Units × Spec.Units)) : chD A tags (l.map fun e => e.1) (imgT ((List.range l.length).map fun i m => Spec.holds tags m (okF tags i (l.getD i ([], [])).2))) = chDat A ⟨tags, defsFrom tags 0 l⟩ := by
  have hnn : Spec.newTags ⟨tags, defsFrom tags 0 l⟩ = l.map fun e => e.1 := defs_names _ _ _
  have key : ∀ m, m < 2 ^ tags.length → imgT ((List.range l.length).map fun i m => Spec.holds tags m (okF tags i (l.getD i ([], [])).2)) m = Spec.imageOf ⟨tags, defsFrom tags 0 l⟩ m := fun m hm => by
    unfold Spec.imageOf imgT
    rw [defs_tabs tags m hm l 0, List.map_map]
    refine congrArg Spec.fromBits (List.map_congr_left fun i _ => ?_)
    simp only [Function.comp, Nat.zero_add]
  unfold chDat
  rw [hnn]
  exact chD_congr key
theorem listed_at {l : List Spec.Plain} {i : Nat} {x : Spec.Plain} (h : l[i]? = some x) : (l.map plD)[((i : Nat) : Int).toNat]? = some (plD x) := by
  rw [Int.toNat_natCast, List.getElem?_map, h]
  rfl
section
variable {P : Program} {w : World} {K : PySem.W.Frag} {mg : Str → Option Value} {base : Heap} {A : Ad} {f : Addr} {fd : FuncData} {ρ : List (Option Dat)}
def newR (A : Ad) (x y : Spec.Plain) : Except Err Dat := match Spec.newFn x y with
  | .error e => .error (errOf e)
  | .ok c => .ok (chDat A c)
def R_created (A : Ad) (ds : List Dat) (r : Except Err Dat) : Prop := ∃ (vs : List Spec.Plain) (x y : Spec.Plain), ds = [.lst (vs.map plD)] ∧ vs[1]? = some x ∧ vs[2]? = some y ∧ r = newR A x y
theorem ev_given {te : TE} {vs : List Spec.Plain} {i : Nat} {x : Spec.Plain} (h : EvD K te ρ (.lst (vs.map plD))) (hx : vs[i]? = some x) : EvD K (tOp (rIx K) te (tC (.int (i : Nat)))) ρ (plD x) :=
  ev_op h ev_c (rv_ixL (by omega) (listed_at hx))
abbrev s_created : Stmt := top 59
abbrev N_created : List Str := ["given", "tags", "rows", "right", "names", "tables", "at", "one"]
theorem sc_created : FnScope N_created ["given"] (defScope s_created) :=
  ⟨rfl, rfl, rfl, by decide +kernel, rfl, by decide +kernel, by decide +kernel⟩
theorem ok_created (D : Df K mg "created" s_created ["given"] f fd) (T : Txt K mg A) (g_tags_of : Cl P w K mg base (L2N.CX P w) 4 "tags_of" (MaySp K A.rf R_tags_of)) (g_is_definition : Cl P w K mg base CX0 3 "is_definition" (PureSp K R_is_definition))
    (g_wrong_kind : Cl P w K mg base (L2N.CX P w) 3 "wrong_kind" (MaySp K A.rf (R_refuse 1))) (g_out_of_range : Cl P w K mg base (L2N.CX P w) 3 "out_of_range" (MaySp K A.rf (R_refuse 2)))
    (g_Parser_init : Mc P w K mg base (L2N.CX P w) 192 "Parser" A.pa (MkSp K A.rf A.pa R_Parser)) (g_change_of : Cl P w K mg base CX0 3 "change_of" (PureSp K (R_change_of A))) : Cl P w K mg base (L2N.CX P w) 194 "created" (MaySp K A.rf (R_created A)) := by
  refine D.cl (ok_may D.fn sc_created (fun ds r h => ?_) fun cdv _ outer s H E hr => ⟨_, (pss_cons (ps_set (i := 1) sc_created.nd rfl (Or.inl rfl) (pe_cl g_tags_of hr (by omega) passX (by rfl) (pa_cons (pe_ix (ix_seqK K) (pv 0) pe_int (fun _ _ => rfl)) pa_nil)))
    (pss_cons (ps_set (i := 2) sc_created.nd rfl (Or.inl rfl) (pe_ix (ix_seqK K) (pv 0) pe_int (fun _ _ => rfl)))
    (pss_cons (ps_set (i := 3) sc_created.nd rfl (Or.inl rfl) (pe_and (pe_cmpR (op_eqGK K hr.units) (pe_ix (ix_seqK K) (pv 2) pe_int (fun _ _ => rfl)) (C8.pe_gc rfl T.c_LIST) (nomark _)) (pe_and (pe_cmpR op_leI (pe_callB (call_lenGK K) (by rfl) T.b_len bt_len (pa_cons (pe_ix (ix_seqK K) (pv 2) pe_int (fun _ _ => rfl)) pa_nil)) (C8.pe_gc rfl T.c_MOST_TAGS) (nomark _)) (pe_one (pe_callB (cr_allK K rfl) (by rfl) T.b_all bt_all (pa_cons (pe_lc (own := [("one", 7)]) (by rfl) sc_created.nd (pi_seqK K (pe_ix (ix_seqK K) (pv 2) pe_int (fun _ _ => rfl))) (blkOk_by (own := [("one", 7)]) (N := N_created) (sc := defScope s_created) (by decide +kernel)) (fun _ _ _ _ _ => (pg_name (i := 7) sc_created.nd rfl (Or.inl rfl))) (fun _ _ _ _ _ => pts_nil) (fun _ _ _ _ _ => (pe_cl g_is_definition hr (by omega) pass0 (by rfl) (pa_cons (pv 7) pa_nil)))) pa_nil))))))
    (pss_cons (ps_expr (pe_cl g_wrong_kind hr (by omega) passX (by rfl) (pa_cons (pe_not (pv 3)) (pa_cons pe_str pa_nil))))
    (pss_cons (ps_setLc (i := 4) (own := [("one", 7)]) (by rfl) sc_created.nd rfl rfl (sw_true rfl rfl rfl (by decide +kernel)) (pi_seqK K (pe_ix (ix_seqK K) (pv 2) pe_int (fun _ _ => rfl))) (blkOk_by (own := [("one", 7)]) (N := N_created) (sc := defScope s_created) (by decide +kernel)) (fun _ _ _ _ _ => (pg_name (i := 7) sc_created.nd rfl (Or.inl rfl))) (fun _ _ _ _ _ => pts_nil) (fun _ _ _ _ _ => (pe_callTy (call_tupGK K) (by rfl) T.b_tuple bt_tuple (pa_cons (pe_ix (ix_seqK K) (pe_ix (ix_seqK K) (pe_ix (ix_seqK K) (pv 7) pe_int (fun _ _ => rfl)) pe_int (fun _ _ => rfl)) pe_int (fun _ _ => rfl)) pa_nil))))
    (pss_cons (ps_expr (pe_cl g_out_of_range hr (by omega) passX (by rfl) (pa_cons (pe_cmpR op_ltI (pe_lenSet2K K (by rfl) (by rfl) T.b_len (by rfl) T.b_set hr.units (pv 4)) (pe_callB (call_lenGK K) (by rfl) T.b_len bt_len (pa_cons (pv 4) pa_nil)) (nomark _)) (pa_cons pe_str pa_nil))))
    (pss_cons (ps_set (i := 5) sc_created.nd rfl (Or.inl rfl) (pe_lst pa_nil))
    (pss_cons (ps_for passOwnX rfl (pi_range1 rfl T.b_range (pa_cons (pe_callB (call_lenGK K) (by rfl) T.b_len bt_len (pa_cons (pv 4) pa_nil)) pa_nil)) (pg_name (i := 6) sc_created.nd rfl (Or.inl rfl)) (pss_one (ps_expr (pe_bmK K PySem.F.plainAttrs_list PySem.F.slot_list_append PySem.F.type_list_append mt_append (pv 5) (pa_cons (pe_fldK K (pe_mkX g_Parser_init hr (by omega) passX (by rfl) (pa_cons (pe_ix (ix_seqK K) (pe_ix (ix_seqK K) (pe_ix (ix_seqK K) (pe_ix (ix_seqK K) (pe_ix (ix_seqK K) (pv 2) pe_int (fun _ _ => rfl)) (pv 6) (fun _ _ => rfl)) pe_int (fun _ _ => rfl)) pe_int (fun _ _ => rfl)) pe_int (fun _ _ => rfl)) (pa_cons (pv 1) (pa_cons (pe_op (op_plusK K) (pe_op (op_plusK K) pe_str (pe_callTy call_strI (by rfl) T.b_str bt_str (pa_cons (pv 6) pa_nil))) pe_str) pa_nil)))) rfl) pa_nil)))))
    (pss_one (ps_ret (pe_cl g_change_of hr (by omega) pass0 (by rfl) (pa_cons (pv 1) (pa_cons (pv 4) (pa_cons (pv 5) pa_nil)))))))))))))), ?_⟩)
  · obtain ⟨vs, x, y, rfl, _⟩ := h
    rfl
  · rintro ds r ⟨vs, px, py, rfl, hx, hy, rfl⟩ σ H Q e k x
    have hN := newFn_eq px py
    try dsimp only
    refine s_seq (s_asgX e (ev_callX (C := A.rf) (R := R_tags_of) (r := tagsR px) (ev_cons (ev_given (i := 1) (ev_var rfl) hx) ev_nil) ⟨px, rfl, rfl⟩) (fun d hd σ1 H1 s1 e1 => ?_) fun er he a H1 s1 xe => ?er1)
    case er1 =>
      refine x er ?_ a H1 s1 xe
      unfold tagsR at he
      unfold newR
      cases ht : Spec.tagsArg px with
      | ok us =>
        rw [ht] at he
        cases he
      | error e2 =>
        rw [ht] at he hN
        rw [hN]
        exact he
    cases ht : Spec.tagsArg px with
    | error e2 =>
      unfold tagsR at hd
      rw [ht] at hd
      cases hd
    | ok tags =>
      unfold tagsR at hd
      rw [ht] at hd hN
      cases hd
      simp only [] at hN
      obtain ⟨ht1, ht5, _, _⟩ := tagsArg_ok ht
      try dsimp only
      refine s_seq (s_asg (d := plD py) e1 (ev_given (i := 2) (ev_var rfl) hy) fun σ2 H2 s2 e2 => ?_)
      try dsimp only
      refine s_seq (s_asg (d := .v (.bl (Spec.listIn 0 5 Spec.pairIn py).isSome)) e2 ?_ fun σ3 H3 s3 e3 => ?_)
      · by_cases h7 : kindN py = 7
        · obtain ⟨l, rfl⟩ := kind7 h7
          refine (ev_andV (c := true) (c' := decide (l.length ≤ 5) && l.all fun x => (Spec.pairIn x).isSome) ((ev_isKind (ev_var rfl) 7).to (by rw [decide_eq_true h7])) fun _ => ?_).to ?_
          · refine ev_andV (c := decide (l.length ≤ 5)) (c' := l.all fun x => (Spec.pairIn x).isSome) ((ev_op (ev_cb (ev_cons (ev_arr (ev_var rfl)) ev_nil) rc_lenT) ev_c rv_le).to ?_) fun hb => ?_
            · simp only [List.length_map]
              congr 2
              exact decide_eq_decide.mpr (by omega)
            · have hz : l.length ≤ 1000000 := by
                have := of_decide_eq_true hb
                omega
              exact ev_cb (ev_cons (EvN.toD (ev_lcT1 (l := l) plD (fun x => .v (.bl (Spec.pairIn x).isSome)) (ev_arr (ev_var rfl)) hz (fun _ _ => rfl) fun x _ => ev_call (R := R_is_definition) (ev_cons (ev_var rfl) ev_nil) ⟨x, rfl, rfl⟩)) ev_nil) rc_allM
          · rw [listIn_isSome]
            simp
        · refine (ev_andV (c := false) (c' := false) ((ev_isKind (ev_var rfl) 7).to (by rw [decide_eq_false h7])) fun h => by cases h).to ?_
          have : Spec.listIn 0 5 Spec.pairIn py = none := by
            cases py with
            | arr u => exact absurd rfl h7
            | _ => rfl
          rw [this]
          rfl
      try dsimp only
      refine s_seq (s_dropX e3 (ev_refuse (ev_cons (ev_notV (ev_var rfl)) (ev_cons ev_c ev_nil))) (fun d hd H4 s4 e4 => ?_) fun er he a H4 s4 xe => ?er2)
      case er2 =>
        cases hl : Spec.listIn 0 5 Spec.pairIn py with
        | some us =>
          rw [hl] at he
          cases he
        | none =>
          rw [hl] at he hN
          refine x er ?_ a H4 (((s1.trans s2).trans s3).trans s4) xe
          unfold newR
          rw [hN]
          cases he
          show Except.error (errOf Spec.noChanges) = _
          rw [show Spec.noChanges = ⟨.typeError, Spec.units "changes must be a list of at most 5 pairs of a name and a text"⟩ from rfl, err_lit (by decide +kernel)]
          rfl
      cases hl : Spec.listIn 0 5 Spec.pairIn py with
      | none =>
        rw [hl] at hd
        cases hd
      | some l =>
        rw [hl] at hN e4
        simp only [] at hN
        obtain ⟨hp, _, hl5, hprs⟩ := listIn_some (g := fun e => .arr [.str e.1, .str e.2]) (fun x y h => (pairIn_some h).1) hl
        subst hp
        have harr : ∀ {te : TE} {ρ : List (Option Dat)} {a b : Spec.Units}, EvD K te ρ (plD (.arr [.str a, .str b])) → EvD K (tOp (rIx K) te (tC (.int 1))) ρ (.tup [plD (.str a), plD (.str b)]) := fun h => ev_arr h
        try dsimp only
        refine s_seq (s_asg (d := tagsD (l.map fun e => e.1)) e4 (EvN.toD ((ev_lcT1 (j := 7) (l := l) (fun e => plD (.arr [.str e.1, .str e.2])) (fun e => uD e.1) ((ev_arr (ev_var (i := 2) rfl)).to (by rw [List.map_map]; rfl)) (by omega) (fun u _ => uD_still _) fun u _ => ev_cb (ev_cons (ev_str (ev_op (harr (ev_var rfl)) ev_c (rv_ixT (by omega) rfl))) ev_nil) rc_tupT).to ?_)) fun σ5 H5 s5 e5 => ?_)
        · rw [List.map_map]
          rfl
        try dsimp only
        refine s_seq (s_dropX e5 (ev_refuse (ev_cons ((ev_op (ev_setU (ev_var rfl) (by rw [List.length_map]; omega)) (ev_lenTags (ev_var rfl)) rv_lt).to (by rw [diff_lt])) (ev_cons ev_c ev_nil))) (fun d hd H6 s6 e6 => ?_) fun er he a H6 s6 xe => ?er3)
        case er3 =>
          cases hdf : Spec.allDifferent (l.map fun e => e.1) with
          | true =>
            rw [hdf] at he
            cases he
          | false =>
            rw [hdf] at he hN
            rw [if_neg (by decide)] at hN
            refine x er ?_ a H6 (((((s1.trans s2).trans s3).trans s4).trans s5).trans s6) xe
            unfold newR
            rw [hN]
            cases he
            show Except.error (errOf Spec.sameNew) = _
            rw [show Spec.sameNew = ⟨.rangeError, Spec.units "new tags must be different"⟩ from rfl, err_lit (by decide +kernel)]
            rfl
        cases hdf : Spec.allDifferent (l.map fun e => e.1) with
        | false =>
          rw [hdf] at hd
          cases hd
        | true =>
          rw [hdf] at hN
          rw [if_pos rfl] at hN
          have s06 := ((((s1.trans s2).trans s3).trans s4).trans s5).trans s6
          dsimp only
          try dsimp only
          refine s_seq (s_asgN e6 (ev_lst ev_nil) fun p ws H7 np s7 h7 r7 => ?_)
          cases r7
          have a0 := AcF.begin (vs := []) (i := 5) e6 np s7 h7
          have hpr : ∀ i, i < l.length → (l.getD i ([], [])).2.length ≤ 60 := fun i hi => by
            have hm : l.getD i ([], []) ∈ l := by
              simp [hi]
            obtain ⟨_, _, h3⟩ := pairIn_some (hprs _ hm)
            exact h3
          try dsimp only
          refine s_seq (s_forR (K := K) (n := l.length) (j := 6) (fun t σ' H' => AcF K H6 5 [some (.lst (vs.map plD)), some (tagsD tags), some (plD (.arr (l.map fun e : Spec.Units × Spec.Units => .arr [.str e.1, .str e.2]))), some (.v (.bl true)), some (tagsD (l.map fun e : Spec.Units × Spec.Units => e.1)), none, none, none] ((List.range t).map fun i => tabD tags.length fun m => Spec.holds tags m (okF tags i (l.getD i ([], [])).2)) p σ' H' ∧
            ∀ i, i < t → ∃ F, Spec.readFilter (preS (0 + i)) tags (l.getD i ([], [])).2 = .ok F) a0.all (ev_cons ((ev_lenTags (ev_var (i := 4) rfl)).to (by rw [List.length_map])) ev_nil) (by omega) (fun H' s => ⟨a0.grow s, fun i hi => absurd hi (Nat.not_lt_zero _)⟩) ?_ ?_)
          · rintro t σ8 H8 htl ⟨a8, hk8⟩
            have a9 := a8.setH (j := 6) (d := .v (.int (t : Nat))) (.v (.int (t : Nat))) (by decide)
            have hel : (l.map fun e => Spec.Plain.arr [.str e.1, .str e.2])[t]? = some (.arr [.str (l.getD t ([], [])).1, .str (l.getD t ([], [])).2]) := by
              simp [htl]
            have hlen := str_len (n := t) (by omega)
            have l1 : (Str.ofString "definition ").length = 11 := by decide +kernel
            have l2 : (Str.ofString ": ").length = 2 := by decide +kernel
            have hz : (Str.ofString "definition " ++ (toString ((t : Nat) : Int) : String) ++ Str.ofString ": ").length ≤ 100 := by
              rw [app_len, app_len, l1, l2]
              omega
            try dsimp only
            refine f_appX a9 (ev_found T (pre := preS t) (u := (l.getD t ([], [])).2) (z := Str.ofString "definition " ++ (toString ((t : Nat) : Int) : String) ++ Str.ofString ": ") (preS_str t).symm (preS_plain (by omega)) (ev_cons (ev_str (ev_op (harr (ev_op (ev_arr (ev_var (i := 2) rfl)) (ev_var (i := 6) rfl) (rv_ixT (by omega) (listed_at hel)))) ev_c (rv_ixT (by omega) rfl)))
              (ev_cons (ev_var (i := 1) rfl) (ev_cons (ev_op (ev_op ev_c (ev_cb (ev_cons (ev_var (i := 6) rfl) ev_nil) (rc_strI ?_)) (rv_plusS ?_)) ev_c (rv_plusS ?_)) ev_nil))) ⟨hpr t htl, ht5, hz⟩) (by simp; omega) (fun d hd v H9 s9 a10 r9 => ?_) (fun d hd H9 a10 => ?_) fun er he b H9 s9 xe => ?_
            · exact Nat.lt_of_le_of_lt (Nat.log2_le_self _) (by omega)
            · rw [l1]
              omega
            · rw [app_len, l1, l2]
              omega
            · unfold fltR at hd
              cases hf : Spec.readFilter (preS t) tags (l.getD t ([], [])).2 with
              | error e2 =>
                rw [hf] at hd
                cases hd
              | ok F =>
                rw [hf] at hd
                cases hd
                refine tab_hid a10 (fun d hd => ?_) (fun z => ?_) r9
                · obtain ⟨i, _, rfl⟩ := List.mem_map.mp hd
                  exact ⟨_, rfl⟩
                · have := congrArg List.length z
                  simp [Spec.items] at this
            · unfold fltR at hd
              cases hf : Spec.readFilter (preS t) tags (l.getD t ([], [])).2 with
              | error e2 =>
                rw [hf] at hd
                cases hd
              | ok F =>
                rw [hf] at hd
                cases hd
                have hoF : okF tags t (l.getD t ([], [])).2 = F := by
                  unfold okF
                  rw [hf]
                refine ⟨?_, fun i hi => ?_⟩
                · have a11 := a10.forget (j := 6) (by decide)
                  rw [List.range_succ, List.map_append, List.map_singleton, hoF]
                  exact a11
                · by_cases hi' : i < t
                  · exact hk8 i hi'
                  · have ei : i = t := by omega
                    subst ei
                    rw [Nat.zero_add]
                    exact ⟨F, hf⟩
            · unfold fltR at he
              cases hf : Spec.readFilter (preS t) tags (l.getD t ([], [])).2 with
              | ok F =>
                rw [hf] at he
                cases he
              | error e2 =>
                rw [hf] at he
                refine x er ?_ b H9 (s06.trans (a8.out.trans s9)) xe
                unfold newR
                rw [hN, readAll_err tags l 0 t e2 htl hk8 (by rw [Nat.zero_add]; exact hf)]
                exact he
          · rintro σ8 H8 ⟨a8, hk8⟩
            try dsimp only
            refine s_ret a8.all (ev_call (R := R_change_of A) (ev_cons (ev_var (i := 1) rfl) (ev_cons (ev_var (i := 4) rfl) (ev_cons (ev_var (i := 5) rfl) ev_nil))) ⟨tags, l.map (fun e => e.1), (List.range l.length).map fun i m => Spec.holds tags m (okF tags i (l.getD i ([], [])).2), by rw [List.map_map]; rfl, ht5, by simp; omega, rfl⟩) fun v H9 s9 r9 => k _ ?_ v H9 (s06.trans (a8.out.trans s9)) r9
            unfold newR
            rw [hN, readAll_ok tags l 0 hk8]
            exact congrArg Except.ok (chDat_defs A tags l).symm
end
end Tg
end

section
set_option Elab.async false
set_option linter.all false
set_option maxRecDepth 100000
set_option maxHeartbeats 1000000
/-! The doors: calls on a change. -/
namespace Tg
open PySem PySem.Spec PyProof.Rows L2
open R7292f
theorem bits_lt : ∀ l : List Bool, Spec.fromBits l < 2 ^ l.length
  | [] => by decide
  | b :: r => by
    have := bits_lt r
    rw [List.length_cons, Nat.pow_succ]
    show (if b then 1 else 0) + 2 * Spec.fromBits r < _
    cases b <;> simp <;> omega
/-- a change as the calls find it -/
structure ChGood (c : Spec.Change) : Prop where
  o : c.old.length ≤ 5
  n : c.defs.length ≤ 5
  go : Good c.old
  gn : Good (Spec.newTags c)
theorem newLen (c : Spec.Change) : (Spec.newTags c).length = c.defs.length := List.length_map _
theorem ChGood.ok {c : Spec.Change} (g : ChGood c) : ChOk c.old (Spec.newTags c) (Spec.imageOf c) := ⟨g.o, by rw [newLen]; exact g.n, fun x _ => by
  rw [newLen]
  have := bits_lt (c.defs.map fun e => Spec.found e.2 x)
  rw [List.length_map] at this
  exact this⟩
def txtL (u : Spec.Units) : Dat := .tup [.v (.int 6), .lst (sc uI u)]
def lostM (c : Spec.Change) (i : Nat) : Bool := (clashM c.old.length (Spec.imageOf c) fun m => m.testBit i).isSome
theorem canon_ne {tags : List Spec.Units} (g : Good tags) (on any : Nat → Bool) : Spec.canonical tags on any ≠ [] := by
  have hlens : ∀ t ∈ Spec.primes tags.length on any, t.length = tags.length := fun t ht => allTerms_len _ t (List.mem_filter.mp ht).1
  rw [canonical_eq g on any hlens]
  split
  · rename_i h
    intro z
    rw [z] at h
    exact absurd h (Nat.lt_irrefl _)
  · intro z
    cases z
section
variable {K : PySem.W.Frag} {H0 : Hp} {i : Nat} {ρ : List (Option Dat)} {ds es : List Dat} {p : Addr} {σ : L2.St} {H : Hp} {te : TE} {D : Ends}
/-- name = a new list, beside the list -/
theorem a_asgN {j : Nat} (a : Acc K H0 i ρ ds p σ H) (h : EvN K te (ρ.set i (some (.lst ds))) es) (st : Dat.stills es = true) (hj : j ≠ i) (k : ∀ σ' H', Acc K H0 i (ρ.set j (some (.lst es))) ds p σ' H' → D.nx σ' H') : tAsg te (gName j) D σ H :=
  h σ H a.all _ fun q ws H1 nq s1 h1 r1 => by
    have a1 := a.grow s1
    obtain ⟨vs, hp, _⟩ := a.at_
    have hne : q ≠ p := fun e => by
      rw [e, hp] at nq
      cases nq
    exact k _ H1 (a1.setH (.lst (by rw [hid_ne hne]; exact h1) (r1.stay (hid_t (s1 _ _ hp)) st)) hj)
theorem rv_noneP {o : Option (Nat × Nat)} : RvD K rIsNon (pairD o) (.v .non) (.v (.bl o.isNone)) := by
  cases o with
  | none => exact rv_isNon
  | some p => exact rv_isNonT
theorem rv_someP {o : Option (Nat × Nat)} : RvD K rNotNon (pairD o) (.v .non) (.v (.bl o.isSome)) := fun x y H h1 h2 Q q => by
  cases o with
  | none =>
    obtain ⟨rfl, rfl⟩ := two h1 h2
    exact ⟨rfl, q _ H (Same.refl H) (.v _)⟩
  | some p =>
    cases h1
    exact ⟨h2.v_eq, q _ H (Same.refl H) (.v _)⟩
end
section
variable {P : Program} {w : World} {K : PySem.W.Frag} {mg : Str → Option Value} {base : Heap} {A : Ad} {f : Addr} {fd : FuncData} {ρ : List (Option Dat)}
/-! ### lost_tags -/
def lostD (c : Spec.Change) : Dat := .tup [.v (.int 7), .tup (((List.range c.old.length).filter (lostM c)).map fun i => plD (.str (c.old.getD i [])))]
def R_lost (A : Ad) (ds : List Dat) (d : Dat) : Prop := ∃ c, ds = [chDat A c] ∧ ChGood c ∧ d = lostD c
abbrev s_lost_tags : Stmt := top 63
abbrev N_lost_tags : List Str := ["change", "found", "tag", "wanted", "item"]
theorem sc_lost_tags : FnScope N_lost_tags ["change"] (defScope s_lost_tags) :=
  ⟨rfl, rfl, rfl, by decide +kernel, rfl, by decide +kernel, by decide +kernel⟩
theorem ok_lost_tags (D : Df K mg "lost_tags" s_lost_tags ["change"] f fd) (T : Txt K mg A) (g_has : Cl P w K mg base CX0 1 "has" (PureSp K R_has)) (g_Change_clash : Mt P w K mg base CX0 1 A.ch "clash" (PureSp K (R_clash A))) (g_listed : Cl P w K mg base CX0 1 "listed" (PureSp K R_listed)) :
    Cl P w K mg base CX0 2 "lost_tags" (PureSp K (R_lost A)) := by
  refine D.cl (ok_pure D.fn sc_lost_tags (fun ds r h => ?_) fun cdv _ outer s H E hr => ⟨_, (pss_cons (ps_set (i := 1) sc_lost_tags.nd rfl (Or.inl rfl) (pe_lst pa_nil))
    (pss_cons (ps_for PassesOwn.never rfl (pi_range1 rfl T.b_range (pa_cons (pe_callB (call_lenGK K) (by rfl) T.b_len bt_len (pa_cons (pe_fldK K (pv 0) rfl) pa_nil)) pa_nil)) (pg_name (i := 2) sc_lost_tags.nd rfl (Or.inr rfl)) (pss_cons (ps_setLc (i := 3) (own := [("item", 4)]) (by rfl) sc_lost_tags.nd rfl rfl (sw_true rfl rfl rfl (by decide +kernel)) (pi_range1 rfl T.b_range (pa_cons (pe_callB (call_lenGK K) (by rfl) T.b_len bt_len (pa_cons (pe_fldK K (pv 0) rfl) pa_nil)) pa_nil)) (blkOk_by (own := [("item", 4)]) (N := N_lost_tags) (sc := defScope s_lost_tags) (by decide +kernel)) (fun _ _ _ _ _ => (pg_name (i := 4) sc_lost_tags.nd rfl (Or.inl rfl))) (fun _ _ _ _ _ => pts_nil) (fun _ _ _ _ _ => (pe_cl g_has hr (by omega) pass0 (by rfl) (pa_cons (pv 4) (pa_cons (pv 2) pa_nil)))))
    (pss_one (ps_if (pt_cmpR op_notNon (pe_mtX g_Change_clash hr (by omega) pass0 (pv 0) (pa_cons (pv 3) pa_nil)) pe_non (nomark _)) (pss_one (ps_expr (pe_bmK K PySem.F.plainAttrs_list PySem.F.slot_list_append PySem.F.type_list_append mt_append (pv 1) (pa_cons (pe_tup (pa_cons (C8.pe_gc rfl T.c_TEXT) (pa_cons (pe_ix (ix_seqK K) (pe_fldK K (pv 0) rfl) (pv 2) (fun _ _ => rfl)) pa_nil))) pa_nil)))) pss_nil))))
    (pss_one (ps_ret (pe_cl g_listed hr (by omega) pass0 (by rfl) (pa_cons (pv 1) pa_nil)))))), ?_⟩)
  · obtain ⟨c, rfl, _⟩ := h
    rfl
  · rintro ds d ⟨c, rfl, g, rfl⟩ σ H Q e k
    have h32 := small_pow g.o
    have ho := g.o
    refine s_seq (s_asgN e (ev_lst ev_nil) fun p vs H1 np s1 h1 r1 => ?_)
    have a := Acc.begin (i := 1) e np s1 h1 r1 rfl
    refine s_seq (a_forR (n := c.old.length) (fun _ => [some (chDat A c), none, none, none, none]) (fun t => ((List.range t).filter (lostM c)).map fun i => plD (.str (c.old.getD i []))) a (ev_cons (ev_lenTags (cf_old (i := 0) T rfl)) ev_nil) (by omega) (by decide) ?_ ?_)
    · intro t σ' H' ht a
      refine s_seq (a_asgN (j := 3) a (es := sc V.bl ((Spec.items c.old.length).map fun m => m.testBit t)) ((ev_lcR1 (j := 4) (2 ^ c.old.length) (fun m => .v (.bl (m.testBit t))) (ev_cons (ev_lenMade (cf_made (i := 0) T rfl)) ev_nil) (by omega) (fun _ _ => rfl) fun m hm => ev_call (R := R_has) (ev_cons (ev_var rfl) (ev_cons (ev_var (i := 2) rfl) ev_nil)) ⟨m, t, rfl, by omega, rfl⟩).to (by unfold sc Spec.items; rw [List.map_map]; rfl)) (sc_stills _ _) (by decide) fun σ2 H2 a2 => ?_)
      refine a_if a2 (ev_test (ev_op (ev_meth (R := R_clash A) (gs := chG c.old (Spec.newTags c) (Spec.imageOf c)) (ev_var (i := 0) rfl) (ch_no (by decide +kernel) (by decide +kernel) (by decide +kernel)) (ev_cons (ev_var (i := 3) rfl) ev_nil) ⟨c.old, Spec.newTags c, Spec.imageOf c, fun m => m.testBit t, rfl, g.o, rfl⟩) ev_c rv_someP)) (fun hb H3 a3 => ?_) fun hb H3 a3 => ?_
      · refine a_app a3 rfl (d := plD (.str (c.old.getD t []))) (ev_tup (ev_cons ev_c (ev_cons (ev_op (cf_old (i := 0) T rfl) (ev_var (i := 2) rfl) (rv_ixL (by omega) (tags_at (show (t : Int).toNat < c.old.length by simpa using ht)))) ev_nil))) (plD_still _) ?_ fun H4 a4 => ?_
        · have := List.length_filter_le (lostM c) (List.range t)
          rw [List.length_map]
          rw [List.length_range] at this
          omega
        · have a5 := (a4.forget (j := 3) (by decide)).forget (j := 2) (by decide)
          have hl : lostM c t = true := hb
          rw [List.range_succ, List.filter_append, List.map_append]
          have e1 : ([t].filter (lostM c)) = [t] := by simp [hl]
          rw [e1]
          exact a5
      · have a5 := (a3.forget (j := 3) (by decide)).forget (j := 2) (by decide)
        have hl : lostM c t = false := hb
        rw [List.range_succ, List.filter_append, List.map_append]
        have e1 : ([t].filter (lostM c)) = [] := by simp [hl]
        rw [e1, List.map_nil, List.append_nil]
        exact a5
    · intro σ' H' a
      dsimp only
      refine s_ret a.all (ev_call (R := R_listed) (ev_cons (ev_var (i := 1) rfl) ev_nil) ⟨_, rfl, rfl⟩) fun v H2 s2 r2 => k v H2 (a.out.trans s2) r2
/-! ### told_definitions -/
def defsD (c : Spec.Change) : Dat := .tup [.v (.int 7), .tup ((List.range c.defs.length).map fun i => .tup [.v (.int 7), .tup [plD (.str ((Spec.newTags c).getD i [])), txtL (defU c.old (Spec.imageOf c) i)]])]
def R_defs (A : Ad) (ds : List Dat) (d : Dat) : Prop := ∃ c, ds = [chDat A c] ∧ ChGood c ∧ d = defsD c
/-- a definition's data stand apart from the list of them -/
theorem def_hid {H0 : Hp} {i : Nat} {ds : List Dat} {p : Addr} {σ : L2.St} {H : Hp} {v : V} {a0 : Dat} {u : Spec.Units} (a : AcF K H0 i ρ ds p σ H) (hds : ∀ d ∈ ds, ∃ l, d = .tup l) (hu : u ≠ []) (h0 : a0.still = true) (x : Rp K H v (.tup [.v (.int 7), .tup [a0, txtL u]])) : Rp K (hid p H) v (.tup [.v (.int 7), .tup [a0, txtL u]]) := by
  obtain ⟨vs, hv, rv⟩ := a.at_
  have ht := hid_t (K := K) hv
  cases x with
  | tup h1 r1 =>
    cases r1 with
    | cons q1 r1 =>
      cases r1 with
      | cons q2 r1 =>
        cases r1
        cases q2 with
        | tup h2 r2 =>
          cases r2 with
          | cons q3 r2 =>
            cases r2 with
            | cons q4 r2 =>
              cases r2
              cases q4 with
              | tup h4 r4 =>
                cases r4 with
                | cons q5 r4 =>
                  cases r4 with
                  | cons q6 r4 =>
                    cases r4
                    cases q6 with
                    | lst hq rl =>
                      rename_i q xs
                      have ex := sc_rpl rl
                      have hne : q ≠ p := fun e => by
                        rw [e, hv] at hq
                        cases hq
                        cases u with
                        | nil => exact hu rfl
                        | cons b l =>
                          rw [ex] at rv
                          cases rv with
                          | cons z1 z2 =>
                            rename_i d ds'
                            obtain ⟨l', e'⟩ := hds d List.mem_cons_self
                            subst e'
                            cases z1
                      exact .tup (ht _ _ h1) (.cons (q1.stay ht rfl) (.cons (.tup (ht _ _ h2) (.cons (q3.stay ht h0) (.cons (.tup (ht _ _ h4) (.cons (q5.stay ht rfl) (.cons (.lst (by rw [hid_ne hne]; exact hq) (by rw [ex]; exact rpl_sc uI u)) .nil))) .nil))) .nil))
abbrev s_told_definitions : Stmt := top 64
abbrev N_told_definitions : List Str := ["change", "rows", "tag"]
theorem sc_told_definitions : FnScope N_told_definitions ["change"] (defScope s_told_definitions) :=
  ⟨rfl, rfl, rfl, by decide +kernel, rfl, by decide +kernel, by decide +kernel⟩
theorem ok_told_definitions (D : Df K mg "told_definitions" s_told_definitions ["change"] f fd) (T : Txt K mg A) (g_listed : Cl P w K mg base CX0 1 "listed" (PureSp K R_listed)) (g_Change_definition : Mt P w K mg base CX0 6 A.ch "definition" (NewSp K (R_definition A))) :
    Cl P w K mg base CX0 7 "told_definitions" (PureSp K (R_defs A)) := by
  refine D.cl (ok_pure D.fn sc_told_definitions (fun ds r h => ?_) fun cdv _ outer s H E hr => ⟨_, (pss_cons (ps_set (i := 1) sc_told_definitions.nd rfl (Or.inl rfl) (pe_lst pa_nil))
    (pss_cons (ps_for PassesOwn.never rfl (pi_range1 rfl T.b_range (pa_cons (pe_callB (call_lenGK K) (by rfl) T.b_len bt_len (pa_cons (pe_fldK K (pv 0) rfl) pa_nil)) pa_nil)) (pg_name (i := 2) sc_told_definitions.nd rfl (Or.inl rfl)) (pss_one (ps_expr (pe_bmK K PySem.F.plainAttrs_list PySem.F.slot_list_append PySem.F.type_list_append mt_append (pv 1) (pa_cons (pe_cl g_listed hr (by omega) pass0 (by rfl) (pa_cons (pe_lst (pa_cons (pe_tup (pa_cons (C8.pe_gc rfl T.c_TEXT) (pa_cons (pe_ix (ix_seqK K) (pe_fldK K (pv 0) rfl) (pv 2) (fun _ _ => rfl)) pa_nil))) (pa_cons (pe_tup (pa_cons (C8.pe_gc rfl T.c_TEXT) (pa_cons (pe_mtX g_Change_definition hr (by omega) pass0 (pv 0) (pa_cons (pv 2) pa_nil)) pa_nil))) pa_nil))) pa_nil)) pa_nil)))))
    (pss_one (ps_ret (pe_cl g_listed hr (by omega) pass0 (by rfl) (pa_cons (pv 1) pa_nil)))))), ?_⟩)
  · obtain ⟨c, rfl, _⟩ := h
    rfl
  · rintro ds d ⟨c, rfl, g, rfl⟩ σ H Q e k
    have hn := g.n
    have hnl := newLen c
    refine s_seq (s_asgN e (ev_lst ev_nil) fun p vs H1 np s1 h1 r1 => ?_)
    cases r1
    have a := AcF.begin (vs := []) (i := 1) e np s1 h1
    refine s_seq (f_forR (n := c.defs.length) (fun _ => [some (chDat A c), none, none]) (fun t => (List.range t).map fun i => .tup [.v (.int 7), .tup [plD (.str ((Spec.newTags c).getD i [])), txtL (defU c.old (Spec.imageOf c) i)]]) a (ev_cons ((ev_lenTags (cf_new (i := 0) T rfl)).to (by rw [hnl])) ev_nil) (by omega) (by decide) ?_ ?_)
    · intro t σ' H' ht a
      have hev : EvD K (tCall (PureSp K R_listed) [] E0 (tCons (tLst (tCons (tTup (tCons (tC (.int 6)) (tCons (tOp (rIx K) (tFld K (tVar 0) "new_tags") (tVar 2)) tNil))) (tCons (tTup (tCons (tC (.int 6)) (tCons (tMeth A.ch "definition" (NewSp K (R_definition A)) [] E0 (tVar 0) (tCons (tVar 2) tNil)) tNil))) tNil))) tNil))
          (([some (chDat A c), none, none].set 2 (some (.v (.int (t : Nat))))).set 1 (some (.lst ((List.range t).map fun i => .tup [.v (.int 7), .tup [plD (.str ((Spec.newTags c).getD i [])), txtL (defU c.old (Spec.imageOf c) i)]])))) (.tup [.v (.int 7), .tup [plD (.str ((Spec.newTags c).getD t [])), txtL (defU c.old (Spec.imageOf c) t)]]) :=
        ev_call (R := R_listed) (ev_cons (EvN.toD (ev_lst (ev_cons (ev_tup (ev_cons ev_c (ev_cons (ev_op (cf_new (i := 0) T rfl) (ev_var (i := 2) rfl) (rv_ixL (by omega) (tags_at (show (t : Int).toNat < (Spec.newTags c).length by simp; omega)))) ev_nil)))
          (ev_cons (ev_tup (ev_cons ev_c (ev_cons (EvN.toD (ev_methN (R := R_definition A) (gs := chG c.old (Spec.newTags c) (Spec.imageOf c)) (ev_var (i := 0) rfl) (ch_no (by decide +kernel) (by decide +kernel) (by decide +kernel)) (ev_cons (ev_var (i := 2) rfl) ev_nil) ⟨c.old, Spec.newTags c, Spec.imageOf c, t, rfl, by omega, g.ok, g.go, rfl⟩)) ev_nil))) ev_nil)))) ev_nil) ⟨_, rfl, rfl⟩
      refine f_appX (C := A.rf) (E := E) (r := .ok (.tup [.v (.int 7), .tup [plD (.str ((Spec.newTags c).getD t [])), txtL (defU c.old (Spec.imageOf c) t)]])) a (fun σ2 H2 e2 Q2 q2 _ => hev σ2 H2 e2 Q2 fun v H3 s3 r3 => q2 _ rfl v H3 s3 r3) (by simp; omega) (fun d hd v H2 s2 a2 r2 => ?_) (fun d hd H2 a2 => ?_) fun er he => by cases he
      · cases hd
        exact def_hid a2 (fun d hd => by obtain ⟨i, _, rfl⟩ := List.mem_map.mp hd; exact ⟨_, rfl⟩) (canon_ne g.go _ _) (plD_still _) r2
      · cases hd
        have a3 := a2.forget (j := 2) (by decide)
        rw [List.range_succ, List.map_append, List.map_singleton]
        exact a3
    · intro σ' H' a
      dsimp only
      refine s_ret a.all (ev_call (R := R_listed) (ev_cons (ev_var (i := 1) rfl) ev_nil) ⟨_, rfl, rfl⟩) fun v H2 s2 r2 => k v H2 (a.out.trans s2) r2
end
end Tg
end

section
set_option Elab.async false
set_option linter.all false
set_option maxRecDepth 100000
set_option maxHeartbeats 1000000
/-! The doors: calls with filters. -/
namespace Tg
open PySem PySem.Spec PyProof.Rows L2
open R7292f
def tellD (b : Bool) : Dat := .tup [.v (.int (if b then 3 else 2))]
def nullD : Dat := .tup [.v (.int 1)]
def itemD (tags : List Spec.Units) (m : Nat) : Dat := plD (Spec.namesPlain (Spec.tagsOf tags m))
/-- what a call with a filter answers -/
def onF (c : Spec.Change) (door : Nat) (on : Nat → Bool) : Dat :=
  let cl := clashM c.old.length (Spec.imageOf c) on
  if door = 5 then tellD cl.isNone
  else if door = 6 ∨ door = 7 then (if door = 7 ∨ cl.isNone = true then txtL (leastU c.old (Spec.newTags c) (Spec.imageOf c) on) else nullD)
  else if door = 8 then txtL (greatestU c.old (Spec.newTags c) (Spec.imageOf c) on)
  else match cl with
    | none => nullD
    | some p => .tup [.v (.int 7), .tup [itemD c.old p.1, itemD c.old p.2]]
def onR (c : Spec.Change) (door : Nat) (p : Spec.Plain) : Except Err Dat := match Spec.filterArg "filter" c.old p with
  | .error e => .error (errOf e)
  | .ok F => .ok (onF c door fun m => Spec.holds c.old m F)
section
variable {P : Program} {w : World} {K : PySem.W.Frag} {mg : Str → Option Value} {base : Heap} {A : Ad} {f : Addr} {fd : FuncData} {ρ : List (Option Dat)}
theorem ev_eqN {te : TE} {n : Nat} (h : EvD K te ρ (.v (.int (n : Nat)))) (k : Nat) : EvT K (tTest (tOp (rEqG K) te (tC (.int (k : Nat))))) ρ (decide (n = k)) :=
  (ev_test (ev_op h ev_c rv_eqI)).to (decide_eq_decide.mpr Int.ofNat_inj)
theorem ev_fargX {E : XK} {te : TE} {name : String} {tg : TE} {p : Spec.Plain} {tags : List Spec.Units} (hp : Plainly name) (hl : (Str.ofString name).length ≤ 100) (hn : tags.length ≤ 5) (h : EvD K te ρ (plD p)) (h2 : EvD K tg ρ (tagsD tags)) :
    EvX K A.rf E (tCall (MaySp K A.rf R_filter_of) [] E (tCons te (tCons (tC (.str (Str.ofString name))) (tCons tg tNil)))) ρ (fargR name tags p) :=
  ev_callX (ev_cons h (ev_cons ev_c (ev_cons h2 ev_nil))) ⟨p, name, tags, rfl, hp, hl, hn, rfl⟩
def R_on_filter (A : Ad) (ds : List Dat) (r : Except Err Dat) : Prop := ∃ c p, ∃ door : Nat, ds = [chDat A c, .v (.int door), plD p] ∧ 5 ≤ door ∧ door ≤ 9 ∧ ChGood c ∧ r = onR c door p
abbrev s_on_filter : Stmt := top 62
abbrev N_on_filter : List Str := ["change", "door", "value", "wanted", "pair", "item"]
theorem sc_on_filter : FnScope N_on_filter ["change", "door", "value"] (defScope s_on_filter) :=
  ⟨rfl, rfl, rfl, by decide +kernel, rfl, by decide +kernel, by decide +kernel⟩
theorem ok_on_filter (D : Df K mg "on_filter" s_on_filter ["change", "door", "value"] f fd) (T : Txt K mg A) (g_filter_of : Cl P w K mg base (L2N.CX P w) 194 "filter_of" (MaySp K A.rf R_filter_of)) (g_Change_clash : Mt P w K mg base CX0 1 A.ch "clash" (PureSp K (R_clash A)))
    (g_truth : Cl P w K mg base CX0 1 "truth" (PureSp K R_truth)) (g_Change_least : Mt P w K mg base CX0 6 A.ch "least" (NewSp K (R_least A))) (g_Change_greatest : Mt P w K mg base CX0 6 A.ch "greatest" (NewSp K (R_greatest A)))
    (g_listed : Cl P w K mg base CX0 1 "listed" (PureSp K R_listed)) (g_told_item : Cl P w K mg base CX0 2 "told_item" (PureSp K R_told_item)) : Cl P w K mg base (L2N.CX P w) 195 "on_filter" (MaySp K A.rf (R_on_filter A)) := by
  refine D.cl (ok_may D.fn sc_on_filter (fun ds r h => ?_) fun cdv _ outer s H E hr => ⟨_, (pss_cons (ps_set (i := 3) sc_on_filter.nd rfl (Or.inl rfl) (pe_cl g_filter_of hr (by omega) passX (by rfl) (pa_cons (pv 2) (pa_cons pe_str (pa_cons (pe_fldK K (pv 0) rfl) pa_nil)))))
    (pss_cons (ps_set (i := 4) sc_on_filter.nd rfl (Or.inl rfl) (pe_mtX g_Change_clash hr (by omega) pass0 (pv 0) (pa_cons (pv 3) pa_nil)))
    (pss_cons (ps_if (pt_cmpR (op_eqGK K hr.units) (pv 1) pe_int (nomark _)) (pss_one (ps_ret (pe_cl g_truth hr (by omega) pass0 (by rfl) (pa_cons (pe_cmpR op_isNon (pv 4) pe_non (nomark _)) pa_nil)))) pss_nil)
    (pss_cons (ps_if (PW.pt (pw_or (pt_cmpR (op_eqGK K hr.units) (pv 1) pe_int (nomark _)) (pw_or1 (pt_cmpR (op_eqGK K hr.units) (pv 1) pe_int (nomark _))))) (pss_one (ps_ret (pe_ifExp (PW.pt (pw_or (pt_cmpR (op_eqGK K hr.units) (pv 1) pe_int (nomark _)) (pw_or1 (pt_cmpR op_isNon (pv 4) pe_non (nomark _))))) (pe_tup (pa_cons (C8.pe_gc rfl T.c_TEXT) (pa_cons (pe_mtX g_Change_least hr (by omega) pass0 (pv 0) (pa_cons (pv 3) pa_nil)) pa_nil))) (C8.pe_gc rfl T.c_NULL)))) pss_nil)
    (pss_cons (ps_if (pt_cmpR (op_eqGK K hr.units) (pv 1) pe_int (nomark _)) (pss_one (ps_ret (pe_tup (pa_cons (C8.pe_gc rfl T.c_TEXT) (pa_cons (pe_mtX g_Change_greatest hr (by omega) pass0 (pv 0) (pa_cons (pv 3) pa_nil)) pa_nil))))) pss_nil)
    (pss_cons (ps_if (pt_cmpR op_isNon (pv 4) pe_non (nomark _)) (pss_one (ps_ret (C8.pe_gc rfl T.c_NULL))) pss_nil)
    (pss_one (ps_ret (pe_cl g_listed hr (by omega) pass0 (by rfl) (pa_cons (pe_lc (own := [("item", 5)]) (by rfl) sc_on_filter.nd (pi_seqK K (pv 4)) (blkOk_by (own := [("item", 5)]) (N := N_on_filter) (sc := defScope s_on_filter) (by decide +kernel)) (fun _ _ _ _ _ => (pg_name (i := 5) sc_on_filter.nd rfl (Or.inl rfl))) (fun _ _ _ _ _ => pts_nil) (fun _ _ _ _ _ => (pe_cl g_told_item hr (by omega) pass0 (by rfl) (pa_cons (pv 5) (pa_cons (pe_fldK K (pv 0) rfl) pa_nil))))) pa_nil)))))))))), ?_⟩)
  · obtain ⟨c, p, door, rfl, _⟩ := h
    rfl
  · rintro ds r ⟨c, p, door, rfl, h5, h9, g, rfl⟩ σ H Q e k x
    refine s_seq (s_asgX e (ev_fargX (A := A) (name := "filter") (plainly_of (by decide +kernel)) (by decide +kernel) g.o (ev_var (i := 2) rfl) (cf_old (i := 0) T rfl)) (fun d hd σ1 H1 s1 e1 => ?_) fun er he a H1 s1 xe => ?er1)
    case er1 =>
      refine x er ?_ a H1 s1 xe
      unfold fargR at he
      unfold onR
      cases ht : Spec.filterArg "filter" c.old p with
      | ok us =>
        rw [ht] at he
        cases he
      | error e2 =>
        rw [ht] at he
        exact he
    cases ht : Spec.filterArg "filter" c.old p with
    | error e2 =>
      unfold fargR at hd
      rw [ht] at hd
      cases hd
    | ok F =>
      unfold fargR at hd
      rw [ht] at hd
      cases hd
      have hR : onR c door p = .ok (onF c door fun m => Spec.holds c.old m F) := by
        unfold onR
        rw [ht]
      rw [hR] at k
      generalize hon : (fun m => Spec.holds c.old m F) = on at k e1
      try dsimp only
      refine s_seq (s_asg (d := pairD (clashM c.old.length (Spec.imageOf c) on)) e1 (ev_meth (R := R_clash A) (gs := chG c.old (Spec.newTags c) (Spec.imageOf c)) (ev_var (i := 0) rfl) (ch_no (by decide +kernel) (by decide +kernel) (by decide +kernel)) (ev_cons (ev_var (i := 3) rfl) ev_nil) ⟨c.old, Spec.newTags c, Spec.imageOf c, on, rfl, g.o, rfl⟩) fun σ2 H2 s2 e2 => ?_)
      have hF : ∀ d, onF c door on = d → ∀ v H', Same H H' → Rp K H' v d → Q v H' := fun d hd v H' s r => k _ rfl v H' s (by rw [hd]; exact r)
      refine s_seq (s_if e2 (ev_eqN (ev_var (i := 1) rfl) 5) (fun hb H3 s3 e3 => ?_) fun hb3 H3 s3 e3 => ?_)
      · refine s_ret e3 (ev_call (R := R_truth) (ev_cons (ev_op (ev_var (i := 4) rfl) ev_c rv_noneP) ev_nil) ⟨_, rfl, rfl⟩) fun v H4 s4 r4 => hF _ ?_ v H4 (((s1.trans s2).trans s3).trans s4) r4
        unfold onF
        rw [if_pos (of_decide_eq_true hb)]
        rfl
      have n5 := of_decide_eq_false hb3
      refine s_seq (s_if e3 (ev_or (ev_eqN (ev_var (i := 1) rfl) 6) fun _ => ev_eqN (ev_var (i := 1) rfl) 7) (fun hb H4 s4 e4 => ?_) fun hb4 H4 s4 e4 => ?_)
      · have h67 : door = 6 ∨ door = 7 := by simpa using hb
        have s04 := (((s1.trans s2).trans s3).trans s4)
        refine s_ret (d := if door = 7 ∨ (clashM c.old.length (Spec.imageOf c) on).isNone = true then txtL (leastU c.old (Spec.newTags c) (Spec.imageOf c) on) else nullD) e4 (ev_if (ev_or (ev_eqN (ev_var (i := 1) rfl) 7) fun _ => ev_test (ev_op (ev_var (i := 4) rfl) ev_c rv_noneP)) (fun hb => ?_) fun hb => ?_) fun v H5 s5 r5 => hF _ ?_ v H5 (s04.trans s5) r5
        · rw [if_pos (by simpa using hb)]
          exact ev_tup (ev_cons ev_c (ev_cons (EvN.toD (ev_methN (R := R_least A) (gs := chG c.old (Spec.newTags c) (Spec.imageOf c)) (ev_var (i := 0) rfl) (ch_no (by decide +kernel) (by decide +kernel) (by decide +kernel)) (ev_cons (ev_var (i := 3) rfl) ev_nil) ⟨c.old, Spec.newTags c, Spec.imageOf c, on, rfl, g.ok, g.gn, rfl⟩)) ev_nil))
        · rw [if_neg fun h => by
            have hb' := Bool.or_eq_false_iff.mp hb
            rcases h with h | h
            · exact of_decide_eq_false hb'.1 h
            · rw [hb'.2] at h
              cases h]
          exact ev_one T.t_NULL
        · unfold onF
          rw [if_neg n5, if_pos h67]
      have n67 : ¬ (door = 6 ∨ door = 7) := by simpa using hb4
      refine s_seq (s_if e4 (ev_eqN (ev_var (i := 1) rfl) 8) (fun hb H5 s5 e5 => ?_) fun hb5 H5 s5 e5 => ?_)
      · refine s_ret (d := txtL (greatestU c.old (Spec.newTags c) (Spec.imageOf c) on)) e5 (ev_tup (ev_cons ev_c (ev_cons (EvN.toD (ev_methN (R := R_greatest A) (gs := chG c.old (Spec.newTags c) (Spec.imageOf c)) (ev_var (i := 0) rfl) (ch_no (by decide +kernel) (by decide +kernel) (by decide +kernel)) (ev_cons (ev_var (i := 3) rfl) ev_nil) ⟨c.old, Spec.newTags c, Spec.imageOf c, on, rfl, g.ok, g.gn, rfl⟩)) ev_nil))) fun v H6 s6 r6 => hF _ ?_ v H6 (((((s1.trans s2).trans s3).trans s4).trans s5).trans s6) r6
        unfold onF
        rw [if_neg n5, if_neg n67, if_pos (of_decide_eq_true hb)]
      have n8 := of_decide_eq_false hb5
      have s05 := ((((s1.trans s2).trans s3).trans s4).trans s5)
      refine s_seq (s_if e5 (ev_test (ev_op (ev_var (i := 4) rfl) ev_c rv_noneP)) (fun hb H6 s6 e6 => ?_) fun hb6 H6 s6 e6 => ?_)
      · refine s_ret (d := nullD) e6 (ev_one T.t_NULL) fun v H7 s7 r7 => hF _ ?_ v H7 ((s05.trans s6).trans s7) r7
        unfold onF
        rw [if_neg n5, if_neg n67, if_neg n8]
        cases hc : clashM c.old.length (Spec.imageOf c) on with
        | none => rfl
        | some q =>
          rw [hc] at hb
          cases hb
      · cases hc : clashM c.old.length (Spec.imageOf c) on with
        | none =>
          rw [hc] at hb6
          cases hb6
        | some q =>
          rw [hc] at e6
          have hl : EvN K (tLc (iSeq K (tVar 4)) (gName 5) tYes (tCall (PureSp K R_told_item) [] E0 (tCons (tVar 5) (tCons (tFld K (tVar 0) "old_tags") tNil))) [5]) ((((begin N_on_filter [chDat A c, .v (.int door), plD p]).set 3 (some (tabD c.old.length on))).set 4 (some (pairD (some q))))) ([q.1, q.2].map fun m => itemD c.old m) :=
            ev_lcT1 (l := [q.1, q.2]) (fun m => .v (nI m)) (fun m => itemD c.old m) (ev_var (i := 4) rfl) (by simp) (fun m _ => plD_still _) fun m _ => ev_call (R := R_told_item) (ev_cons (ev_var rfl) (ev_cons (cf_old (i := 0) T rfl) ev_nil)) ⟨m, c.old, rfl, g.o, rfl⟩
          refine s_ret e6 (ev_call (R := R_listed) (ev_cons (EvN.toD hl) ev_nil) ⟨_, rfl, rfl⟩) fun v H7 s7 r7 => hF _ ?_ v H7 ((s05.trans s6).trans s7) r7
          unfold onF
          rw [if_neg n5, if_neg n67, if_neg n8, hc]
          rfl
/-! ### on_tags -/
def onT (tags : List Spec.Units) (door : Nat) (F G : Spec.Filter) : Dat :=
  if door = 13 then tellD (((Spec.items tags.length).map fun m => Spec.holds tags m F) == ((Spec.items tags.length).map fun m => Spec.holds tags m G))
  else match Spec.exampleOf tags F G with
    | some m => itemD tags m
    | none => nullD
def onTR (door : Nat) (x y z : Spec.Plain) : Except Err Dat := match Spec.tagsArg x with
  | .error e => .error (errOf e)
  | .ok tags => if door = 12 then (match Spec.filterArg "filter" tags y with
      | .error e => .error (errOf e)
      | .ok F => .ok (txtL (Spec.canonical tags (fun m => Spec.holds tags m F) Spec.never)))
    else match Spec.filterArg "first" tags y with
      | .error e => .error (errOf e)
      | .ok F => match Spec.filterArg "second" tags z with
        | .error e => .error (errOf e)
        | .ok G => .ok (onT tags door F G)
def R_on_tags (ds : List Dat) (r : Except Err Dat) : Prop := ∃ (vs : List Spec.Plain) (x y z : Spec.Plain) (door : Nat), ds = [.v (.int door), .lst (vs.map plD)] ∧ vs[0]? = some x ∧ vs[1]? = some y ∧ vs[2]? = some z ∧ 12 ≤ door ∧ door ≤ 14 ∧ r = onTR door x y z
theorem good_of {x : Spec.Plain} {us : List Spec.Units} (h : Spec.tagsArg x = .ok us) : Good us := fun u hu => by
  obtain ⟨_, _, _, h4⟩ := tagsArg_ok h
  obtain ⟨_, h1, h2, _⟩ := nameIn_some (h4 u hu)
  refine ⟨?_, h2⟩
  cases u with
  | nil => exact absurd rfl h1
  | cons a r => simp
theorem find_head {p : Nat → Bool} {n i : Nat} (hi : i < n) (h0 : ∀ x, x < i → p x = false) (h1 : p i = true) : (List.range n).find? p = some i := by
  rw [List.find?_range_eq_some]
  exact ⟨h1, List.mem_range.mpr hi, fun j hj => by rw [h0 j hj]; rfl⟩
theorem find_none {p : Nat → Bool} {n : Nat} (h0 : ∀ x, x < n → p x = false) : (List.range n).find? p = none := by
  rw [List.find?_eq_none]
  intro x hx
  rw [h0 x (List.mem_range.mp hx)]
  decide
abbrev s_on_tags : Stmt := top 65
abbrev N_on_tags : List Str := ["door", "given", "tags", "wanted", "first", "second", "item"]
theorem sc_on_tags : FnScope N_on_tags ["door", "given"] (defScope s_on_tags) :=
  ⟨rfl, rfl, rfl, by decide +kernel, rfl, by decide +kernel, by decide +kernel⟩
theorem ok_on_tags (D : Df K mg "on_tags" s_on_tags ["door", "given"] f fd) (T : Txt K mg A) (g_tags_of : Cl P w K mg base (L2N.CX P w) 4 "tags_of" (MaySp K A.rf R_tags_of)) (g_filter_of : Cl P w K mg base (L2N.CX P w) 194 "filter_of" (MaySp K A.rf R_filter_of))
    (g_canonical : Cl P w K mg base CX0 5 "canonical" (NewSp K R_canonical)) (g_truth : Cl P w K mg base CX0 1 "truth" (PureSp K R_truth)) (g_told_item : Cl P w K mg base CX0 2 "told_item" (PureSp K R_told_item)) : Cl P w K mg base (L2N.CX P w) 195 "on_tags" (MaySp K A.rf R_on_tags) := by
  refine D.cl (ok_may D.fn sc_on_tags (fun ds r h => ?_) fun cdv _ outer s H E hr => ⟨_, (pss_cons (ps_set (i := 2) sc_on_tags.nd rfl (Or.inl rfl) (pe_cl g_tags_of hr (by omega) passX (by rfl) (pa_cons (pe_ix (ix_seqK K) (pv 1) pe_int (fun _ _ => rfl)) pa_nil)))
    (pss_cons (ps_if (pt_cmpR (op_eqGK K hr.units) (pv 0) pe_int (nomark _)) (pss_cons (ps_set (i := 3) sc_on_tags.nd rfl (Or.inl rfl) (pe_cl g_filter_of hr (by omega) passX (by rfl) (pa_cons (pe_ix (ix_seqK K) (pv 1) pe_int (fun _ _ => rfl)) (pa_cons pe_str (pa_cons (pv 2) pa_nil)))))
    (pss_one (ps_ret (pe_tup (pa_cons (C8.pe_gc rfl T.c_TEXT) (pa_cons (pe_cl g_canonical hr (by omega) pass0 (by rfl) (pa_cons (pv 2) (pa_cons (pv 3) (pa_cons (pe_op op_times (pe_lst (pa_cons pe_bl pa_nil)) (pe_callB (call_lenGK K) (by rfl) T.b_len bt_len (pa_cons (pv 3) pa_nil))) pa_nil)))) pa_nil)))))) pss_nil)
    (pss_cons (ps_set (i := 4) sc_on_tags.nd rfl (Or.inl rfl) (pe_cl g_filter_of hr (by omega) passX (by rfl) (pa_cons (pe_ix (ix_seqK K) (pv 1) pe_int (fun _ _ => rfl)) (pa_cons pe_str (pa_cons (pv 2) pa_nil)))))
    (pss_cons (ps_set (i := 5) sc_on_tags.nd rfl (Or.inl rfl) (pe_cl g_filter_of hr (by omega) passX (by rfl) (pa_cons (pe_ix (ix_seqK K) (pv 1) pe_int (fun _ _ => rfl)) (pa_cons pe_str (pa_cons (pv 2) pa_nil)))))
    (pss_cons (ps_if (pt_cmpR (op_eqGK K hr.units) (pv 0) pe_int (nomark _)) (pss_one (ps_ret (pe_cl g_truth hr (by omega) pass0 (by rfl) (pa_cons (pe_cmpR (op_eqGK K hr.units) (pv 4) (pv 5) (nomark _)) pa_nil)))) pss_nil)
    (pss_cons (ps_for passOwnX rfl (pi_range1 rfl T.b_range (pa_cons (pe_callB (call_lenGK K) (by rfl) T.b_len bt_len (pa_cons (pv 4) pa_nil)) pa_nil)) (pg_name (i := 6) sc_on_tags.nd rfl (Or.inl rfl)) (pss_one (ps_if (PW.pt (pw_and (pt_val (pe_ix (ix_seqK K) (pv 4) (pv 6) (fun _ _ => rfl))) (pw_and1 (pt_not (pt_val (pe_ix (ix_seqK K) (pv 5) (pv 6) (fun _ _ => rfl))))))) (pss_one (ps_ret (pe_cl g_told_item hr (by omega) pass0 (by rfl) (pa_cons (pv 6) (pa_cons (pv 2) pa_nil))))) pss_nil)))
    (pss_one (ps_ret (C8.pe_gc rfl T.c_NULL))))))))), ?_⟩)
  · obtain ⟨vs, _, _, _, door, rfl, _⟩ := h
    rfl
  · rintro ds r ⟨vs, px, py, pz, door, rfl, hx, hy, hz, h12, h14, rfl⟩ σ H Q e k x
    refine s_seq (s_asgX e (ev_callX (C := A.rf) (R := R_tags_of) (r := tagsR px) (ev_cons (ev_given (i := 0) (ev_var (i := 1) rfl) hx) ev_nil) ⟨px, rfl, rfl⟩) (fun d hd σ1 H1 s1 e1 => ?_) fun er he a H1 s1 xe => ?er1)
    case er1 =>
      refine x er ?_ a H1 s1 xe
      unfold tagsR at he
      unfold onTR
      cases ht : Spec.tagsArg px with
      | ok us =>
        rw [ht] at he
        cases he
      | error e2 =>
        rw [ht] at he
        exact he
    cases ht : Spec.tagsArg px with
    | error e2 =>
      unfold tagsR at hd
      rw [ht] at hd
      cases hd
    | ok tags =>
      unfold tagsR at hd
      rw [ht] at hd
      cases hd
      obtain ⟨_, ht5, _, _⟩ := tagsArg_ok ht
      have hg := good_of ht
      have h32 := small_pow ht5
      try dsimp only
      refine s_seq (s_if e1 (ev_eqN (ev_var (i := 0) rfl) 12) (fun hb H2 s2 e2 => ?_) fun hb2 H2 s2 e2 => ?_)
      · have hd12 := of_decide_eq_true hb
        have hR : onTR door px py pz = (match Spec.filterArg "filter" tags py with
          | .error e => .error (errOf e)
          | .ok F => .ok (txtL (Spec.canonical tags (fun m => Spec.holds tags m F) Spec.never))) := by
          unfold onTR
          rw [ht]
          exact if_pos hd12
        rw [hR] at k x
        refine s_seq (s_asgX e2 (ev_fargX (A := A) (name := "filter") (plainly_of (by decide +kernel)) (by decide +kernel) ht5 (ev_given (i := 1) (ev_var (i := 1) rfl) hy) (ev_var (i := 2) rfl)) (fun d hd σ3 H3 s3 e3 => ?_) fun er he a H3 s3 xe => ?er2)
        case er2 =>
          refine x er ?_ a H3 ((s1.trans s2).trans s3) xe
          unfold fargR at he
          cases hf : Spec.filterArg "filter" tags py with
          | ok F =>
            rw [hf] at he
            cases he
          | error e2 =>
            rw [hf] at he
            exact he
        cases hf : Spec.filterArg "filter" tags py with
        | error e2 =>
          unfold fargR at hd
          rw [hf] at hd
          cases hd
        | ok F =>
          unfold fargR at hd
          rw [hf] at hd k
          cases hd
          try dsimp only
          refine s_ret (d := txtL (Spec.canonical tags (fun m => Spec.holds tags m F) Spec.never)) e3 (ev_tup (ev_cons ev_c (ev_cons (EvN.toD (ev_callN (R := R_canonical) (ev_cons (ev_var (i := 2) rfl) (ev_cons (ev_var (i := 3) rfl) (ev_cons (EvN.toD (ev_reps V.bl ht5 false Spec.never (fun _ _ => rfl) (ev_lst (ev_cons ev_c ev_nil)) (ev_lenT (ev_var (i := 3) rfl)))) ev_nil))) ⟨tags, fun m => Spec.holds tags m F, Spec.never, rfl, ht5, hg, rfl⟩)) ev_nil))) fun v H4 s4 r4 => k _ rfl v H4 (((s1.trans s2).trans s3).trans s4) r4
      · have hd12 := of_decide_eq_false hb2
        have hR : onTR door px py pz = (match Spec.filterArg "first" tags py with
          | .error e => .error (errOf e)
          | .ok F => match Spec.filterArg "second" tags pz with
            | .error e => .error (errOf e)
            | .ok G => .ok (onT tags door F G)) := by
          unfold onTR
          rw [ht]
          exact if_neg hd12
        rw [hR] at k x
        refine s_seq (s_asgX e2 (ev_fargX (A := A) (name := "first") (plainly_of (by decide +kernel)) (by decide +kernel) ht5 (ev_given (i := 1) (ev_var (i := 1) rfl) hy) (ev_var (i := 2) rfl)) (fun d hd σ3 H3 s3 e3 => ?_) fun er he a H3 s3 xe => ?er3)
        case er3 =>
          refine x er ?_ a H3 ((s1.trans s2).trans s3) xe
          unfold fargR at he
          cases hf : Spec.filterArg "first" tags py with
          | ok F =>
            rw [hf] at he
            cases he
          | error e2 =>
            rw [hf] at he
            exact he
        cases hf : Spec.filterArg "first" tags py with
        | error e2 =>
          unfold fargR at hd
          rw [hf] at hd
          cases hd
        | ok F =>
          unfold fargR at hd
          rw [hf] at hd k x
          cases hd
          try dsimp only
          refine s_seq (s_asgX e3 (ev_fargX (A := A) (name := "second") (plainly_of (by decide +kernel)) (by decide +kernel) ht5 (ev_given (i := 2) (ev_var (i := 1) rfl) hz) (ev_var (i := 2) rfl)) (fun d hd σ4 H4 s4 e4 => ?_) fun er he a H4 s4 xe => ?er4)
          case er4 =>
            refine x er ?_ a H4 (((s1.trans s2).trans s3).trans s4) xe
            unfold fargR at he
            cases hf : Spec.filterArg "second" tags pz with
            | ok F =>
              rw [hf] at he
              cases he
            | error e2 =>
              rw [hf] at he
              exact he
          cases hf2 : Spec.filterArg "second" tags pz with
          | error e2 =>
            unfold fargR at hd
            rw [hf2] at hd
            cases hd
          | ok G =>
            unfold fargR at hd
            rw [hf2] at hd k
            cases hd
            have s04 := ((s1.trans s2).trans s3).trans s4
            try dsimp only
            refine s_seq (s_if e4 (ev_eqN (ev_var (i := 0) rfl) 13) (fun hb H5 s5 e5 => ?_) fun hb5 H5 s5 e5 => ?_)
            · refine s_ret e5 (ev_call (R := R_truth) (ev_cons (ev_op (ev_var (i := 4) rfl) (ev_var (i := 5) rfl) rv_eqBs) ev_nil) ⟨_, rfl, rfl⟩) fun v H6 s6 r6 => k _ ?_ v H6 ((s04.trans s5).trans s6) r6
              refine congrArg Except.ok ?_
              unfold onT
              rw [if_pos (of_decide_eq_true hb)]
              rfl
            · have n13 := of_decide_eq_false hb5
              have s05 := s04.trans s5
              generalize hF1 : (fun m => Spec.holds tags m F) = f1 at e5
              generalize hG1 : (fun m => Spec.holds tags m G) = g1 at e5
              have hex : Spec.exampleOf tags F G = (List.range (2 ^ tags.length)).find? fun m => f1 m && !g1 m := by
                unfold Spec.exampleOf Spec.items
                rw [← hF1, ← hG1]
              have mid : ∀ (on : Nat → Bool) (t : Nat), t < 2 ^ tags.length → (sc V.bl ((Spec.items tags.length).map on))[(t : Int).toNat]? = some (.v (.bl (on t))) := fun on t ht => by
                have e0 : (t : Int).toNat = t := Int.toNat_natCast t
                rw [e0]
                exact tab_at ht
              refine s_seq (s_forR (K := K) (n := 2 ^ tags.length) (j := 6) (fun i σ' H' => Env K H' σ' [some (.v (.int (door : Nat))), some (.lst (vs.map plD)), some (tagsD tags), none, some (tabD tags.length f1), some (tabD tags.length g1), none] ∧ Same H5 H' ∧ ∀ x, x < i → (f1 x && !g1 x) = false) e5 (ev_cons (ev_lenT (ev_var (i := 4) rfl)) ev_nil) (by omega) (fun H' s => ⟨e5.mono s, s, fun x hx => absurd hx (Nat.not_lt_zero _)⟩) ?_ ?_)
              · rintro i σ6 H6 hi ⟨e6, s6, h6⟩
                have e7 := e6.set 6 (d := .v (.int (i : Nat))) (.v (.int (i : Nat)))
                refine s_if e7 (ev_and (c := f1 i) (c' := !g1 i) (ev_B (ev_op (ev_var (i := 4) rfl) (ev_var (i := 6) rfl) (rv_ixL (by omega) (mid f1 i hi)))) fun _ => ev_not (ev_B (ev_op (ev_var (i := 5) rfl) (ev_var (i := 6) rfl) (rv_ixL (by omega) (mid g1 i hi))))) (fun hb H8 s8 e8 => ?_) fun hb H8 s8 e8 => ?_
                · refine s_ret e8 (ev_call (R := R_told_item) (ev_cons (ev_var (i := 6) rfl) (ev_cons (ev_var (i := 2) rfl) ev_nil)) ⟨i, tags, rfl, ht5, rfl⟩) fun v H9 s9 r9 => k _ ?_ v H9 (((s05.trans s6).trans s8).trans s9) r9
                  refine congrArg Except.ok ?_
                  unfold onT
                  rw [if_neg n13, hex, find_head hi h6 hb]
                  rfl
                · refine ⟨e8.forget 6, s6.trans s8, fun y hy => ?_⟩
                  by_cases hy' : y < i
                  · exact h6 y hy'
                  · have ey : y = i := by omega
                    subst ey
                    exact hb
              · rintro σ6 H6 ⟨e6, s6, h6⟩
                try dsimp only
                refine s_ret (d := nullD) e6 (ev_one T.t_NULL) fun v H7 s7 r7 => k _ ?_ v H7 ((s05.trans s6).trans s7) r7
                refine congrArg Except.ok ?_
                unfold onT
                rw [if_neg n13, hex, find_none h6]
end
end Tg
end

section
set_option Elab.async false
set_option linter.all false
set_option maxRecDepth 100000
set_option maxHeartbeats 400000
/-! Changes: what the program computes = the specification's. -/
namespace Tg
open PySem PySem.Spec PyProof.Rows L2
open R7292f
theorem bits_test : ∀ (l : List Bool) (i : Nat), (Spec.fromBits l).testBit i = l.getD i false
  | [], i => by simp [Spec.fromBits]
  | b :: r, 0 => by
    rw [Nat.testBit_zero]
    show decide (((if b then 1 else 0) + 2 * Spec.fromBits r) % 2 = 1) = b
    cases b
    · simp
    · simp
  | b :: r, i + 1 => by
    rw [Nat.testBit_succ]
    have : ((if b then 1 else 0) + 2 * Spec.fromBits r) / 2 = Spec.fromBits r := by cases b <;> simp <;> omega
    show (((if b then 1 else 0) + 2 * Spec.fromBits r) / 2).testBit i = r.getD i false
    rw [this, bits_test r i]
theorem bits_of {n x : Nat} (h : x < 2 ^ n) : Spec.fromBits ((List.range n).map fun i => x.testBit i) = x := by
  apply Nat.eq_of_testBit_eq
  intro i
  rw [bits_test]
  by_cases hi : i < n
  · simp [hi]
  · have : x.testBit i = false := Nat.testBit_lt_two_pow (Nat.lt_of_lt_of_le h (Nat.pow_le_pow_right (by decide) (by omega)))
    simp [hi, this]
theorem bits_zero {n : Nat} {f : Nat → Bool} (h : ∀ i, i < n → f i = false) : Spec.fromBits ((List.range n).map f) = 0 := by
  apply Nat.eq_of_testBit_eq
  intro i
  rw [bits_test]
  by_cases hi : i < n
  · simp [hi, h i hi]
  · simp [hi]
theorem img_bit (c : Spec.Change) (x i : Nat) : (Spec.imageOf c x).testBit i = (c.defs.map fun e => Spec.found e.2 x).getD i false := bits_test _ _
/-! ### clash, survives -/
theorem clash_eq (c : Spec.Change) (t : Nat → Bool) : Spec.clash c t = clashM c.old.length (Spec.imageOf c) t := rfl
theorem clash_cases (n : Nat) (mk : Nat → Nat) (on : Nat → Bool) : (clashM n mk on = none ∧ ∀ x, x < 2 ^ n → ∀ y, y < 2 ^ n → hitM mk on x y = false) ∨ (∃ i j, i < 2 ^ n ∧ j < 2 ^ n ∧ hitM mk on i j = true ∧ clashM n mk on = some (i, j)) := by
  by_cases h : ∀ x, x < 2 ^ n → ∀ y, y < 2 ^ n → hitM mk on x y = false
  · exact .inl ⟨clash_none h, h⟩
  · refine .inr ?_
    have first : ∀ (N : Nat) (p : Nat → Bool), (∃ i, i < N ∧ p i = true) → ∃ i, i < N ∧ p i = true ∧ ∀ k, k < i → p k = false := by
      intro N
      induction N with
      | zero => rintro p ⟨i, hi, _⟩; omega
      | succ N ih =>
        rintro p ⟨i, hi, hp⟩
        by_cases hq : ∃ i, i < N ∧ p i = true
        · obtain ⟨k, h1, h2, h3⟩ := ih p hq
          exact ⟨k, by omega, h2, h3⟩
        · have hall : ∀ k, k < N → p k = false := fun k hk => by
            cases hpk : p k with
            | false => rfl
            | true => exact absurd ⟨k, hk, hpk⟩ hq
          have ei : i = N := by
            by_cases hiN : i < N
            · rw [hall i hiN] at hp
              cases hp
            · omega
          subst ei
          exact ⟨i, hi, hp, hall⟩
    have h' : ∃ i, i < 2 ^ n ∧ ((List.range (2 ^ n)).any fun y => hitM mk on i y) = true := by
      refine Classical.byContradiction fun hc => h fun x hx y hy => ?_
      cases hh : hitM mk on x y with
      | false => rfl
      | true => exact absurd ⟨x, hx, List.any_eq_true.mpr ⟨y, List.mem_range.mpr hy, hh⟩⟩ hc
    obtain ⟨i, h1, h2, h3⟩ := first _ _ h'
    have h4 : ∃ j, j < 2 ^ n ∧ hitM mk on i j = true := by
      obtain ⟨j, hj, hh⟩ := List.any_eq_true.mp h2
      exact ⟨j, List.mem_range.mp hj, hh⟩
    obtain ⟨j, g1, g2, g3⟩ := first _ (hitM mk on i) h4
    refine ⟨i, j, h1, g1, g2, clash_some h1 g1 (fun x hx y hy => ?_) g3 g2⟩
    have := h3 x hx
    cases hh : hitM mk on x y with
    | false => rfl
    | true =>
      rw [List.any_eq_true.mpr ⟨y, List.mem_range.mpr hy, hh⟩] at this
      cases this
theorem survives_eq (c : Spec.Change) (t : Nat → Bool) : Spec.survives c t = (clashM c.old.length (Spec.imageOf c) t).isNone := by
  unfold Spec.survives Spec.oldItems
  rcases clash_cases c.old.length (Spec.imageOf c) t with ⟨h1, h2⟩ | ⟨i, j, hi, hj, hh, h1⟩
  · rw [h1]
    show _ = true
    rw [List.all_eq_true]
    intro x hx
    rw [List.all_eq_true]
    intro y hy
    have hx' : x < 2 ^ c.old.length := by simpa [Spec.items] using hx
    have hy' : y < 2 ^ c.old.length := by simpa [Spec.items] using hy
    have a := h2 x hx' y hy'
    have b := h2 y hy' x hx'
    unfold hitM at a b
    by_cases he : Spec.imageOf c x = Spec.imageOf c y
    · rw [he] at a b
      cases hx1 : t x <;> cases hy1 : t y <;> simp [hx1, hy1] at a b ⊢
    · simp [he]
  · rw [h1]
    show _ = false
    rw [List.all_eq_false]
    refine ⟨i, by simpa [Spec.items] using hi, ?_⟩
    rw [Bool.not_eq_true, List.all_eq_false]
    refine ⟨j, by simpa [Spec.items] using hj, ?_⟩
    unfold hitM at hh
    simp only [Bool.and_eq_true, beq_iff_eq, Bool.not_eq_true'] at hh
    simp [hh.1.1, hh.1.2, hh.2]
theorem lost_eq (c : Spec.Change) (i : Nat) : lostM c i = !Spec.survives c (Spec.tagAt i) := by
  rw [survives_eq]
  unfold lostM Spec.tagAt
  cases clashM c.old.length (Spec.imageOf c) fun m => m.testBit i <;> rfl
/-! ### least, greatest -/
theorem free_eq (c : Spec.Change) : freeM c.old.length (Spec.imageOf c) = fun y => !Spec.reached c y := by
  funext y
  unfold freeM byM Spec.reached Spec.oldItems
  simp
theorem least_eq (c : Spec.Change) (t : Nat → Bool) : leastU c.old (Spec.newTags c) (Spec.imageOf c) t = Spec.newText c (Spec.least c t) := by
  unfold leastU Spec.newText
  rw [free_eq]
  rfl
theorem most_eq (c : Spec.Change) (t : Nat → Bool) : mostM c.old.length (Spec.imageOf c) t = Spec.greatest c t := by
  funext y
  unfold mostM Spec.greatest
  rw [free_eq]
  unfold byM Spec.oldItems
  rw [Bool.not_not, Bool.and_comm]
  congr 1
  rw [List.not_any_eq_all_not]
  congr 1
  funext x
  cases h : Spec.imageOf c x == y <;> cases h2 : t x <;> simp [bne, h, h2]
theorem greatest_eq (c : Spec.Change) (t : Nat → Bool) : greatestU c.old (Spec.newTags c) (Spec.imageOf c) t = Spec.newText c (Spec.greatest c t) := by
  unfold greatestU Spec.newText
  rw [free_eq, most_eq]
/-! ### definitions -/
theorem def_eq (c : Spec.Change) {i : Nat} (h : i < c.defs.length) : defU c.old (Spec.imageOf c) i = Spec.canonical c.old (Spec.found c.defs[i].2) Spec.never := by
  unfold defU
  congr 1
  funext x
  rw [img_bit]
  simp [h]
/-! ### chain -/
theorem found_map {n : Nat} {f : Nat → Bool} {x : Nat} (h : x < 2 ^ n) : Spec.found ((Spec.items n).map f) x = f x := by
  unfold Spec.found
  simp [Spec.items, h]
theorem chain_eq (A : Ad) (c d : Spec.Change) : chD A c.old (Spec.newTags d) (fun x => Spec.imageOf d (Spec.imageOf c x)) = chDat A (Spec.chain c d) := by
  have hn : Spec.newTags (Spec.chain c d) = Spec.newTags d := by
    unfold Spec.newTags Spec.chain
    rw [List.map_map]
    rfl
  unfold chDat
  rw [hn]
  refine chD_congr fun x hx => ?_
  show Spec.fromBits (d.defs.map fun e => Spec.found e.2 (Spec.imageOf c x)) = Spec.fromBits ((d.defs.map fun e => (e.1, (Spec.oldItems c).map fun m => Spec.found e.2 (Spec.imageOf c m))).map fun e => Spec.found e.2 x)
  rw [List.map_map]
  congr 1
  apply List.map_congr_left
  intro e _
  show Spec.found e.2 (Spec.imageOf c x) = Spec.found ((Spec.oldItems c).map fun m => Spec.found e.2 (Spec.imageOf c m)) x
  rw [Spec.oldItems, found_map hx]
/-! ### lossless, back -/
theorem distinct_nodup {α : Type} [BEq α] [LawfulBEq α] : ∀ l : List α, distinct l = l.length ↔ l.Nodup
  | [] => by simp [distinct]
  | x :: r => by
    have ih := distinct_nodup r
    have hle := distinct_le r
    unfold distinct
    rw [List.nodup_cons, ← ih]
    cases h : r.contains x with
    | true =>
      have : x ∈ r := by simpa using h
      simp [this]
      omega
    | false =>
      have : x ∉ r := by simpa using h
      simp [this]
theorem nodup_inj {n : Nat} {f : Nat → Int} : ((List.range n).map f).Nodup ↔ ∀ x, x < n → ∀ y, y < n → f x = f y → x = y := by
  rw [List.Nodup, List.pairwise_map]
  constructor
  · intro h x hx y hy e
    rcases Nat.lt_trichotomy x y with c | c | c
    · have := (List.pairwise_iff_getElem.mp h) x y (by simpa using hx) (by simpa using hy) c
      simp at this
      exact absurd e this
    · exact c
    · have := (List.pairwise_iff_getElem.mp h) y x (by simpa using hy) (by simpa using hx) c
      simp at this
      exact absurd e.symm this
  · intro h
    rw [List.pairwise_iff_getElem]
    intro i j hi hj hij
    simp at hi hj ⊢
    intro e
    have := h i hi j hj e
    omega
theorem lossless_iff (c : Spec.Change) : losslessM c.old.length (Spec.imageOf c) = true ↔ ∀ x, x < 2 ^ c.old.length → ∀ y, y < 2 ^ c.old.length → Spec.imageOf c x = Spec.imageOf c y → x = y := by
  unfold losslessM Spec.items
  rw [decide_eq_true_iff]
  have h := distinct_nodup ((List.range (2 ^ c.old.length)).map fun x => (Spec.imageOf c x : Int))
  rw [List.length_map, List.length_range] at h
  rw [h, nodup_inj]
  constructor
  · intro h x hx y hy e
    exact h x hx y hy (by rw [e])
  · intro h x hx y hy e
    exact h x hx y hy (by omega)
theorem lossless_eq (c : Spec.Change) : losslessM c.old.length (Spec.imageOf c) = Spec.isLossless c := by
  rw [Bool.eq_iff_iff, lossless_iff]
  unfold Spec.isLossless Spec.oldItems Spec.items
  rw [List.all_eq_true]
  constructor
  · intro h x hx
    rw [List.all_eq_true]
    intro y hy
    by_cases e : Spec.imageOf c x = Spec.imageOf c y
    · have := h x (List.mem_range.mp hx) y (List.mem_range.mp hy) e
      simp [this]
    · simp [e]
  · intro h x hx y hy e
    have := List.all_eq_true.mp (h x (List.mem_range.mpr hx)) y (List.mem_range.mpr hy)
    simpa [e] using this
theorem lastT_of {mk : Nat → Nat} {y : Nat} : ∀ {t x : Nat}, x < t → mk x = y → (∀ z, z < t → mk z = y → z = x) → lastT mk t y = x
  | 0, x, h, _, _ => absurd h (Nat.not_lt_zero _)
  | t + 1, x, h, e, u => by
    unfold lastT
    by_cases ht : mk t = y
    · rw [if_pos ht]
      exact u t (Nat.lt_succ_self t) ht
    · rw [if_neg ht]
      have hx : x < t := by
        by_cases hxt : x = t
        · subst hxt
          exact absurd e ht
        · omega
      exact lastT_of hx e fun z hz => u z (by omega)
theorem lastT_none {mk : Nat → Nat} {y : Nat} : ∀ {t : Nat}, (∀ z, z < t → mk z ≠ y) → lastT mk t y = 0
  | 0, _ => rfl
  | t + 1, h => by
    unfold lastT
    rw [if_neg (h t (Nat.lt_succ_self t))]
    exact lastT_none fun z hz => h z (by omega)
theorem back_names (c : Spec.Change) : Spec.newTags (Spec.backOf c) = c.old := by
  unfold Spec.newTags Spec.backOf
  rw [List.map_map]
  apply List.ext_getElem?
  intro i
  by_cases h : i < c.old.length
  · simp [h]
  · simp [h]
theorem back_eq (A : Ad) (c : Spec.Change) (h : Spec.isLossless c = true) : chD A (Spec.newTags c) c.old (lastT (Spec.imageOf c) (2 ^ c.old.length)) = chDat A (Spec.backOf c) := by
  rw [← lossless_eq] at h
  have hi := (lossless_iff c).mp h
  have e1 : (Spec.backOf c).old = Spec.newTags c := rfl
  unfold chDat
  rw [back_names, e1]
  refine chD_congr fun y hy => ?_
  rw [newLen] at hy
  have e2 : Spec.imageOf (Spec.backOf c) y = Spec.fromBits ((List.range c.old.length).map fun i => Spec.least c (Spec.tagAt i) y) := by
    unfold Spec.imageOf Spec.backOf
    simp only [List.map_map]
    congr 1
    apply List.map_congr_left
    intro i _
    simp only [Function.comp]
    rw [found_map hy]
  rw [e2]
  by_cases hr : ∃ x, x < 2 ^ c.old.length ∧ Spec.imageOf c x = y
  · obtain ⟨x, hx, ex⟩ := hr
    rw [lastT_of hx ex fun z hz ez => hi z hz x hx (ez.trans ex.symm)]
    have : ((List.range c.old.length).map fun i => Spec.least c (Spec.tagAt i) y) = (List.range c.old.length).map fun i => x.testBit i := by
      apply List.map_congr_left
      intro i _
      unfold Spec.least Spec.oldItems Spec.items Spec.tagAt
      cases hb : x.testBit i with
      | true =>
        rw [List.any_eq_true]
        exact ⟨x, List.mem_range.mpr hx, by simp [ex, hb]⟩
      | false =>
        rw [List.any_eq_false]
        intro z hz hc
        simp only [Bool.and_eq_true, beq_iff_eq] at hc
        have := hi z (List.mem_range.mp hz) x hx (hc.1.trans ex.symm)
        rw [this, hb] at hc
        exact absurd hc.2 (by decide)
    rw [this, bits_of hx]
  · rw [lastT_none fun z hz e => hr ⟨z, hz, e⟩]
    symm
    refine bits_zero fun i _ => ?_
    unfold Spec.least Spec.oldItems Spec.items
    rw [List.any_eq_false]
    intro z hz hc
    simp only [Bool.and_eq_true, beq_iff_eq] at hc
    exact hr ⟨z, List.mem_range.mp hz, hc.1⟩
end Tg
end

section
set_option Elab.async false
set_option linter.all false
set_option maxRecDepth 100000
set_option maxHeartbeats 1000000
/-! The library: its slots. -/
namespace Tg
open PySem PySem.Spec PyProof.Rows L2
open R7292f
def libG (q : Addr) : List (Str × Dat) := [("changes", .v (.ref q))]
def libD (A : Ad) (q : Addr) : Dat := .obj A.li (libG q)
structure LibS (K : PySem.W.Frag) (A : Ad) (q : Addr) (bs : List (Option Spec.Change)) (m : Nat) (H : Hp) : Prop where
  ex : ∃ kvs, H q = some (.dK kvs) ∧ kvs.length ≤ m ∧ ∀ (i : Nat) c, bs.getD i none = some c → ∃ v, valV kvs (.inl (i : Int)) = some v ∧ Rp K H v (chDat A c) ∧ ChGood c
section
variable {K : PySem.W.Frag} {A : Ad} {q : Addr} {bs : List (Option Spec.Change)} {m : Nat} {H H' : Hp}
theorem hidD_ne {kvs : List (Key × V)} (h : H q = some (.dK kvs)) {b : Addr} {u : HO} (e : H b = some u) (hu : ∀ kvs, u ≠ .dK kvs) : hid q H b = some u := by
  rw [hid_ne fun z => ?_]
  · exact e
  · rw [z, h] at e
    exact hu kvs (Option.some.inj e).symm
theorem hidD_t {kvs : List (Key × V)} (h : H q = some (.dK kvs)) : SameT K H (hid q H) := fun a xs z => by
  rcases z with z | z
  · refine .inl ?_
    rcases z with z | ⟨ob, z⟩
    · exact .inl (hidD_ne h z fun _ y => by cases y)
    · exact .inr ⟨ob, hidD_ne h z fun _ y => by cases y⟩
  · exact .inr z
mutual
theorem Rp.hidD {kvs : List (Key × V)} (h : H q = some (.dK kvs)) : ∀ {v : V} {d : Dat}, Rp K H v d → Rp K (hid q H) v d
  | _, _, .v x => .v x
  | _, _, .tup z r => .tup (hidD_t h _ _ z) (RpL.hidD h r)
  | _, _, .lst z r => .lst (hidD_ne h z fun _ y => by cases y) (RpL.hidD h r)
  | _, _, .obj z r => .obj (hidD_ne h z fun _ y => by cases y) (RpF.hidD h r)
theorem RpL.hidD {kvs : List (Key × V)} (h : H q = some (.dK kvs)) : ∀ {vs : List V} {ds : List Dat}, RpL K H vs ds → RpL K (hid q H) vs ds
  | _, _, .nil => .nil
  | _, _, .cons a r => .cons (Rp.hidD h a) (RpL.hidD h r)
theorem RpF.hidD {kvs : List (Key × V)} (h : H q = some (.dK kvs)) : ∀ {vs : List (Str × V)} {ds : List (Str × Dat)}, RpF K H vs ds → RpF K (hid q H) vs ds
  | _, _, .nil => .nil
  | _, _, .cons a r => .cons (Rp.hidD h a) (RpF.hidD h r)
end
theorem Env.hidD {kvs : List (Key × V)} (h : H q = some (.dK kvs)) : ∀ {σ : L2.St} {ρ : List (Option Dat)}, Env K H σ ρ → Env K (hid q H) σ ρ
  | _, _, .nil => .nil
  | _, _, .skip r => .skip (Env.hidD h r)
  | _, _, .cons a r => .cons (Rp.hidD h a) (Env.hidD h r)
theorem LibS.grow (L : LibS K A q bs m H) (s : Same H H') : LibS K A q bs m H' := by
  obtain ⟨kvs, h, hl, hv⟩ := L.ex
  exact ⟨kvs, s _ _ h, hl, fun i c hc => by
    obtain ⟨v, h1, h2, h3⟩ := hv i c hc
    exact ⟨v, h1, h2.mono s, h3⟩⟩
theorem getD_set {α : Type} {l : List (Option α)} {p i : Nat} {x : Option α} : (l.set p x).getD i none = if i = p ∧ p < l.length then x else l.getD i none := by
  by_cases h : i = p
  · subst h
    by_cases h2 : i < l.length
    · simp [h2]
    · simp [h2]
  · simp [List.getD, List.getElem?_set_ne (Ne.symm h), h]
theorem LibS.put {i : Nat} {v : V} {c : Spec.Change} {kvs : List (Key × V)} (L : LibS K A q bs m H) (h : H q = some (.dK kvs)) (r : Rp K H v (chDat A c)) (g : ChGood c) : LibS K A q (bs.set i (some c)) (m + 1) (upd H q (.dK (putK kvs (.inl (i : Int)) v))) := by
  obtain ⟨kvs', h', hl, hv⟩ := L.ex
  rw [h] at h'
  cases h'
  have hs : Same (hid q H) (upd H q (.dK (putK kvs (.inl (i : Int)) v))) := fun b u e => by
    have hb : b ≠ q := fun z => by
      rw [z] at e
      simp [hid] at e
    rw [hid_ne hb] at e
    rw [upd_ne hb]
    exact e
  refine ⟨_, upd_same, Nat.le_trans (length_putK _ _ _) (by omega), fun j c' hc => ?_⟩
  rw [getD_set] at hc
  rw [valV_put]
  by_cases hj : j = i
  · subst hj
    rw [if_pos rfl]
    split at hc
    · cases hc
      exact ⟨v, rfl, (r.hidD h).mono hs, g⟩
    · rename_i hn
      have : bs.getD j none = none := by
        have : ¬ j < bs.length := fun z => hn ⟨rfl, z⟩
        simp [List.getD, List.getElem?_eq_none (Nat.le_of_not_lt this)]
      rw [this] at hc
      cases hc
  · rw [if_neg fun z => hj z.1] at hc
    rw [if_neg fun z => hj (by have := Sum.inl.inj z; omega)]
    obtain ⟨v', h1, h2, h3⟩ := hv j c' hc
    exact ⟨v', h1, (h2.hidD h).mono hs, h3⟩
end
section
variable {P : Program} {w : World} {K : PySem.W.Frag} {mg : Str → Option Value} {base : Heap} {A : Ad} {f : Addr} {fd : FuncData} {ρ : List (Option Dat)} {q : Addr} {bs : List (Option Spec.Change)} {m : Nat} {H H' : Hp} {σ : L2.St} {D : Ends} {ty tv te : TE} {r : Except Err Dat} {rc : Except Err Spec.Change} {E : XK}
theorem lib_fld (T : Txt K mg A) (h : ρ[0]? = some (some (libD A q))) : EvD K (tFld K (tVar 0) "changes") ρ (.v (.ref q)) := ev_fld (ev_var h) T.k_Library T.n_Library_changes lkH
theorem s_dget {i j : Nat} {c : Spec.Change} (T : Txt K mg A) (e : Env K H σ ρ) (L : LibS K A q bs m H) (hs : ρ[0]? = some (some (libD A q))) (hty : EvD K ty ρ (.v (.int (i : Nat)))) (hc : bs.getD i none = some c)
    (k : ∀ σ' H', Same H H' → Env K H' σ' (ρ.set j (some (chDat A c))) → ChGood c → D.nx σ' H') : tAsg (tDGet (tFld K (tVar 0) "changes") ty) (gName j) D σ H :=
  lib_fld T hs σ H e _ fun x H1 s1 r1 => hty σ H1 (e.mono s1) _ fun y H2 s2 r2 => by
    obtain ⟨kvs, h, hl, hv⟩ := (L.grow (s1.trans s2)).ex
    obtain ⟨v, h1, h2, h3⟩ := hv i c hc
    have ex := r1.v_eq
    have ey := r2.v_eq
    subst ex
    subst ey
    exact ⟨q, v, rfl, .inl ⟨kvs, .inl (i : Int), .inl h, rfl, h1.symm⟩, k _ H2 (s1.trans s2) ((e.mono (s1.trans s2)).set j h2) h3⟩
theorem s_dputX {i : Nat} (T : Txt K mg A) (e : Env K H σ ρ) (L : LibS K A q bs m H) (hm : m ≤ 1000000) (hs : ρ[0]? = some (some (libD A q))) (hty : EvD K ty ρ (.v (.int (i : Nat)))) (hv : EvX K A.rf E tv ρ (rc.map (chDat A))) (hr : ∀ c, rc = .ok c → ChGood c)
    (k : ∀ c, rc = .ok c → ∀ H', Same (hid q H) (hid q H') → Env K H' σ ρ → LibS K A q (bs.set i (some c)) (m + 1) H' → D.nx σ H') (x : ∀ er, rc = .error er → ∀ a H', Same H H' → XErr K H' a er → E (.ref A.rf) (some a) H') : sDPut (tFld K (tVar 0) "changes") ty tv D σ H :=
  hv σ H e _ (fun d hd v H1 s1 r1 => lib_fld T hs σ H1 (e.mono s1) _ fun x H2 s2 r2 => hty σ H2 (e.mono (s1.trans s2)) _ fun y H3 s3 r3 => by
    obtain ⟨c, hc, rfl⟩ : ∃ c, rc = .ok c ∧ d = chDat A c := by
      cases rc with
      | error e => cases hd
      | ok c => cases hd; exact ⟨c, rfl, rfl⟩
    have g := hr c hc
    have s13 := (s1.trans s2).trans s3
    have L3 := L.grow s13
    obtain ⟨kvs, h, hl, _⟩ := L3.ex
    have ex := r2.v_eq
    have ey := r3.v_eq
    subst ex
    subst ey
    have r4 := r1.mono (s2.trans s3)
    have hsm : Same (hid q H3) (upd H3 q (.dK (putK kvs (.inl (i : Int)) v))) := fun b u e => by
      have hb : b ≠ q := fun z => by
        rw [z] at e
        simp [hid] at e
      rw [hid_ne hb] at e
      rw [upd_ne hb]
      exact e
    refine ⟨q, _, rfl, .inl ⟨kvs, .inl (i : Int), h, rfl, Nat.lt_of_le_of_lt (Nat.le_trans hl hm) (by decide), rfl⟩, k c hc _ ?_ (((e.mono s13).hidD h).mono hsm) (L3.put h r4 g)⟩
    rw [hid_upd]
    exact hid_mono s13) fun er he b H1 s1 xe => x er (by cases rc with
    | error e => cases he; rfl
    | ok c => cases he) b H1 s1 xe
theorem ev_num {vs : List Spec.Plain} {k i : Nat} {x : Spec.Plain} (h : EvD K te ρ (.lst (vs.map plD))) (hx : vs[k]? = some (.num (some (i : Int)))) : EvD K (tOp (rIx K) (tOp (rIx K) te (tC (.int (k : Nat)))) (tC (.int 1))) ρ (.v (.int (i : Nat))) :=
  ev_op (ev_given h hx) ev_c (rv_ixT (by omega) rfl)
/-! ### followed_by, back -/
theorem good_chain {c d : Spec.Change} (gc : ChGood c) (gd : ChGood d) : ChGood (Spec.chain c d) := by
  have hn : Spec.newTags (Spec.chain c d) = Spec.newTags d := by
    unfold Spec.newTags Spec.chain
    rw [List.map_map]
    rfl
  refine ⟨gc.o, ?_, gc.go, by rw [hn]; exact gd.gn⟩
  show (d.defs.map _).length ≤ 5
  rw [List.length_map]
  exact gd.n
theorem good_back {c : Spec.Change} (g : ChGood c) : ChGood (Spec.backOf c) := by
  refine ⟨?_, ?_, g.gn, by rw [back_names]; exact g.go⟩
  · show (Spec.newTags c).length ≤ 5
    rw [newLen]
    exact g.n
  · show ((List.range c.old.length).map _).length ≤ 5
    rw [List.length_map, List.length_range]
    exact g.o
def spFol (K : PySem.W.Frag) (A : Ad) : Sp := fun vs H Q E => ∃ (a : Addr) (g : V) (q : Addr) (bs : List (Option Spec.Change)) (m : Nat) (args : List Spec.Plain) (i j p : Nat) (c d : Spec.Change), vs = [.ref a, g] ∧ Rp K H (.ref a) (libD A q) ∧ LibS K A q bs m H ∧ m ≤ 1000000 ∧ Rp K H g (.lst (args.map plD)) ∧
  args[0]? = some (.num (some (i : Int))) ∧ args[1]? = some (.num (some (j : Int))) ∧ args[2]? = some (.num (some (p : Int))) ∧ bs.getD i none = some c ∧ bs.getD j none = some d ∧
  (∀ e, Spec.chainFn c d = .ok e → ∀ v H', Same (hid q H) (hid q H') → LibS K A q (bs.set p (some e)) (m + 1) H' → Rp K H' v (.tup [.v (.int 0)]) → Q v H') ∧
  (∀ er, Spec.chainFn c d = .error er → ∀ b H', Same H H' → XErr K H' b (errOf er) → E (.ref A.rf) (some b) H')
abbrev s_Library_followed_by : Stmt := inClass (top 66) 1
abbrev N_Library_followed_by : List Str := ["self", "given", "one", "other"]
theorem sc_Library_followed_by : FnScope N_Library_followed_by ["self", "given"] (defScope s_Library_followed_by) :=
  ⟨rfl, rfl, rfl, by decide +kernel, rfl, by decide +kernel, by decide +kernel⟩
theorem ok_followed_by (D : Dm K A.li "followed_by" "Library.followed_by" s_Library_followed_by ["self", "given"] f fd) (T : Txt K mg A) (g_out_of_range : Cl P w K mg base (L2N.CX P w) 3 "out_of_range" (MaySp K A.rf (R_refuse 2)))
    (g_Change_followed : Mt P w K mg base CX0 3 A.ch "followed" (PureSp K (R_followed A))) : Mt P w K mg base (L2N.CX P w) 4 A.li "followed_by" (spFol K A) := by
  refine D.mt' (D.fn.okN sc_Library_followed_by (fun vs H Q E h => ?_) (fun cdv _ outer s H vs Q E hr h => ⟨_, (pss_cons (ps_set (i := 2) sc_Library_followed_by.nd rfl (Or.inl rfl) (pe_dget (hu_of hr) (pe_fldK K (pv 0) rfl) (pe_ix (ix_seqK K) (pe_ix (ix_seqK K) (pv 1) pe_int (fun _ _ => rfl)) pe_int (fun _ _ => rfl)) (fun _ _ => rfl)))
    (pss_cons (ps_set (i := 3) sc_Library_followed_by.nd rfl (Or.inl rfl) (pe_dget (hu_of hr) (pe_fldK K (pv 0) rfl) (pe_ix (ix_seqK K) (pe_ix (ix_seqK K) (pv 1) pe_int (fun _ _ => rfl)) pe_int (fun _ _ => rfl)) (fun _ _ => rfl)))
    (pss_cons (ps_expr (pe_cl g_out_of_range hr (by omega) passX (by rfl) (pa_cons (pe_cmpR (op_neGK K hr.units) (pe_fldK K (pv 3) rfl) (pe_fldK K (pv 2) rfl) (nomark _)) (pa_cons pe_str pa_nil))))
    (pss_cons (ps_dput (hu_of hr) (pe_fldK K (pv 0) rfl) (pe_ix (ix_seqK K) (pe_ix (ix_seqK K) (pv 1) pe_int (fun _ _ => rfl)) pe_int (fun _ _ => rfl)) (pe_mtX g_Change_followed hr (by omega) pass0 (pv 2) (pa_cons (pv 3) pa_nil)) rfl)
    (pss_one (ps_ret (C8.pe_gc rfl T.c_NOTHING))))))), ?_⟩))
  · obtain ⟨a, g, q, bs, m, args, i, j, p, c, d, rfl, _⟩ := h
    rfl
  · obtain ⟨a, g, q, bs, m, args, i, j, p, c, d, rfl, ra, L, hm, rg, h0, h1, h2, hc, hd, k, x⟩ := h
    have e0 : Env K H (L2.start N_Library_followed_by [.ref a, g]) [some (libD A q), some (.lst (args.map plD)), none, none] := env_start 2 (.cons ra (.cons rg .nil))
    refine s_seq (s_dget T e0 L rfl (ev_num (x := .undef) (ev_var (i := 1) rfl) h0) hc fun σ1 H1 s1 e1 gc => ?_)
    refine s_seq (s_dget T e1 (L.grow s1) rfl (ev_num (x := .undef) (ev_var (i := 1) rfl) h1) hd fun σ2 H2 s2 e2 gd => ?_)
    refine s_seq (s_dropX e2 (ev_refuse (ev_cons (ev_op (cf_old (i := 3) T rfl) (cf_new (i := 2) T rfl) rv_neTags) (ev_cons ev_c ev_nil))) (fun z hz H3 s3 e3 => ?_) fun er he b H3 s3 xe => ?_)
    · have hch : d.old = Spec.newTags c := by
        by_cases hcc : d.old = Spec.newTags c
        · exact hcc
        · rw [if_pos (by simpa using hcc)] at hz
          cases hz
      have hfn : Spec.chainFn c d = .ok (Spec.chain c d) := by
        unfold Spec.chainFn
        rw [if_pos (by simp [hch])]
      have s03 := (s1.trans s2).trans s3
      try dsimp only [tNext]
      refine s_seq (s_dputX (E := E) T e3 (L.grow s03) hm rfl (ev_num (x := .undef) (ev_var (i := 1) rfl) h2) (rc := .ok (Spec.chain c d)) (fun σ4 H4 e4 Q4 q4 _ => ?_) (fun z hz => by cases hz; exact good_chain gc gd) (fun c' hc' H4 s4 e4 L4 => ?_) fun er he => by cases he)
      · have hev : EvD K (tMeth A.ch "followed" (PureSp K (R_followed A)) [] E0 (tVar 2) (tCons (tVar 3) tNil)) [some (libD A q), some (.lst (args.map plD)), some (chDat A c), some (chDat A d)] (chDat A (Spec.chain c d)) := by
          rw [← chain_eq A c d]
          exact ev_meth (R := R_followed A) (gs := chG c.old (Spec.newTags c) (Spec.imageOf c)) (ev_var (i := 2) rfl) (ch_no (by decide +kernel) (by decide +kernel) (by decide +kernel)) (ev_cons (ev_var (i := 3) rfl) ev_nil) ⟨c.old, Spec.newTags c, Spec.imageOf c, Spec.newTags d, Spec.imageOf d, by rw [← hch]; rfl, gc.ok, rfl⟩
        exact hev σ4 H4 e4 Q4 fun v H5 s5 r5 => q4 _ rfl v H5 s5 r5
      · cases hc'
        try dsimp only
        exact s_ret e4 (ev_one T.t_NOTHING) fun v H5 s5 r5 => k _ hfn v H5 ((hid_mono s03).trans (s4.trans (hid_mono s5))) (L4.grow s5) r5
    · have hcc : ¬ d.old = Spec.newTags c := fun hcc => by
        rw [if_neg (by simp [hcc])] at he
        cases he
      have hfn : Spec.chainFn c d = .error Spec.otherTags := by
        unfold Spec.chainFn
        rw [if_neg (by simpa using hcc)]
      rw [if_pos (by simpa using hcc)] at he
      cases he
      refine x _ hfn b H3 ((s1.trans s2).trans s3) ?_
      rw [show Spec.otherTags = ⟨.rangeError, Spec.units "other must start from the new tags"⟩ from rfl, err_lit (by decide +kernel)]
      exact xe
def spBack (K : PySem.W.Frag) (A : Ad) : Sp := fun vs H Q _ => ∃ (a : Addr) (g : V) (q : Addr) (bs : List (Option Spec.Change)) (m : Nat) (args : List Spec.Plain) (i p : Nat) (c : Spec.Change), vs = [.ref a, g] ∧ Rp K H (.ref a) (libD A q) ∧ LibS K A q bs m H ∧ m ≤ 1000000 ∧ Rp K H g (.lst (args.map plD)) ∧
  args[0]? = some (.num (some (i : Int))) ∧ args[1]? = some (.num (some (p : Int))) ∧ bs.getD i none = some c ∧
  (Spec.isLossless c = true → ∀ v H', Same (hid q H) (hid q H') → LibS K A q (bs.set p (some (Spec.backOf c))) (m + 1) H' → Rp K H' v (tellD true) → Q v H') ∧
  (Spec.isLossless c = false → ∀ v H', Same (hid q H) (hid q H') → LibS K A q bs (m + 1) H' → Rp K H' v (tellD false) → Q v H')
theorem LibS.more (L : LibS K A q bs m H) : LibS K A q bs (m + 1) H := by
  obtain ⟨kvs, h, hl, hv⟩ := L.ex
  exact ⟨kvs, h, by omega, hv⟩
abbrev s_Library_back : Stmt := inClass (top 66) 2
abbrev N_Library_back : List Str := ["self", "given", "change"]
theorem sc_Library_back : FnScope N_Library_back ["self", "given"] (defScope s_Library_back) :=
  ⟨rfl, rfl, rfl, by decide +kernel, rfl, by decide +kernel, by decide +kernel⟩
theorem ok_lback (D : Dm K A.li "back" "Library.back" s_Library_back ["self", "given"] f fd) (T : Txt K mg A) (g_Change_is_lossless : Mt P w K mg base CX0 1 A.ch "is_lossless" (PureSp K (R_lossless A))) (g_truth : Cl P w K mg base CX0 1 "truth" (PureSp K R_truth))
    (g_Change_back : Mt P w K mg base CX0 3 A.ch "back" (PureSp K (R_back A))) : Mt P w K mg base CX0 4 A.li "back" (spBack K A) := by
  refine D.mt' (D.fn.ok sc_Library_back (fun vs H Q E h => ?_) (fun cdv _ outer s H vs Q E hr h => ⟨_, (pss_cons (ps_set (i := 2) sc_Library_back.nd rfl (Or.inl rfl) (pe_dget (hu_of hr) (pe_fldK K (pv 0) rfl) (pe_ix (ix_seqK K) (pe_ix (ix_seqK K) (pv 1) pe_int (fun _ _ => rfl)) pe_int (fun _ _ => rfl)) (fun _ _ => rfl)))
    (pss_cons (ps_if (pt_not (pt_val (pe_mt0X g_Change_is_lossless hr (by omega) pass0 (pv 2)))) (pss_one (ps_ret (pe_cl g_truth hr (by omega) pass0 (by rfl) (pa_cons pe_bl pa_nil)))) pss_nil)
    (pss_cons (ps_dput (hu_of hr) (pe_fldK K (pv 0) rfl) (pe_ix (ix_seqK K) (pe_ix (ix_seqK K) (pv 1) pe_int (fun _ _ => rfl)) pe_int (fun _ _ => rfl)) (pe_mt0X g_Change_back hr (by omega) pass0 (pv 2)) rfl)
    (pss_one (ps_ret (pe_cl g_truth hr (by omega) pass0 (by rfl) (pa_cons pe_bl pa_nil))))))), ?_⟩))
  · obtain ⟨a, g, q, bs, m, args, i, p, c, rfl, _⟩ := h
    rfl
  · obtain ⟨a, g, q, bs, m, args, i, p, c, rfl, ra, L, hm, rg, h0, h1, hc, k1, k2⟩ := h
    have e0 : Env K H (L2.start N_Library_back [.ref a, g]) [some (libD A q), some (.lst (args.map plD)), none] := env_start 1 (.cons ra (.cons rg .nil))
    refine s_seq (s_dget T e0 L rfl (ev_num (x := .undef) (ev_var (i := 1) rfl) h0) hc fun σ1 H1 s1 e1 gc => ?_)
    refine s_seq (s_if e1 (ev_not (ev_B (ev_meth (R := R_lossless A) (gs := chG c.old (Spec.newTags c) (Spec.imageOf c)) (ev_var (i := 2) rfl) (ch_no (by decide +kernel) (by decide +kernel) (by decide +kernel)) ev_nil ⟨c.old, Spec.newTags c, Spec.imageOf c, rfl, gc.o, rfl⟩))) (fun hb H2 s2 e2 => ?_) fun hb H2 s2 e2 => ?_)
    · rw [lossless_eq] at hb
      have hl : Spec.isLossless c = false := by simpa using hb
      exact s_ret e2 (ev_call (R := R_truth) (ev_cons ev_c ev_nil) ⟨false, rfl, rfl⟩) fun v H3 s3 r3 => k2 hl v H3 (hid_mono ((s1.trans s2).trans s3)) (L.grow ((s1.trans s2).trans s3)).more r3
    · rw [lossless_eq] at hb
      have hl : Spec.isLossless c = true := by simpa using hb
      have s02 := s1.trans s2
      try dsimp only [tNext]
      refine s_seq (s_dputX (E := E) T e2 (L.grow s02) hm rfl (ev_num (x := .undef) (ev_var (i := 1) rfl) h1) (rc := .ok (Spec.backOf c)) (fun σ4 H4 e4 Q4 q4 _ => ?_) (fun z hz => by cases hz; exact good_back gc) (fun c' hc' H4 s4 e4 L4 => ?_) fun er he => by cases he)
      · have hev : EvD K (tMeth A.ch "back" (PureSp K (R_back A)) [] E0 (tVar 2) tNil) [some (libD A q), some (.lst (args.map plD)), some (chDat A c)] (chDat A (Spec.backOf c)) := by
          rw [← back_eq A c hl]
          exact ev_meth (R := R_back A) (gs := chG c.old (Spec.newTags c) (Spec.imageOf c)) (ev_var (i := 2) rfl) (ch_no (by decide +kernel) (by decide +kernel) (by decide +kernel)) ev_nil ⟨c.old, Spec.newTags c, Spec.imageOf c, rfl, gc.ok, rfl⟩
        exact hev σ4 H4 e4 Q4 fun v H5 s5 r5 => q4 _ rfl v H5 s5 r5
      · cases hc'
        try dsimp only
        exact s_ret e4 (ev_call (R := R_truth) (ev_cons ev_c ev_nil) ⟨true, rfl, rfl⟩) fun v H5 s5 r5 => k1 hl v H5 ((hid_mono s02).trans (s4.trans (hid_mono s5))) (L4.grow s5) r5
/-! ### __init__ -/
def spLib (A : Ad) : Sp := fun vs H Q _ => ∃ a dx, vs = [.ref a] ∧ H a = some (.ins A.li dx []) ∧
  ∀ q dx' H', H q = none → q ≠ a → Same (hid a H) H' → H' a = some (.ins A.li dx' [("changes", .ref q)]) → H' q = some (.dK []) → Q .non H'
abbrev s_Library_init : Stmt := inClass (top 66) 0
abbrev N_Library_init : List Str := ["self"]
theorem sc_Library_init : FnScope N_Library_init ["self"] (defScope s_Library_init) :=
  ⟨rfl, rfl, rfl, by decide +kernel, rfl, by decide +kernel, by decide +kernel⟩
theorem ok_Library (D : Di K mg "Library" A.li "Library.__init__" s_Library_init ["self"] f fd) (T : Txt K mg A) : Mc P w K mg base CX0 1 "Library" A.li (spLib A) := by
  refine D.mc (D.fn.ok sc_Library_init (fun vs H Q E h => ?_) (fun cdv _ outer s H vs Q E hr h => ⟨_, (pss_one (ps_fldK K (pv 0) pe_dnewK rfl)), ?_⟩))
  · obtain ⟨a, dx, rfl, _⟩ := h
    rfl
  · obtain ⟨a, dx, rfl, ha, k⟩ := h
    intro q hq
    have hqa : q ≠ a := fun z => by
      rw [z, ha] at hq
      cases hq
    refine ⟨_, rfl, a, A.li, dx, [], rfl, by rw [upd_ne (Ne.symm hqa)]; exact ha, T.k_Library, T.n_Library_changes, by show 0 < 1000; decide, ?_⟩
    refine k q dx _ hq hqa (fun b u e => ?_) upd_same (by rw [upd_ne hqa]; exact upd_same)
    have hb : b ≠ a := fun z => by
      rw [z] at e
      simp [hid] at e
    rw [hid_ne hb] at e
    have hbq : b ≠ q := ne_of_none e hq
    rw [upd_ne hb, upd_ne hbq]
    exact e
end
end Tg
end

section
set_option Elab.async false
set_option linter.all false
set_option maxRecDepth 100000
set_option maxHeartbeats 1000000
/-! The library: a call. -/
namespace Tg
open PySem PySem.Spec PyProof.Rows L2
open R7292f
/-- what a call does with the slots, and hands back -/
inductive PC (A : Ad) (bs : List (Option Spec.Change)) (args : List Spec.Plain) : Nat → List (Option Spec.Change) → Except Err Dat → Prop
  | newErr {i : Nat} {x y : Spec.Plain} {e : Spec.Err} : args[0]? = some (.num (some (i : Int))) → args[1]? = some x → args[2]? = some y → Spec.newFn x y = .error e → PC A bs args 0 bs (.error (errOf e))
  | newOk {i : Nat} {x y : Spec.Plain} {c : Spec.Change} : args[0]? = some (.num (some (i : Int))) → args[1]? = some x → args[2]? = some y → Spec.newFn x y = .ok c → PC A bs args 0 (bs.set i (some c)) (.ok (.tup [.v (.int 0)]))
  | folErr {i j p : Nat} {c d : Spec.Change} {e : Spec.Err} : args[0]? = some (.num (some (i : Int))) → args[1]? = some (.num (some (j : Int))) → args[2]? = some (.num (some (p : Int))) → bs.getD i none = some c → bs.getD j none = some d →
      Spec.chainFn c d = .error e → PC A bs args 1 bs (.error (errOf e))
  | folOk {i j p : Nat} {c d e : Spec.Change} : args[0]? = some (.num (some (i : Int))) → args[1]? = some (.num (some (j : Int))) → args[2]? = some (.num (some (p : Int))) → bs.getD i none = some c → bs.getD j none = some d →
      Spec.chainFn c d = .ok e → PC A bs args 1 (bs.set p (some e)) (.ok (.tup [.v (.int 0)]))
  | backYes {i p : Nat} {c : Spec.Change} : args[0]? = some (.num (some (i : Int))) → args[1]? = some (.num (some (p : Int))) → bs.getD i none = some c → Spec.isLossless c = true → PC A bs args 2 (bs.set p (some (Spec.backOf c))) (.ok (tellD true))
  | backNo {i p : Nat} {c : Spec.Change} : args[0]? = some (.num (some (i : Int))) → args[1]? = some (.num (some (p : Int))) → bs.getD i none = some c → Spec.isLossless c = false → PC A bs args 2 bs (.ok (tellD false))
  | tags {x y z : Spec.Plain} {door : Nat} : args[0]? = some x → args[1]? = some y → args[2]? = some z → 12 ≤ door → door ≤ 14 → PC A bs args door bs (onTR door x y z)
  | value {i : Nat} {c : Spec.Change} : args[0]? = some (.num (some (i : Int))) → bs.getD i none = some c → PC A bs args 15 bs (.error (errOf Spec.noChange))
  | defs {i : Nat} {c : Spec.Change} : args[0]? = some (.num (some (i : Int))) → bs.getD i none = some c → PC A bs args 3 bs (.ok (defsD c))
  | applyErr {i : Nat} {c : Spec.Change} {y : Spec.Plain} : args[0]? = some (.num (some (i : Int))) → args[1]? = some y → bs.getD i none = some c → Spec.itemIn c.old y = none → PC A bs args 4 bs (.error (errOf Spec.noItem))
  | applyOk {i : Nat} {c : Spec.Change} {y : Spec.Plain} {l : List Spec.Units} : args[0]? = some (.num (some (i : Int))) → args[1]? = some y → bs.getD i none = some c → Spec.itemIn c.old y = some l → PC A bs args 4 bs (.ok (itemD (Spec.newTags c) (Spec.imageOf c (Spec.maskOf c.old l))))
  | filter {i door : Nat} {c : Spec.Change} {y : Spec.Plain} : args[0]? = some (.num (some (i : Int))) → args[1]? = some y → bs.getD i none = some c → 5 ≤ door → door ≤ 9 → PC A bs args door bs (onR c door y)
  | less {i : Nat} {c : Spec.Change} : args[0]? = some (.num (some (i : Int))) → bs.getD i none = some c → PC A bs args 10 bs (.ok (tellD (Spec.isLossless c)))
  | lost {i : Nat} {c : Spec.Change} : args[0]? = some (.num (some (i : Int))) → bs.getD i none = some c → PC A bs args 11 bs (.ok (lostD c))
section
variable {K : PySem.W.Frag} {ρ : List (Option Dat)} {ta tb te : TE} {tr : TA} {a : Dat} {ds : List Dat} {r : Except Err Dat} {E E1 : XK} {C : Addr} {op : R2}
theorem ev_opX {f : Dat → Dat} (ha : EvD K ta ρ a) (hb : EvX K C E tb ρ r) (h : ∀ d, r = .ok d → RvD K op a d (f d)) : EvX K C E (tOp op ta tb) ρ (r.map f) := fun σ H e Q q x =>
  ha σ H e _ fun v1 H1 s1 r1 => hb σ H1 (e.mono s1) _ (fun d hd v2 H2 s2 r2 => h d hd v1 v2 H2 (r1.mono s2) r2 Q fun v3 H3 s3 r3 => q (f d) (by rw [hd]; rfl) v3 H3 ((s1.trans s2).trans s3) r3) fun er he b H2 s2 xe => x er (by rw [he]; rfl) b H2 (s1.trans s2) xe
theorem ev_callX1 {R : List Dat → Dat → Prop} {f : Dat → Dat} (ha : EvX K C E te ρ r) (hb : EvA K tr ρ ds) (h : ∀ d, r = .ok d → R (d :: ds) (f d)) : EvX K C E (tCall (PureSp K R) [] E1 (tCons te tr)) ρ (r.map f) := fun σ H e Q q x =>
  ha σ H e _ (fun d hd v1 H1 s1 r1 => hb σ H1 (e.mono s1) _ fun vs H2 s2 r2 => by
    refine ⟨d :: ds, f d, .cons (r1.mono s2) (by show RpL K H2 (vs ++ []) ds; rw [List.append_nil]; exact r2), h d hd, fun v3 H3 s3 r3 => q (f d) (by rw [hd]; rfl) v3 H3 ((s1.trans s2).trans s3) r3⟩) fun er he b H2 s2 xe => x er (by rw [he]; rfl) b H2 s2 xe
end
theorem good_new {x y : Spec.Plain} {c : Spec.Change} (h : Spec.newFn x y = .ok c) : ChGood c := by
  rw [newFn_eq] at h
  cases ht : Spec.tagsArg x with
  | error e =>
    rw [ht] at h
    cases h
  | ok tags =>
    rw [ht] at h
    simp only [] at h
    cases hl : Spec.listIn 0 5 Spec.pairIn y with
    | none =>
      rw [hl] at h
      cases h
    | some l =>
      rw [hl] at h
      simp only [] at h
      split at h
      · cases hr : Spec.readAll tags 0 l with
        | error e =>
          rw [hr] at h
          cases h
        | ok defs =>
          rw [hr] at h
          cases h
          obtain ⟨hp, _, hl5, hprs⟩ := listIn_some (g := fun e : Spec.Units × Spec.Units => .arr [.str e.1, .str e.2]) (fun x y h => (pairIn_some h).1) hl
          obtain ⟨_, ht5, _, _⟩ := tagsArg_ok ht
          have hn : ∀ (l : List (Spec.Units × Spec.Units)) (k : Nat) (ds : List (Spec.Units × List Bool)), Spec.readAll tags k l = .ok ds → ds.map (fun e => e.1) = l.map fun e => e.1 := by
            intro l
            induction l with
            | nil =>
              intro k ds h
              cases h
              rfl
            | cons e r ih =>
              intro k ds h
              unfold Spec.readAll at h
              cases hf : Spec.readFilter ("definition " ++ toString k ++ ": ") tags e.2 with
              | error e2 =>
                rw [hf] at h
                cases h
              | ok F =>
                rw [hf] at h
                have h' : Spec.andThen (Spec.readAll tags (k + 1) r) (fun m => .ok ((e.1, Spec.tableOf tags F) :: m)) = .ok ds := h
                cases hr2 : Spec.readAll tags (k + 1) r with
                | error e2 =>
                  rw [hr2] at h'
                  cases h'
                | ok m =>
                  rw [hr2] at h'
                  cases h'
                  rw [List.map_cons, ih (k + 1) m hr2]
                  rfl
          have hnames := hn l 0 defs hr
          refine ⟨ht5, ?_, good_of ht, fun u hu => ?_⟩
          · have := congrArg List.length hnames
            rw [List.length_map, List.length_map] at this
            show defs.length ≤ 5
            omega
          · have hu' : u ∈ l.map fun e => e.1 := hnames ▸ hu
            obtain ⟨e, he, rfl⟩ := List.mem_map.mp hu'
            obtain ⟨_, h2, _⟩ := pairIn_some (hprs e he)
            obtain ⟨_, h3, h4, _⟩ := nameIn_some h2
            refine ⟨?_, h4⟩
            cases hh : e.1 with
            | nil => exact absurd hh h3
            | cons a r => simp
      · cases h
section
variable {P : Program} {w : World} {K : PySem.W.Frag} {mg : Str → Option Value} {base : Heap} {A : Ad} {f : Addr} {fd : FuncData} {ρ : List (Option Dat)} {q : Addr} {bs : List (Option Spec.Change)} {m : Nat} {H H' : Hp} {σ : L2.St} {D : Ends} {ty tv te : TE} {r : Except Err Dat} {rc : Except Err Spec.Change} {E : XK}
theorem lib_meth {sp : Sp} {nm : Str} {ta : TA} {Q : VK} (e : Env K H σ ρ) (hs : ρ[0]? = some (some (libD A q))) (hm : (nm == ("changes" : Str)) = false) (h : ∀ a, σ[0]? = some (some (.ref a)) → Rp K H (.ref a) (libD A q) → ta σ H fun vs H2 => sp (.ref a :: (vs ++ [])) H2 Q E) : tMeth A.li nm sp [] E (tVar 0) ta σ H Q := by
  obtain ⟨v, h1, h2⟩ := e.get hs
  have h3 := h2
  cases h2 with
  | obj ho rf =>
    exact ⟨_, h1, _, _, _, rfl, ho, look_none rf (show (libG q).lookup nm = none from (lkP hm).trans lkN), h _ h1 h3⟩
def spCall (K : PySem.W.Frag) (A : Ad) : Sp := fun vs H Q E => ∃ (a : Addr) (g : V) (q : Addr) (bs : List (Option Spec.Change)) (m : Nat) (args : List Spec.Plain) (door : Nat) (bs' : List (Option Spec.Change)) (r : Except Err Dat), vs = [.ref a, .int (door : Nat), g] ∧ Rp K H (.ref a) (libD A q) ∧ LibS K A q bs m H ∧ m ≤ 1000000 ∧
  Rp K H g (.lst (args.map plD)) ∧ PC A bs args door bs' r ∧
  (∀ d, r = .ok d → ∀ v H', Same (hid q H) (hid q H') → LibS K A q bs' (m + 1) H' → Rp K H' v d → Q v H') ∧
  (∀ er, r = .error er → ∀ b H', Same H H' → XErr K H' b er → E (.ref A.rf) (some b) H')
def toC (x y : Spec.Plain) : Except Err Spec.Change := match Spec.newFn x y with
  | .error e => .error (errOf e)
  | .ok c => .ok c
theorem newR_map (x y : Spec.Plain) : newR A x y = (toC x y).map (chDat A) := by
  unfold newR toC
  cases Spec.newFn x y <;> rfl
abbrev s_Library_call : Stmt := inClass (top 66) 3
abbrev N_Library_call : List Str := ["self", "door", "given", "change"]
theorem sc_Library_call : FnScope N_Library_call ["self", "door", "given"] (defScope s_Library_call) :=
  ⟨rfl, rfl, rfl, by decide +kernel, rfl, by decide +kernel, by decide +kernel⟩
theorem ok_call (D : Dm K A.li "call" "Library.call" s_Library_call ["self", "door", "given"] f fd) (T : Txt K mg A) (g_created : Cl P w K mg base (L2N.CX P w) 194 "created" (MaySp K A.rf (R_created A))) (g_Library_followed_by : Mt P w K mg base (L2N.CX P w) 4 A.li "followed_by" (spFol K A))
    (g_Library_back : Mt P w K mg base CX0 4 A.li "back" (spBack K A)) (g_on_tags : Cl P w K mg base (L2N.CX P w) 195 "on_tags" (MaySp K A.rf R_on_tags)) (g_wrong_kind : Cl P w K mg base (L2N.CX P w) 3 "wrong_kind" (MaySp K A.rf (R_refuse 1)))
    (g_told_definitions : Cl P w K mg base CX0 7 "told_definitions" (PureSp K (R_defs A))) (g_told_item : Cl P w K mg base CX0 2 "told_item" (PureSp K R_told_item)) (g_item_of : Cl P w K mg base (L2N.CX P w) 4 "item_of" (MaySp K A.rf R_item_of))
    (g_on_filter : Cl P w K mg base (L2N.CX P w) 195 "on_filter" (MaySp K A.rf (R_on_filter A))) (g_truth : Cl P w K mg base CX0 1 "truth" (PureSp K R_truth)) (g_Change_is_lossless : Mt P w K mg base CX0 1 A.ch "is_lossless" (PureSp K (R_lossless A)))
    (g_lost_tags : Cl P w K mg base CX0 2 "lost_tags" (PureSp K (R_lost A))) : Mt P w K mg base (L2N.CX P w) 196 A.li "call" (spCall K A) := by
  refine D.mt' (D.fn.okN sc_Library_call (fun vs H Q E h => ?_) (fun cdv _ outer s H vs Q E hr h => ⟨_, (pss_cons (ps_if (pt_cmpR (op_eqGK K hr.units) (pv 1) pe_int (nomark _)) (pss_cons (ps_dput (hu_of hr) (pe_fldK K (pv 0) rfl) (pe_ix (ix_seqK K) (pe_ix (ix_seqK K) (pv 2) pe_int (fun _ _ => rfl)) pe_int (fun _ _ => rfl)) (pe_cl g_created hr (by omega) passX (by rfl) (pa_cons (pv 2) pa_nil)) rfl)
    (pss_one (ps_ret (C8.pe_gc rfl T.c_NOTHING)))) pss_nil)
    (pss_cons (ps_if (PW.pt (pw_or (pt_cmpR (op_eqGK K hr.units) (pv 1) pe_int (nomark _)) (pw_or1 (pt_cmpR (op_eqGK K hr.units) (pv 1) pe_int (nomark _))))) (pss_one (ps_ret (pe_ifExp (pt_cmpR (op_eqGK K hr.units) (pv 1) pe_int (nomark _)) (pe_mtX g_Library_followed_by hr (by omega) passX (pv 0) (pa_cons (pv 2) pa_nil)) (pe_mtX g_Library_back hr (by omega) pass0 (pv 0) (pa_cons (pv 2) pa_nil))))) pss_nil)
    (pss_cons (ps_if (pt_chain op_leI op_leI pe_int (pv 1) pe_int) (pss_one (ps_ret (pe_cl g_on_tags hr (by omega) passX (by rfl) (pa_cons (pv 1) (pa_cons (pv 2) pa_nil))))) pss_nil)
    (pss_cons (ps_set (i := 3) sc_Library_call.nd rfl (Or.inl rfl) (pe_dget (hu_of hr) (pe_fldK K (pv 0) rfl) (pe_ix (ix_seqK K) (pe_ix (ix_seqK K) (pv 2) pe_int (fun _ _ => rfl)) pe_int (fun _ _ => rfl)) (fun _ _ => rfl)))
    (pss_cons (ps_expr (pe_cl g_wrong_kind hr (by omega) passX (by rfl) (pa_cons (pe_cmpR (op_eqGK K hr.units) (pv 1) pe_int (nomark _)) (pa_cons pe_str pa_nil))))
    (pss_cons (ps_if (PW.pt (pw_or (pt_cmpR (op_eqGK K hr.units) (pv 1) pe_int (nomark _)) (pw_or1 (pt_cmpR (op_eqGK K hr.units) (pv 1) pe_int (nomark _))))) (pss_cons (ps_if (pt_cmpR (op_eqGK K hr.units) (pv 1) pe_int (nomark _)) (pss_one (ps_ret (pe_cl g_told_definitions hr (by omega) pass0 (by rfl) (pa_cons (pv 3) pa_nil)))) pss_nil)
    (pss_one (ps_ret (pe_cl g_told_item hr (by omega) pass0 (by rfl) (pa_cons (pe_ix (ix_seqK K) (pe_fldK K (pv 3) rfl) (pe_cl g_item_of hr (by omega) passX (by rfl) (pa_cons (pe_ix (ix_seqK K) (pv 2) pe_int (fun _ _ => rfl)) (pa_cons (pe_fldK K (pv 3) rfl) pa_nil))) (fun _ _ => rfl)) (pa_cons (pe_fldK K (pv 3) rfl) pa_nil)))))) pss_nil)
    (pss_cons (ps_if (pt_cmpR op_ltI (pv 1) pe_int (nomark _)) (pss_one (ps_ret (pe_cl g_on_filter hr (by omega) passX (by rfl) (pa_cons (pv 3) (pa_cons (pv 1) (pa_cons (pe_ix (ix_seqK K) (pv 2) pe_int (fun _ _ => rfl)) pa_nil)))))) pss_nil)
    (pss_one (ps_ret (pe_ifExp (pt_cmpR (op_eqGK K hr.units) (pv 1) pe_int (nomark _)) (pe_cl g_truth hr (by omega) pass0 (by rfl) (pa_cons (pe_mt0X g_Change_is_lossless hr (by omega) pass0 (pv 3)) pa_nil)) (pe_cl g_lost_tags hr (by omega) pass0 (by rfl) (pa_cons (pv 3) pa_nil)))))))))))), ?_⟩))
  · obtain ⟨a, g, q, bs, m, args, door, bs', r, rfl, _⟩ := h
    rfl
  · obtain ⟨a, g, q, bs, m, args, door, bs', r, rfl, ra, L, hm, rg, pc, k, x⟩ := h
    have e0 : Env K H (L2.start N_Library_call [.ref a, .int (door : Nat), g]) [some (libD A q), some (.v (.int (door : Nat))), some (.lst (args.map plD)), none] := env_start 1 (.cons ra (.cons (.v _) (.cons rg .nil)))
    -- door 0
    try dsimp only [tNext]
    refine s_seq (s_if e0 (ev_eqN (ev_var (i := 1) rfl) 0) (fun hb H1 s1 e1 => ?_) fun hb0 H1 s1 e1 => ?_)
    · have hd0 := of_decide_eq_true hb
      obtain ⟨i, px, py, h0, h1, h2, hk, hx⟩ : ∃ (i : Nat) (px py : Spec.Plain), args[0]? = some (.num (some (i : Int))) ∧ args[1]? = some px ∧ args[2]? = some py ∧ (∀ c, Spec.newFn px py = .ok c → bs' = bs.set i (some c) ∧ r = .ok (.tup [.v (.int 0)])) ∧ (∀ e, Spec.newFn px py = .error e → r = .error (errOf e)) := by
        cases pc with
        | newErr h0 h1 h2 h3 => exact ⟨_, _, _, h0, h1, h2, fun c hc => (by rw [h3] at hc; cases hc), fun e he => (by rw [h3] at he; cases he; rfl)⟩
        | newOk h0 h1 h2 h3 => exact ⟨_, _, _, h0, h1, h2, fun c hc => (by rw [h3] at hc; cases hc; exact ⟨rfl, rfl⟩), fun e he => (by rw [h3] at he; cases he)⟩
        | _ => omega
      try dsimp only
      try dsimp only [tNext]
      refine s_seq (s_dputX (E := E) T e1 (L.grow s1) hm rfl (ev_num (x := .undef) (ev_var (i := 2) rfl) h0) (rc := toC px py) ?_ (fun c hc => ?_) (fun c hc H2 s2 e2 L2 => ?_) fun er he b H2 s2 xe => ?_)
      · rw [← newR_map (A := A)]
        exact ev_callX (ev_cons (ev_var (i := 2) rfl) ev_nil) ⟨args, px, py, rfl, h1, h2, rfl⟩
      · unfold toC at hc
        cases hn : Spec.newFn px py with
        | error e =>
          rw [hn] at hc
          cases hc
        | ok c' =>
          rw [hn] at hc
          cases hc
          exact good_new hn
      · have hn : Spec.newFn px py = .ok c := by
          unfold toC at hc
          cases hn : Spec.newFn px py with
          | error e =>
            rw [hn] at hc
            cases hc
          | ok c' =>
            rw [hn] at hc
            cases hc
            rfl
        obtain ⟨hk1, hk2⟩ := hk c hn
        subst hk1
        try dsimp only
        exact s_ret e2 (ev_one T.t_NOTHING) fun v H5 s5 r5 => k _ hk2 v H5 ((hid_mono s1).trans (s2.trans (hid_mono s5))) (L2.grow s5) r5
      · refine x er ?_ b H2 (s1.trans s2) xe
        unfold toC at he
        cases hn : Spec.newFn px py with
        | error e =>
          rw [hn] at he
          cases he
          exact hx e hn
        | ok c' =>
          rw [hn] at he
          cases he
    have n0 := of_decide_eq_false hb0
    -- doors 1, 2
    try dsimp only [tNext]
    refine s_seq (s_if e1 (ev_or (ev_eqN (ev_var (i := 1) rfl) 1) fun _ => ev_eqN (ev_var (i := 1) rfl) 2) (fun hb H2 s2 e2 => ?_) fun hb12 H2 s2 e2 => ?_)
    · have h12 : door = 1 ∨ door = 2 := by simpa using hb
      have s02 := s1.trans s2
      have L2 := L.grow s02
      obtain ⟨vg, g1, g2⟩ := e2.get (i := 2) rfl
      refine (ev_eqN (ev_var (i := 1) rfl) 1) _ H2 e2 _ fun H3 s3 => ?_
      have e3 := e2.mono s3
      have s03 := s02.trans s3
      rcases h12 with h1 | h1
      · rw [if_pos (decide_eq_true h1)]
        obtain ⟨i, j, p, c, d, z0, z1, z2, hc, hd, hk, hx⟩ : ∃ (i j p : Nat) (c d : Spec.Change), args[0]? = some (.num (some (i : Int))) ∧ args[1]? = some (.num (some (j : Int))) ∧ args[2]? = some (.num (some (p : Int))) ∧ bs.getD i none = some c ∧ bs.getD j none = some d ∧
            (∀ e, Spec.chainFn c d = .ok e → bs' = bs.set p (some e) ∧ r = .ok (.tup [.v (.int 0)])) ∧ (∀ e, Spec.chainFn c d = .error e → r = .error (errOf e)) := by
          cases pc with
          | folErr z0 z1 z2 hc hd h3 => exact ⟨_, _, _, _, _, z0, z1, z2, hc, hd, fun c hc => (by rw [h3] at hc; cases hc), fun e he => (by rw [h3] at he; cases he; rfl)⟩
          | folOk z0 z1 z2 hc hd h3 => exact ⟨_, _, _, _, _, z0, z1, z2, hc, hd, fun c hc => (by rw [h3] at hc; cases hc; exact ⟨rfl, rfl⟩), fun e he => (by rw [h3] at he; cases he)⟩
          | _ => omega
        refine lib_meth e3 rfl (by decide +kernel) fun a' _ ra' => ⟨_, g1, a', vg, q, bs, m, args, i, j, p, c, d, rfl, ra', L.grow s03, hm, g2.mono s3, z0, z1, z2, hc, hd, fun e he v H4 s4 L4 r4 => ?_, fun er he b H4 s4 xe => ?_⟩
        · obtain ⟨w1, w2⟩ := hk e he
          subst w1
          exact k _ w2 v H4 ((hid_mono s03).trans s4) L4 r4
        · exact x _ (hx er he) b H4 (s03.trans s4) xe
      · rw [if_neg (by rw [h1]; decide)]
        obtain ⟨i, p, c, z0, z1, hc, hk, hx⟩ : ∃ (i p : Nat) (c : Spec.Change), args[0]? = some (.num (some (i : Int))) ∧ args[1]? = some (.num (some (p : Int))) ∧ bs.getD i none = some c ∧
            (Spec.isLossless c = true → bs' = bs.set p (some (Spec.backOf c)) ∧ r = .ok (tellD true)) ∧ (Spec.isLossless c = false → bs' = bs ∧ r = .ok (tellD false)) := by
          cases pc with
          | backYes z0 z1 hc h3 => exact ⟨_, _, _, z0, z1, hc, fun _ => ⟨rfl, rfl⟩, fun h => (by rw [h3] at h; cases h)⟩
          | backNo z0 z1 hc h3 => exact ⟨_, _, _, z0, z1, hc, fun h => (by rw [h3] at h; cases h), fun _ => ⟨rfl, rfl⟩⟩
          | _ => omega
        refine lib_meth e3 rfl (by decide +kernel) fun a' _ ra' => ⟨_, g1, a', vg, q, bs, m, args, i, p, c, rfl, ra', L.grow s03, hm, g2.mono s3, z0, z1, hc, fun he v H4 s4 L4 r4 => ?_, fun he v H4 s4 L4 r4 => ?_⟩
        · obtain ⟨w1, w2⟩ := hk he
          subst w1
          exact k _ w2 v H4 ((hid_mono s03).trans s4) L4 r4
        · obtain ⟨w1, w2⟩ := hx he
          subst w1
          exact k _ w2 v H4 ((hid_mono s03).trans s4) L4 r4
    have n12 : ¬ door = 1 ∧ ¬ door = 2 := by simpa using hb12
    -- doors 12 to 14
    try dsimp only [tNext]
    refine s_seq (s_if e2 (b := decide (12 ≤ door) && decide (door ≤ 14)) ?_ (fun hb H3 s3 e3 => ?_) fun hb14 H3 s3 e3 => ?_)
    · refine (ev_test (ev_chain ev_c (ev_var (i := 1) rfl) ev_c rv_le rv_le)).to ?_
      have q1 : decide ((12 : Int) ≤ ((door : Nat) : Int)) = decide (12 ≤ door) := decide_eq_decide.mpr (by omega)
      have q2 : decide (((door : Nat) : Int) ≤ (14 : Int)) = decide (door ≤ 14) := decide_eq_decide.mpr (by omega)
      rw [q1, q2]
    · have h14 := Bool.and_eq_true_iff.mp hb
      have h1 := of_decide_eq_true h14.1
      have h2 := of_decide_eq_true h14.2
      obtain ⟨px, py, pz, z0, z1, z2, hr0, hb0⟩ : ∃ (px py pz : Spec.Plain), args[0]? = some px ∧ args[1]? = some py ∧ args[2]? = some pz ∧ r = onTR door px py pz ∧ bs' = bs := by
        cases pc with
        | tags z0 z1 z2 _ _ => exact ⟨_, _, _, z0, z1, z2, rfl, rfl⟩
        | _ => omega
      subst hr0
      subst hb0
      have s03 := (s1.trans s2).trans s3
      try dsimp only
      exact s_retX e3 (ev_callX (C := A.rf) (R := R_on_tags) (ev_cons (ev_var (i := 1) rfl) (ev_cons (ev_var (i := 2) rfl) ev_nil)) ⟨args, px, py, pz, door, rfl, z0, z1, z2, h1, h2, rfl⟩) (fun d hd v H4 s4 r4 => k d hd v H4 (hid_mono (s03.trans s4)) (L.grow (s03.trans s4)).more r4) fun er he b H4 s4 xe => x er he b H4 (s03.trans s4) xe
    have n14 : ¬ (12 ≤ door ∧ door ≤ 14) := fun h => by
      rw [decide_eq_true h.1, decide_eq_true h.2] at hb14
      cases hb14
    -- a call on a change
    obtain ⟨i, c, z0, hc, hbs⟩ : ∃ (i : Nat) (c : Spec.Change), args[0]? = some (.num (some (i : Int))) ∧ bs.getD i none = some c ∧ bs' = bs := by
      cases pc with
      | value z0 hc => exact ⟨_, _, z0, hc, rfl⟩
      | defs z0 hc => exact ⟨_, _, z0, hc, rfl⟩
      | applyErr z0 _ hc _ => exact ⟨_, _, z0, hc, rfl⟩
      | applyOk z0 _ hc _ => exact ⟨_, _, z0, hc, rfl⟩
      | filter z0 _ hc _ _ => exact ⟨_, _, z0, hc, rfl⟩
      | less z0 hc => exact ⟨_, _, z0, hc, rfl⟩
      | lost z0 hc => exact ⟨_, _, z0, hc, rfl⟩
      | _ => omega
    have kk : ∀ d, r = .ok d → ∀ v H', Same (hid q H) (hid q H') → LibS K A q bs (m + 1) H' → Rp K H' v d → Q v H' := fun d hd v H' s l => k d hd v H' s (by rw [hbs]; exact l)
    have s03 := (s1.trans s2).trans s3
    try dsimp only [tNext]
    refine s_seq (s_dget T e3 (L.grow s03) rfl (ev_num (x := .undef) (ev_var (i := 2) rfl) z0) hc fun σ4 H4 s4 e4 gc => ?_)
    have s04 := s03.trans s4
    have he15 : errOf Spec.noChange = (1, Str.ofString "other must be a Change") := by
      rw [show Spec.noChange = ⟨.typeError, Spec.units "other must be a Change"⟩ from rfl, err_lit (by decide +kernel)]
      rfl
    try dsimp only [tNext]
    refine s_seq (s_dropX e4 (ev_refuse (b := decide (door = 15)) (ev_cons ((ev_op (ev_var (i := 1) rfl) ev_c rv_eqI).to (by congr 2; exact decide_eq_decide.mpr (by omega))) (ev_cons ev_c ev_nil))) (fun d hd H5 s5 e5 => ?_) fun er he b H5 s5 xe => ?er1)
    case er1 =>
      by_cases h15 : door = 15
      · rw [if_pos (decide_eq_true h15)] at he
        cases he
        refine x _ ?_ b H5 (s04.trans s5) xe
        cases pc with
        | value _ _ => rw [he15]
        | _ => omega
      · rw [if_neg (by rw [decide_eq_false h15]; decide)] at he
        cases he
    have n15 : door ≠ 15 := fun h15 => by
      rw [if_pos (decide_eq_true h15)] at hd
      cases hd
    have s05 := s04.trans s5
    -- doors 3, 4
    try dsimp only [tNext]
    refine s_seq (s_if e5 (ev_or (ev_eqN (ev_var (i := 1) rfl) 3) fun _ => ev_eqN (ev_var (i := 1) rfl) 4) (fun hb H6 s6 e6 => ?_) fun hb34 H6 s6 e6 => ?_)
    · have h34 : door = 3 ∨ door = 4 := by simpa using hb
      try dsimp only [tNext]
      refine s_seq (s_if e6 (ev_eqN (ev_var (i := 1) rfl) 3) (fun hb H7 s7 e7 => ?_) fun hb3 H7 s7 e7 => ?_)
      · have h3 := of_decide_eq_true hb
        have hr0 : r = .ok (defsD c) := by
          cases pc with
          | defs y0 yc =>
            have ei := z0.symm.trans y0
            simp only [Option.some.injEq, Spec.Plain.num.injEq] at ei
            have ei2 := Int.ofNat.inj ei
            subst ei2
            rw [hc] at yc
            cases yc
            rfl
          | _ => omega
        try dsimp only
        exact s_ret e7 (ev_call (R := R_defs A) (ev_cons (ev_var (i := 3) rfl) ev_nil) ⟨c, rfl, gc, rfl⟩) fun v H8 s8 r8 => kk _ hr0 v H8 (hid_mono (((s05.trans s6).trans s7).trans s8)) (L.grow (((s05.trans s6).trans s7).trans s8)).more r8
      · have h4 : door = 4 := by
          have := of_decide_eq_false hb3
          omega
        obtain ⟨py, y1, hr1, hr2⟩ : ∃ py, args[1]? = some py ∧ (Spec.itemIn c.old py = none → r = .error (errOf Spec.noItem)) ∧ (∀ l, Spec.itemIn c.old py = some l → r = .ok (itemD (Spec.newTags c) (Spec.imageOf c (Spec.maskOf c.old l)))) := by
          cases pc with
          | applyErr y0 y1 yc hn =>
            have ei := z0.symm.trans y0
            simp only [Option.some.injEq, Spec.Plain.num.injEq] at ei
            have ei2 := Int.ofNat.inj ei
            subst ei2
            rw [hc] at yc
            cases yc
            exact ⟨_, y1, fun _ => rfl, fun l hl => (by rw [hn] at hl; cases hl)⟩
          | applyOk y0 y1 yc hn =>
            have ei := z0.symm.trans y0
            simp only [Option.some.injEq, Spec.Plain.num.injEq] at ei
            have ei2 := Int.ofNat.inj ei
            subst ei2
            rw [hc] at yc
            cases yc
            exact ⟨_, y1, fun hl => (by rw [hn] at hl; cases hl), fun l hl => (by rw [hn] at hl; cases hl; rfl)⟩
          | _ => omega
        try dsimp only
        have hin : EvX K A.rf E (tOp (rIx K) (tFld K (tVar 3) "made") (tCall (MaySp K A.rf R_item_of) [] E (tCons (tOp (rIx K) (tVar 2) (tC (.int 1))) (tCons (tFld K (tVar 3) "old_tags") tNil)))) [some (libD A q), some (.v (.int (door : Nat))), some (.lst (args.map plD)), some (chDat A c)] ((itemR c.old py).map fun d => match d with
            | .v (.int i) => .v (.int (Spec.imageOf c i.toNat : Nat))
            | d => d) := by
          refine ev_opX (cf_made (i := 3) T rfl) (ev_callX (ev_cons (ev_given (i := 1) (ev_var (i := 2) rfl) y1) (ev_cons (cf_old (i := 3) T rfl) ev_nil)) ⟨py, c.old, rfl, gc.o, rfl⟩) fun d hd => ?_
          unfold itemR at hd
          cases hi : Spec.itemIn c.old py with
          | none =>
            rw [hi] at hd
            cases hd
          | some l =>
            rw [hi] at hd
            cases hd
            have hlt : Spec.maskOf c.old l < 2 ^ c.old.length := by
              have := bits_lt (c.old.map l.contains)
              rw [List.length_map] at this
              exact this
            have e0 : ((Spec.maskOf c.old l : Nat) : Int).toNat = Spec.maskOf c.old l := Int.toNat_natCast _
            refine rv_ixL (by omega) ?_
            rw [e0]
            exact made_at hlt
        refine s_retX e7 (ev_callX1 (R := R_told_item) (f := fun d => match d with
            | .v (.int i) => itemD (Spec.newTags c) i.toNat
            | d => d) hin (ev_cons (cf_new (i := 3) T rfl) ev_nil) fun d hd => ?_) (fun d hd v H8 s8 r8 => ?_) fun er he b H8 s8 xe => ?_
        · unfold itemR at hd
          cases hi : Spec.itemIn c.old py with
          | none =>
            rw [hi] at hd
            cases hd
          | some l =>
            rw [hi] at hd
            cases hd
            have e0 : ((Spec.imageOf c (((Spec.maskOf c.old l : Nat) : Int).toNat) : Nat) : Int).toNat = Spec.imageOf c (Spec.maskOf c.old l) := by rw [Int.toNat_natCast, Int.toNat_natCast]
            refine ⟨Spec.imageOf c (Spec.maskOf c.old l), Spec.newTags c, ?_, by rw [newLen]; exact gc.n, ?_⟩
            · show [Dat.v (.int (Spec.imageOf c (((Spec.maskOf c.old l : Nat) : Int).toNat) : Nat)), _] = _
              rw [Int.toNat_natCast]
            · show itemD (Spec.newTags c) (((Spec.imageOf c (((Spec.maskOf c.old l : Nat) : Int).toNat) : Nat) : Int).toNat) = _
              rw [e0]
              rfl
        · unfold itemR at hd
          cases hi : Spec.itemIn c.old py with
          | none =>
            rw [hi] at hd
            cases hd
          | some l =>
            rw [hi] at hd
            cases hd
            refine kk _ (hr2 l hi) v H8 (hid_mono (((s05.trans s6).trans s7).trans s8)) (L.grow (((s05.trans s6).trans s7).trans s8)).more ?_
            have e0 : ((Spec.imageOf c (((Spec.maskOf c.old l : Nat) : Int).toNat) : Nat) : Int).toNat = Spec.imageOf c (Spec.maskOf c.old l) := by rw [Int.toNat_natCast, Int.toNat_natCast]
            rw [← e0]
            exact r8
        · unfold itemR at he
          cases hi : Spec.itemIn c.old py with
          | some l =>
            rw [hi] at he
            cases he
          | none =>
            rw [hi] at he
            cases he
            exact x _ (hr1 hi) b H8 (((s05.trans s6).trans s7).trans s8) xe
    have n34 : ¬ door = 3 ∧ ¬ door = 4 := by simpa using hb34
    -- doors below 10
    try dsimp only [tNext]
    refine s_seq (s_if e6 (b := decide (door < 10)) ((ev_test (ev_op (ev_var (i := 1) rfl) ev_c rv_lt)).to (decide_eq_decide.mpr (by omega))) (fun hb H7 s7 e7 => ?_) fun hb10 H7 s7 e7 => ?_)
    · have h10 := of_decide_eq_true hb
      obtain ⟨py, y1, h5, h9, hr0⟩ : ∃ py, args[1]? = some py ∧ 5 ≤ door ∧ door ≤ 9 ∧ r = onR c door py := by
        cases pc with
        | filter y0 y1 yc h5 h9 =>
          have ei := z0.symm.trans y0
          simp only [Option.some.injEq, Spec.Plain.num.injEq] at ei
          have ei2 := Int.ofNat.inj ei
          subst ei2
          rw [hc] at yc
          cases yc
          exact ⟨_, y1, h5, h9, rfl⟩
        | _ => omega
      subst hr0
      have s07 := (s05.trans s6).trans s7
      try dsimp only
      exact s_retX e7 (ev_callX (C := A.rf) (R := R_on_filter A) (ev_cons (ev_var (i := 3) rfl) (ev_cons (ev_var (i := 1) rfl) (ev_cons (ev_given (i := 1) (ev_var (i := 2) rfl) y1) ev_nil))) ⟨c, py, door, rfl, h5, h9, gc, rfl⟩) (fun d hd v H8 s8 r8 => kk d hd v H8 (hid_mono (s07.trans s8)) (L.grow (s07.trans s8)).more r8) fun er he b H8 s8 xe => x er he b H8 (s07.trans s8) xe
    have n10 := of_decide_eq_false hb10
    have s07 := (s05.trans s6).trans s7
    have hr0 : r = .ok (if door = 10 then tellD (Spec.isLossless c) else lostD c) := by
      cases pc with
      | less y0 yc =>
        have ei := z0.symm.trans y0
        simp only [Option.some.injEq, Spec.Plain.num.injEq] at ei
        have ei2 := Int.ofNat.inj ei
        subst ei2
        rw [hc] at yc
        cases yc
        rfl
      | lost y0 yc =>
        have ei := z0.symm.trans y0
        simp only [Option.some.injEq, Spec.Plain.num.injEq] at ei
        have ei2 := Int.ofNat.inj ei
        subst ei2
        rw [hc] at yc
        cases yc
        rfl
      | _ => omega
    try dsimp only [tNext]
    refine s_ret e7 (ev_if (ev_eqN (ev_var (i := 1) rfl) 10) (fun hb => ?_) fun hb => ?_) fun v H8 s8 r8 => kk _ hr0 v H8 (hid_mono (s07.trans s8)) (L.grow (s07.trans s8)).more r8
    · rw [if_pos (of_decide_eq_true hb)]
      refine ev_call (R := R_truth) (ev_cons (ev_meth (R := R_lossless A) (gs := chG c.old (Spec.newTags c) (Spec.imageOf c)) (ev_var (i := 3) rfl) (ch_no (by decide +kernel) (by decide +kernel) (by decide +kernel)) ev_nil ⟨c.old, Spec.newTags c, Spec.imageOf c, rfl, gc.o, rfl⟩) ev_nil) ⟨Spec.isLossless c, by rw [lossless_eq], rfl⟩
    · rw [if_neg (of_decide_eq_false hb)]
      exact ev_call (R := R_lost A) (ev_cons (ev_var (i := 3) rfl) ev_nil) ⟨c, rfl, gc, rfl⟩
end
end Tg
end

section
set_option Elab.async false
set_option linter.all false
set_option maxRecDepth 100000
set_option maxHeartbeats 2000000
/-! A comprehension over a text while an exception is handled. -/
namespace Tg
open PySem PySem.Spec PyProof.Rows L2
section
variable {prog : Program} {w : World} {A : Around} {E : Value → Shared → Prop} {s : Shared}
/-- the text is walked to its end, the handled exception standing by -/
theorem asc_end {itr ex : Addr} {z : Str} {tk : Tok} {k : Nat} {Q : Option Value → Shared → Prop} (hot : HotX.HotAt A ex s.heap) (st : s.heap.IsStrIter itr "str_ascii_iterator" z tk k) (out : z.cps[k]? = none)
    (q : ∀ h', (∀ b o, b ≠ itr → s.heap.get? b = some o → h'.get? b = some o) → Q none { s with heap := h' }) : wpAny (model prog w) A (pyNext (.ref itr)) Q E s := by
  obtain ⟨ob, hob, hcl, hda⟩ := id st
  obtain ⟨hh, oe, fe, he, hfe, hctx⟩ := hot
  have far : ex ≠ itr := fun c => by
    rw [c, hob] at he
    cases he
    rw [hda] at hfe
    cases hfe
    simp at hctx
  unfold pyNext
  refine wpAny_bind (wpAny_attempt (wpAny_callSpecial?_slot (name := Str.ofString "__next__") st.typeIs F.slot_str_ascii_iterator_next (wpAny_call_entry F.slot_str_ascii_iterator_next st.typeIs F.entry_str_ascii_iterator_next ?_ (F.args_str_ascii_iterator_next_1 _))))
  refine (show wpAny _ _ (field (.ref itr) 0 >>= _) _ _ s from wpAny_bind (wpAny_field hob hda (x := .str z tk) rfl ?_))
  refine (show wpAny _ _ (field (.ref itr) 1 >>= _) _ _ s from wpAny_bind (wpAny_field hob hda (x := .int k 0) rfl ?_))
  simp only [Int.toNat_natCast, out]
  refine wpAny_bind (wpAny_rule (wpAny_bind (wpAny_setField hob hda (by simp) (wpAny_bind (wpAny_letGo ?_)))))
  refine (show wpAny _ _ (newExc (.type "StopIteration") [] >>= _) _ _ _ from wpAny_bind ?_)
  simp only [newExc, newTuple]; refine wpAny_bind (wpAny_newObj_type ?_ (by size_fits))
  refine wpAny_bind (m := firstArgMember _ _) (wpAny_of_eq (a := Value.none) (by first | rfl | (simp only [firstArgMember]; rfl)) (wpAny_newObj_type ?_ (by size_fits)))
  have keep1 : ∀ (b : Addr) (o : Obj) (f : Obj → Obj), b ≠ itr → s.heap.get? b = some o → (s.heap.update itr f).get? b = some o := fun b o f hb e => by
    rw [Heap.get?_update_other _ _ (Ne.symm hb)]
    exact e
  refine HotX.raiseNew_hot ⟨hh, oe, fe, Heap.get?_push_of_some _ (Heap.get?_push_of_some _ (keep1 ex oe _ far he)), hfe, hctx⟩ (Nat.ne_of_lt (Heap.lt_size (Heap.get?_push_of_some _ (keep1 ex oe _ far he)))) (Heap.get?_push_size _ rfl) rfl (by first | (simp; done) | (simp; omega) | (simp only [Array.size_append]; simp; omega)) ?_
  refine wpAny_bind (wpAny_isInstance (T := "StopIteration") (b := true) ⟨_, Heap.get?_update_self _ (Heap.get?_push_size _ rfl) rfl, rfl⟩ isSubtype_stop (wpAny_pure (q _ fun b o hb e => ?_)))
  rw [Heap.get?_update_other _ _ (Nat.ne_of_gt (Heap.lt_size (Heap.get?_push_of_some _ (keep1 b o _ hb e))))]; exact Heap.get?_push_of_some _ (Heap.get?_push_of_some _ (keep1 b o _ hb e))
end
/-- [elt for name in text], an exception being handled: what it asks -/
def tAsc (te : TE) (g : TG) (tel : TE) (vs : List Nat) : TE := fun σ H Q => te σ H fun v H1 => ∃ z : Str, v = .str z ∧ z.cps.all (· < 128) = true ∧ ∀ L, H1 L = none → ∃ Pv : Nat → Hp → Prop, Pv 0 (upd H1 L (.lst [])) ∧
  (∀ k c H, z.cps[k]? = some c → Pv k H → g (.str ⟨#[c]⟩) (wipe σ vs) H fun σ2 H2 => wipe σ2 vs = wipe σ vs ∧ tel σ2 H2 fun y H4 => ∃ acc, H4 L = some (.lst acc) ∧ acc.length < sizeLine ∧ Pv (k + 1) (upd H4 L (.lst (acc ++ [y])))) ∧ ∀ H, Pv z.cps.size H → Q (.ref L) H
section
variable {X : Cx}
theorem pe_asc {elt tg iter : Expr} {scope : Scope} {own : List (Str × Nat)} {pos : Pos} {te tel : TE} {g : TG} (hot : L2H.HotC X) (nd : X.N.Nodup) (src : PE X iter te) (bk : BlkOk X.N X.env.scope scope own)
    (pgs : ∀ (s : Shared) (H : Hp) (C : Addr) (cl : List (Str × Addr)) (fp : List Addr), PG (X.blk s H scope (compEnvC scope cl C X.env) fp) tg g) (pes : ∀ (s : Shared) (H : Hp) (C : Addr) (cl : List (Str × Addr)) (fp : List Addr), PE (X.blk s H scope (compEnvC scope cl C X.env) fp) elt tel)
    (fold : ∀ x, foldedSetIterable iter X.env x = pure x := by intro _; rfl) : PE X (.ListComp elt [⟨tg, iter, [], 0⟩] scope pos) (tAsc te g tel (own.map (·.2))) := by
  refine ⟨fun pins s σ H Q I h => ?_⟩
  rw [eval_ListComp]
  have frees : ∀ y ∈ scope.names, y.2 = .free → ∃ c, X.env.cells.lookup y.1 = some c := fun y hy e => (bk.free y hy e).elim (fun k => I.ok.has _ (.inl k)) fun k => I.ok.has _ (.inr k)
  refine wpAny_comprehension_free (use := none) rfl fold (closure_ok frees) bk.kind (fun y hy e => by rw [bk.uniq y hy, e]) (thn (src.run pins s σ H _ I h) fun xv s1 hx => ?_)
  obtain ⟨v, H1, I1, rv, z, ez, za, rest⟩ := hx
  subst ez
  obtain ⟨t, rfl⟩ := rv
  refine wpAny_pyIter_ascii za ?_
  have I2 : Inv X pins σ H1 { s1 with heap := s1.heap.push { cls := .type "str_ascii_iterator", data := .fields #[.str z t, .int 0 0] } } := I1.kept fun b ob e => Heap.get?_push_of_some _ e
  have ok2 : FpOk X pins H1 s1.heap.objs.size := I1.fpOk (Nat.le_refl _) (I1.hok.fresh (Nat.le_refl _))
  have st2 : (s1.heap.push { cls := .type "str_ascii_iterator", data := .fields #[.str z t, .int 0 0] }).IsStrIter s1.heap.objs.size "str_ascii_iterator" z t 0 := ⟨_, Heap.get?_push_size _ rfl, rfl, rfl⟩
  have lt2 := Heap.lt_size (Heap.get?_push_size s1.heap (o := { cls := .type "str_ascii_iterator", data := .fields #[.str z t, .int 0 0] }) rfl)
  generalize hit : s1.heap.objs.size = itr at ok2 st2 lt2 ⊢
  generalize hs2 : ({ s1 with heap := s1.heap.push { cls := .type "str_ascii_iterator", data := .fields #[.str z t, .int 0 0] } } : Shared) = s2 at I2 ⊢
  have e2 : s2.heap = s1.heap.push { cls := .type "str_ascii_iterator", data := .fields #[.str z t, .int 0 0] } := by rw [← hs2]
  rw [← e2] at st2 lt2
  refine wpAny_newObj_type (newEnv_comp ?_) (by show 0 ≤ sizeLine; decide)
  generalize hL : s2.heap.objs.size = L
  have freeL : H1 L = none := I2.hok.fresh (Nat.le_of_eq hL)
  obtain ⟨Pv, p0, step, last⟩ := rest L freeL
  generalize hs3 : ({ s2 with heap := s2.heap.push { cls := .type "list", data := .seq ([] : List Value).toArray } } : Shared) = s3
  have e3 : s3.heap = s2.heap.push { cls := .type "list", data := .seq ([] : List Value).toArray } := by rw [← hs3]
  have I3 : Inv X pins σ (upd H1 L (.lst [])) s3 := by
    rw [← hs3]; refine I2.laid (t' := s2.toks) (fun b o e => Heap.get?_push_of_some _ e) (Nat.le_of_eq hL) ⟨Nat.zero_le _, [], 0, .nil, ?_⟩
    rw [← hL]; exact Heap.get?_push_size _ rfl
  have neL : itr ≠ L := by rw [← hL]; exact Nat.ne_of_lt lt2
  have ok3 : FpOk X pins (upd H1 L (.lst [])) itr := ⟨(upd_ne neL).trans ok2.1, ok2.2⟩
  have st3 : s3.heap.IsStrIter itr "str_ascii_iterator" z t 0 := by
    obtain ⟨o, h1, h2⟩ := st2
    exact ⟨o, by rw [e3]; exact Heap.get?_push_of_some _ h1, h2⟩
  have lt3 : itr < s3.heap.objs.size := by rw [e3, Heap.size_push]; exact Nat.lt_succ_of_lt lt2
  have I4 := block_start (fp := [itr]) I3 bk nd fun b hb => by
    have eb : b = itr := by simpa using hb
    rw [eb]; exact ⟨ok3, lt3⟩
  have pg := pgs s3 (upd H1 L (.lst [])) s3.heap.objs.size (cellsFrom (s3.heap.objs.size + 1) scope.names (cloFrom X.env.cells scope.names [])) [itr]
  have pe := pes s3 (upd H1 L (.lst [])) s3.heap.objs.size (cellsFrom (s3.heap.objs.size + 1) scope.names (cloFrom X.env.cells scope.names [])) [itr]
  show codeAny _ _ (.compStart (.ListComp elt [⟨tg, iter, [], 0⟩] scope pos) 0 (.ref itr) (.ref L) (compEnvC scope (cellsFrom (s3.heap.objs.size + 1) scope.names (cloFrom X.env.cells scope.names [])) s3.heap.objs.size X.env)) (compPost (model X.prog X.w) X.A X.xe none (EP X pins σ Q) (.ref L) s3.heap.objs.size) { s3 with heap := pushCells (s3.heap.push { cls := .type "dict", data := .dict #[] }) scope.names }
  generalize hbe : compEnvC scope (cellsFrom (s3.heap.objs.size + 1) scope.names (cloFrom X.env.cells scope.names [])) s3.heap.objs.size X.env = be at I4 pg pe ⊢
  have beL : be.locals = s3.heap.objs.size := by subst hbe; rfl
  generalize hH3 : upd H1 L (.lst []) = H3 at I3 I4 pg pe p0 ok3
  generalize hs4 : ({ s3 with heap := pushCells (s3.heap.push { cls := .type "dict", data := .dict #[] }) scope.names } : Shared) = s4 at I4 ⊢
  have st4 : s4.heap.IsStrIter itr "str_ascii_iterator" z t 0 := by
    obtain ⟨o, h1, h2⟩ := st3
    exact ⟨o, by rw [← hs4]; exact pushCells_keeps _ _ _ _ (Heap.get?_push_of_some _ h1), h2⟩
  -- the handled exception stands throughout
  obtain ⟨pe0, ⟨hh, fe, hfe, hctx⟩, hpe0⟩ := hot
  have P3 := I3.pin pe0 (List.mem_append_left _ hpe0)
  have far : pe0.1 ≠ itr := ok3.2.2.2.2.2 pe0 (List.mem_append_left _ hpe0)
  have hotAt : ∀ {σ' : L2.St} {H' : Hp} {s' : Shared} {pl : List (Addr × Obj)}, Inv (X.blk s3 H3 scope be [itr]) pl σ' H' s' → HotX.HotAt X.A pe0.1 s'.heap := fun {σ' H' s' pl} I' =>
    ⟨hh, pe0.2, fe, I'.base.keep pe0.1 pe0.2 P3.1 P3.2.1 (fun hm => (List.mem_cons.mp (I3.stkSub pe0.1 hm)).elim P3.2.2.1 P3.2.2.2.1) (by simpa using far), hfe, hctx⟩
  have okB : ∀ {σ' : L2.St} {H' : Hp} {s' : Shared}, Inv (X.blk s3 H3 scope be [itr]) [] σ' H' s' → H' itr = none → FpOk (X.blk s3 H3 scope be [itr]) [] H' itr := fun {σ' H' s'} I' hn =>
    ⟨hn, (I'.ok.exf itr (by simp)).1, I'.ok.exfs itr (by simp), .inl (by simp), fun x c e => (I'.ok.exf itr (by simp)).2 x c e, fun p hp => absurd hp (by simp)⟩
  have main : codeAny (model X.prog X.w) X.A (.compLoop (.ListComp elt [⟨tg, iter, [], 0⟩] scope pos) 0 (.ref itr) (.ref L) be) (compPost (model X.prog X.w) X.A X.xe none (EP X pins σ Q) (.ref L) s3.heap.objs.size) s4 := by
    refine compLoop_any (fun n s' => ∃ k H', n = z.cps.size - k ∧ k ≤ z.cps.size ∧ Inv (X.blk s3 H3 scope be [itr]) [] (wipe σ (own.map (·.2))) H' s' ∧ s'.heap.IsStrIter itr "str_ascii_iterator" z t k ∧ H' itr = none ∧ Pv k H') ?_ z.cps.size ⟨0, H3, by simp, Nat.zero_le _, I4, st4, ok3.1, p0⟩
    rintro n s5 ⟨k, H5, rfl, hk, I5, st5, n5, w5⟩
    obtain ⟨f0, f1, f2, f3, f4, f5⟩ := okB I5 n5
    by_cases hlt : k < z.cps.size
    · have hx : z.cps[k]? = some z.cps[k] := Array.getElem?_eq_getElem hlt
      refine wpAny_pyNext_ascii_item st5 hx fun h' st' sb => ?_
      have I6 : Inv (X.blk s3 H3 scope be [itr]) [] (wipe σ (own.map (·.2))) H5 { s5 with heap := h', toks := s5.toks + 1 } := I5.turned (fun b o hb e => (sb.2 b hb).trans e) f0 f1 f3 f4 f5
      obtain ⟨oi, ho, hc, hd⟩ := id st'
      refine go_of (s := { s5 with heap := h', toks := s5.toks + 1 }) ho hc hd (by decide) ?_
      have I7 := I6.pinned (fp := [itr]) (fun b hb => by
        have eb : b = itr := by simpa using hb
        rw [eb]; exact okB I6 n5) fun b hb => by
        have eb : b = itr := by simpa using hb
        rw [eb]; exact ⟨oi, ho, fun v q => by rw [hd] at q; cases q⟩
      refine thnF (pg.run _ _ _ H5 (.str ⟨#[z.cps[k]]⟩) _ _ I7 ⟨_, rfl⟩ (step k _ H5 hx w5)) fun _ s8 ⟨σ8, H8, I8, hw8, q8⟩ => wpAny_tests_nil ?_
      rw [if_pos rfl]
      refine thnF (pe.run _ s8 σ8 H8 _ I8 q8) fun y s9 ⟨yv, H9, I9, r9, acc, hL9, hz9, nx⟩ => app_ok (X := X.blk s3 H3 scope be [itr]) I9 hL9 hz9 r9 fun s10 I10 => ?_
      have pin := I10.pin (itr, oi) (List.mem_append_right _ (List.mem_append_right _ (mem_pinsAt (by simp) ho)))
      refine ⟨z.cps.size - (k + 1), by omega, k + 1, _, rfl, hlt, (I10.unpinned (pins := [])).weak (by rw [← hw8, wipe_length]) (fun j v e => ?_), ⟨oi, pin.1, hc, hd⟩, pin.2.1, nx⟩
      rw [← hw8] at e; exact (wipe_some e).1
    · have ek : k = z.cps.size := by omega
      subst ek
      refine asc_end (hotAt I5) st5 (Array.getElem?_eq_none (Nat.le_refl _)) fun h' kp => ?_
      have I6 : Inv (X.blk s3 H3 scope be [itr]) [] (wipe σ (own.map (·.2))) H5 { s5 with heap := h' } := I5.turned (t' := s5.toks) (fun b o hb e => kp b o hb e) f0 f1 f3 f4 f5
      have I7 : Inv X pins σ H5 { s5 with heap := h' } := I3.call' (ch := [itr]) I6.os I6.base I6.hok I6.bare fun b hb => by
        have eb : b = itr := by simpa using hb
        rw [eb]; exact ⟨ok3.2.2.2.1, ok3.2.1, ok3.2.2.2.2.1, ok3.2.2.2.2.2⟩
      have nC : H5 s3.heap.objs.size = none := beL ▸ I6.free
      obtain ⟨m, hn, _⟩ := I6.loc
      have hn : h'.Ns be.locals m := hn
      rw [beL] at hn
      obtain ⟨g0, g1, g2, g3, g4, g5⟩ := I3.fpOk (H' := H5) (Nat.le_refl _) nC
      exact ⟨m, hn, fun h'' sb => ⟨.ref L, H5, I7.turned (t' := s5.toks) (fun b o hb e => (sb.2 b hb).trans e) g0 g1 g3 g4 g5, rfl, last H5 w5⟩⟩
  exact codeAny_compStart_list main (wpAny_pyIter_striter_ascii st4 main)
end
end Tg
end

section
set_option Elab.async false
set_option linter.all false
set_option maxRecDepth 100000
set_option maxHeartbeats 2000000
/-! Defs called while an exception is handled. -/
namespace Tg
open PySem PySem.Spec PyProof.Rows L2
/-- a def that may be called within an except suite -/
structure ClH (P : Program) (w : World) (K : PySem.W.Frag) (mg : Str → Option Value) (base : Heap) (k : Nat) (x : Str) (sp : Sp) : Prop where
  ex : ∃ (f : Addr) (fd : FuncData) (ps : List Str), L2H.FnH P w K mg base CX0 k f fd ps sp ∧ mg x = some (.ref f) ∧ PySem.W.keepIn K (.ref f) = true ∧ Binds K fd ps []
section
variable {P : Program} {w : World} {K : PySem.W.Frag} {mg : Str → Option Value} {base : Heap} {A : Ad} {f : Addr} {fd : FuncData} {ρ : List (Option Dat)}
theorem okH {x : Str} {st : Stmt} {ps N : List Str} {k : Nat} {sp : Sp} (D : Df K mg x st ps f fd) (S : FnScope N ps (defScope st)) (many : ∀ vs H Q E, sp vs H Q E → vs.length = ps.length)
    (go : ∀ (cdv : Value) (B : Around) (outer : List PySem.Env) (s : Shared) (H : Hp) (vs : List V) (Q : VK) (E : XK) (p : Addr × Obj), L2H.HotC (L2H.cxH CX0 P w K mg base N x (defScope st) f cdv B outer s H E p).nox → sp vs H Q E →
      ∃ t, PSs (L2H.cxH CX0 P w K mg base N x (defScope st) f cdv B outer s H E p).nox (defBody st) t ∧ t { nx := fun _ H' => Q .non H', rt := Q } (L2.start N vs) H) : ClH P w K mg base (k + 1) x sp := by
  obtain ⟨oc, od, kV, doc, pm, an, cdv, ct, osl, rfl, at_, code⟩ := D.fn.ex
  refine ⟨f, _, ps, L2H.fn_ofH at_ code S many fun B outer s H vs Q E p hot hr h => ?_, D.mgf, D.fn.kp, D.b⟩
  obtain ⟨t, h1, h2⟩ := go cdv B outer s H vs Q E p ⟨p, ⟨hot.1, hot.2⟩, List.mem_singleton.mpr rfl⟩ h
  exact ⟨t, h1.nox, h2⟩
theorem pe_clH {X : Cx} {k j : Nat} {x : Str} {sp : Sp} {p pos : Pos} {e : Expr} {es : List Expr} {t : TA} (c : ClH X.prog X.w X.K X.mg X.base k x sp) (hr : L2H.RoomH j X.A) (hk : k ≤ j) (hc : L2H.HotC X) (hg : Gl X x) (ha : PA X (e :: es) t)
    (hdb : (x == ("__debug__" : Str)) = false := by decide) (he : starEach (e :: es) X.env = (false, eval e X.env) :: starEach es X.env := by rfl) (hpl : (backTo pos (starEach es X.env)).any (·.1) = false := by rfl) :
    PE X (.Call (.Name x p) (e :: es) [] pos) (tCallS sp (fun _ => E0) t) := by
  obtain ⟨f, fd, ps, F, hm, kp, b⟩ := c.ex
  exact L2H.pe_callH F (hr.mono hk) hc hg hm kp b (fun _ _ _ _ _ _ _ z => z.elim) ha hdb he hpl
theorem ev_callSN {R : List Dat → List Dat → Prop} {ta : TA} {ds es : List Dat} {E : L2.St → XK} (h : EvA K ta ρ ds) (r : R ds es) : EvN K (tCallS (NewSp K R) E ta) ρ es := fun σ H e Q q =>
  h σ H e _ fun vs H1 s1 r1 => ⟨ds, es, r1, r, fun p ws H2 n2 s2 h2 r2 => q p ws H2 (s1.free n2) (s1.trans s2) h2 r2⟩
theorem ev_callSD {R : List Dat → Dat → Prop} {ta : TA} {ds : List Dat} {d : Dat} {E : L2.St → XK} (h : EvA K ta ρ ds) (r : R ds d) : EvD K (tCallS (PureSp K R) E ta) ρ d := fun σ H e Q q =>
  h σ H e _ fun vs H1 s1 r1 => ⟨ds, d, r1, r, fun v H2 s2 r2 => q v H2 (s1.trans s2) r2⟩
theorem yes_get {σ : L2.St} {H : Hp} {A B : Hp → Prop} (h : tYes σ H fun b H3 => if b = true then A H3 else B H3) : A H := by
  have z : (if true = true then A H else B H) := h
  rw [if_pos rfl] at z
  exact z
theorem ev_asc {tl te : TE} {j : Nat} {z : Str} {e : Nat → Dat} (h : EvD K tl ρ (.v (.str z))) (za : z.cps.all (· < 128) = true) (hl : z.cps.size ≤ 1000000) (he : ∀ x, (e x).still = true) (hv : ∀ x, EvD K te (ρ.set j (some (.v (.str ⟨#[x]⟩)))) (e x)) :
    EvN K (tAsc tl (gName j) te [j]) ρ (z.cps.toList.map e) := fun σ H en Q q =>
  h σ H en _ fun v H1 s1 r1 => ⟨z, r1.v_eq, za, fun L hL => by
    refine ⟨fun k H' => Got K H1 L (((z.cps.toList.take k).filter fun _ => true).map e) H', by simpa using Got.zero hL, fun k c H' hc g => ?_, fun H' g => ?_⟩
    · have hc' : z.cps.toList[k]? = some c := by simpa using hc
      have turn := comp_turn (K := K) (tt := tYes) (te := te) (c := fun x => .v (.str ⟨#[x]⟩)) (f := fun _ => true) hc' (by simpa using hl) (en.mono s1) (.v _) g (fun x _ => he x) ev_yes fun _ => hv c
      exact ⟨turn.1, yes_get turn.2⟩
    · exact fin_got (f := fun _ => true) (by simp) g fun p vs H2 n s hp rp => q p vs H2 (s1.free n) (s1.trans s) hp (by rw [filter_yes] at rp; exact rp)⟩
def R_codes (ds : List Dat) (d : Dat) : Prop := ∃ z : Str, ds = [.v (.str z)] ∧ z.cps.all (· < 128) = true ∧ z.cps.size ≤ 1000000 ∧ d = .tup (z.cps.toList.map fun c => .v (.int (c : Nat)))
abbrev s_codes_of : Stmt := top 12
abbrev N_codes_of : List Str := ["text", "sign"]
theorem sc_codes_of : FnScope N_codes_of ["text"] (defScope s_codes_of) :=
  ⟨rfl, rfl, rfl, by decide +kernel, rfl, by decide +kernel, by decide +kernel⟩
theorem ok_codes (D : Df K mg "codes_of" s_codes_of ["text"] f fd) (T : Txt K mg A) : ClH P w K mg base 1 "codes_of" (PureSp K R_codes) := by
  refine okH D sc_codes_of (fun vs H Q E h => ?_) fun cdv B outer s H vs Q E p hot h => ⟨_, (pss_one (ps_ret (pe_callTy (call_tupGK K) (by rfl) T.b_tuple bt_tuple (pa_cons (pe_asc (own := [("sign", 1)]) hot sc_codes_of.nd (pv 0) (blkOk_by (own := [("sign", 1)]) (N := N_codes_of) (sc := defScope s_codes_of) (by decide +kernel)) (fun _ _ _ _ _ => (pg_name (i := 1) sc_codes_of.nd rfl (Or.inl rfl))) (fun _ _ _ _ _ => (pe_callB call_ordG (by rfl) T.b_ord bt_ord (pa_cons (pv 1) pa_nil)))) pa_nil)))), ?_⟩
  · obtain ⟨ds, d, r, ⟨z, rfl, _⟩, _⟩ := h
    exact r.length
  · obtain ⟨ds, d, r, ⟨z, rfl, za, zl, rfl⟩, k⟩ := h
    have e : Env K H (L2.start N_codes_of vs) [some (.v (.str z)), none] := env_begin r
    exact s_ret e (ev_cb (ev_cons (EvN.toD (ev_asc (ev_var rfl) za zl (fun _ => rfl) fun c => ev_cb (ev_cons (ev_var rfl) ev_nil) rc_ord)) ev_nil) rc_tupL) k
theorem ok_low_firstH (D : Df K mg "low_first" s_low_first ["number", "many"] f fd) (T : Txt K mg A) : ClH P w K mg base 1 "low_first" (NewSp K R_low_first) := by
  refine okH D sc_low_first (fun vs H Q E h => ?_) fun cdv B outer s H vs Q E p hot h => ⟨_, (pss_cons (ps_set (i := 2) sc_low_first.nd rfl (Or.inl rfl) (pe_lst pa_nil))
    (pss_cons (L2H.ps_forH PassesOwn.never hot (L2H.pi_range1H rfl T.b_range (pa_cons (pv 1) pa_nil)) (pg_name (i := 3) sc_low_first.nd rfl (Or.inl rfl)) (pss_cons (ps_expr (pe_bmK K PySem.F.plainAttrs_list PySem.F.slot_list_append PySem.F.type_list_append mt_append (pv 2) (pa_cons (pe_op op_md (pv 0) pe_int) pa_nil)))
    (pss_one (ps_set (i := 0) sc_low_first.nd rfl (Or.inl rfl) (pe_op op_fd (pv 0) pe_int)))))
    (pss_one (ps_ret (pv 2))))), ?_⟩
  · obtain ⟨ds, es, r, ⟨n, k, rfl, _⟩, _⟩ := h
    exact r.length
  · obtain ⟨ds, es, r, ⟨n, m, rfl, hm, rfl⟩, k⟩ := h
    have e : Env K H (L2.start N_low_first vs) [some (.v (.int (n : Nat))), some (.v (.int (m : Nat))), none, none] := env_begin r
    refine s_seq (s_asgN e (ev_lst ev_nil) fun p vs H1 np s1 h1 r1 => ?_)
    have a := Acc.begin (i := 2) e np s1 h1 r1 rfl
    refine s_seq (a_forR (fun t => [some (.v (.int (n / 256 ^ t : Nat))), some (.v (.int m)), none, none]) (fun t => sc nI (lowN t n)) (by simpa [lowN] using a) (ev_cons (ev_var rfl) ev_nil) (by omega) (by decide) ?_ ?_)
    · intro t σ' H' ht a
      refine s_seq (a_app a rfl (ev_op (ev_var rfl) ev_c (rv_md (by decide))) rfl (by rw [List.length_map, lowN_len]; omega) fun H2 a2 => ?_)
      refine a_asg a2 (ev_op (ev_var rfl) ev_c (rv_fd (by decide))) rfl (by decide) fun σ3 H3 a3 => ?_
      have z1 : ((n / 256 ^ t : Nat) : Int) / 256 = ((n / 256 ^ (t + 1) : Nat) : Int) := by
        rw [Nat.pow_succ, ← Nat.div_div_eq_div_mul]
        omega
      have z2 : sc nI (lowN t n) ++ [Dat.v (V.int (((n / 256 ^ t : Nat) : Int) % 256))] = sc nI (lowN (t + 1) n) := by
        rw [lowN_snoc]
        simp [sc, nI]
      rw [z1, z2] at a3
      have a4 := a3.forget (j := 3) (by decide)
      exact a4
    · intro σ' H' a
      have ⟨vs', h', r'⟩ := a.at_
      exact ⟨_, a.slot, k p vs' H' a.new a.out h' r'⟩
end
end Tg
end

section
set_option Elab.async false
set_option linter.all false
set_option maxRecDepth 100000
set_option maxHeartbeats 2000000
/-! A request answered. -/
namespace Tg
open PySem PySem.Spec PyProof.Rows L2
open R7292f
theorem roomMark {k : Nat} {B : Around} (r : Room k B) (h : Option Value) : L2H.RoomH k (B.mark h) := ⟨r.dp, r.un⟩
section
variable {X : Cx} {CX : CXT} {k j : Nat} {C : Addr} {m : Str} {sp : Sp} {E : L2.St → XK} {pos apos : Pos} {e o : Expr} {es : List Expr} {ta : TE} {t : TA}
/-- o.m(..) within a try: what it may raise hangs on the names -/
theorem pe_mtS {pl : Sem Bool} (c : Mt X.prog X.w X.K X.mg X.base CX k C m sp) (hr : Room j X.A) (hk : k ≤ j) (hx : ∀ σ, PassesAt CX X σ (E σ)) (ho : PE X o ta) (ha : PA X (e :: es) t)
    (hst : starEach (e :: es) X.env = (false, eval e X.env) :: starEach es X.env := by rfl) (hpl : (backTo pos (starEach es X.env)).any (·.1) = false := by rfl)
    (tree : eval (.Call (.Attribute o m apos) (e :: es) [] pos) X.env = (do let ov ← eval o X.env; standAt apos.atName; let (f, first) ← holding [ov] (getMethod ov m pl); callWith pos f first (backTo pos (starEach (e :: es) X.env)) (backToKw pos (keywordEach [] X.env))) := by rfl) :
    PE X (.Call (.Attribute o m apos) (e :: es) [] pos) (L2H.tMethH C m sp E ta t) := ⟨fun pins s σ H Q I h => by
  obtain ⟨f, fd, ps, hc, hm, F, b⟩ := c.ex
  refine PySem.W.methodCall_KW (pl := pl) (thn (ho.run pins s σ H _ I h) fun u s1 ⟨v, H1, I1, ru, a, dx, fs, ev, at_, no, go⟩ => ?_) tree
  subst ev; obtain rfl : u = Value.ref a := ru
  refine getmeth_ok I1 at_ hc hm no (PySem.W.callWith_K (first := [.ref a]) (h₀ := X.base) I.ok.mod.kin hm.kp (thn (ha.run pos pins s1 σ H1 _ I1 go) fun us s2 ⟨vs, H2, I2, r, asks⟩ => ⟨I2.kIn, run_fnS (us := .ref a :: us) (vs := .ref a :: vs) F (hr.mono hk) b (hx σ) I2 (.cons rfl r) asks⟩) hst hpl)⟩
end
section
variable {K : PySem.W.Frag} {ρ : List (Option Dat)} {ta : TA} {ds : List Dat} {E : XK} {C Cx a : Addr} {σ : L2.St} {H : Hp} {Q : VK}
theorem mk_fresh {R : List Dat → Except Err (List (Str × Dat)) → Prop} {gs : List (Str × Dat)} (h : EvA K ta ρ ds) (hr : R ds (.ok gs)) (e : Env K H σ ρ)
    (q : ∀ x dx fs H', H x = none → Same H (hid x H') → H' x = some (.ins C dx fs) → RpF K (hid x H') fs gs → Q (.ref x) H') : tMake C (MkSp K Cx C R) [] E ta σ H Q :=
  h σ H e _ fun vs H1 s1 r1 => by
    rw [List.append_nil]
    intro p dx hp hd hne
    have sp : Same H1 (hid p (upd (upd H1 dx (.own p)) p (.ins C dx []))) := fun b u eb => by
      have hbp : b ≠ p := ne_of_none eb hp
      have hbd : b ≠ dx := ne_of_none eb hd
      rw [hid_ne hbp, upd_ne hbp, upd_ne hbd]
      exact eb
    refine ⟨p, dx, vs, ds, .ok gs, rfl, upd_same, r1.mono sp, hr, fun gs' hg H' dx' fs s2 hp2 rf => ⟨rfl, ?_⟩, fun er he => by cases he⟩
    cases hg
    exact q p dx' fs H' (s1.free hp) ((s1.trans sp).trans s2) hp2 rf
end
theorem asg_of {te : TE} {g : TG} {D : Ends} {σ : L2.St} {H : Hp} (h : te σ H fun v H1 => g v σ H1 D.nx) : tAsg te g D σ H := h
theorem meth_of {C : Addr} {m : Str} {sp : Sp} {E : XK} {to : TE} {σ : L2.St} {H : Hp} {Q : VK} (h : to σ H fun x H1 => ∃ a dx fs, x = .ref a ∧ H1 a = some (.ins C dx fs) ∧ fs.lookup m = none ∧ sp [x] H1 Q E) : tMeth C m sp [] E to tNil σ H Q := h
theorem retOp_of {r : R2} {ta tb : TE} {D : Ends} {σ : L2.St} {H : Hp} (h : ta σ H fun x H1 => tb σ H1 fun y H2 => r x y H2 D.rt) : tRet (tOp r ta tb) D σ H := h
theorem opAsg_of {r : R2} {ta tb : TE} {g : TG} {D : Ends} {σ : L2.St} {H : Hp} (h : ta σ H fun x H1 => tb σ H1 fun y H2 => r x y H2 fun v H3 => g v σ H3 D.nx) : tAsg (tOp r ta tb) g D σ H := h
theorem nil_of {σ : L2.St} {H : Hp} {R : List V → Hp → Prop} (h : R [] H) : tNil σ H R := h
theorem var_of {i : Nat} {v : V} {σ : L2.St} {H : Hp} {Q : VK} (h : σ[i]? = some (some v)) (q : Q v H) : tVar i σ H Q := ⟨v, h, q⟩
theorem cst_of {x : V} {σ : L2.St} {H : Hp} {R : List V → Hp → Prop} (h : R [x] H) : tCons (tC x) tNil σ H R := h
/-- the octets of an outcome -/
inductive ResB : Except Err Dat → List UInt8 → Prop
  | ok {d : Dat} {p : Spec.Plain} : AnR 4 p d → (wr p).length ≤ 100000 → ResB (.ok d) (0 :: wr p)
  | err {c : Nat} {u : Spec.Units} : c < 256 → (∀ x ∈ u, x.toNat < 128) → u.length ≤ 100000 → ResB (.error ((c : Int), strOf u)) (1 :: UInt8.ofNat c :: (RWire.low 4 u.length ++ u.map Rust.octetOf))
def padded (l : List RWire.Value) : List Spec.Plain := l.map Rust.taken ++ List.replicate (3 - l.length) .undef
section
variable {P : Program} {w : World} {K : PySem.W.Frag} {mg : Str → Option Value} {base : Heap} {A : Ad} {f : Addr} {fd : FuncData} {ρ : List (Option Dat)}
def spAns (K : PySem.W.Frag) (A : Ad) : Sp := fun vs H Q _ => ∃ (a : Addr) (o : V) (q : Addr) (bs : List (Option Spec.Change)) (m : Nat) (b : List UInt8) (dr : Nat) (l : List RWire.Value) (bs' : List (Option Spec.Change)) (r : Except Err Dat) (out : List UInt8),
  vs = [.ref a, o] ∧ Rp K H (.ref a) (libD A q) ∧ LibS K A q bs m H ∧ m ≤ 100000 ∧ Rp K H o (octD b) ∧ b.length ≤ 1000000 ∧ RWire.readRequest b = some (dr, l) ∧ l.all (vok 9) = true ∧ l.length ≤ 3 ∧ PC A bs (padded l) dr bs' r ∧ (∀ er, r = .error er → bs' = bs) ∧ ResB r out ∧
  ∀ p ws H', H p = none → Same (hid q H) (hid q H') → LibS K A q bs' (m + 1) H' → H' p = some (.lst ws) → RpL K H' ws (bD out) → Q (.ref p) H'
abbrev s_answered : Stmt := top 67
abbrev N_answered : List Str := ["library", "octets", "door", "given", "e", "message"]
theorem sc_answered : FnScope N_answered ["library", "octets"] (defScope s_answered) :=
  ⟨rfl, rfl, rfl, by decide +kernel, rfl, by decide +kernel, by decide +kernel⟩
theorem padD (l : List RWire.Value) : ((l.map fun v => plD (Rust.taken v)) ++ List.replicate (3 - l.length) (plD .undef)) = (padded l).map plD := by
  unfold padded
  rw [List.map_append, List.map_map, List.map_replicate]
  rfl
theorem plDs_map_taken (l : List RWire.Value) : plDs (l.map Rust.taken) = l.map fun v => plD (Rust.taken v) := by
  rw [plDs_map, List.map_map]
  rfl
theorem rep_flat (n : Nat) (d : Dat) : (List.replicate n [d]).flatten = List.replicate n d := by
  induction n with
  | zero => rfl
  | succ n ih =>
    rw [List.replicate_succ, List.flatten_cons, ih, List.replicate_succ]
    rfl
theorem rq_of2 {b : List UInt8} {n : Nat} {x dx : Addr} {fs : List (Str × V)} {H : Hp} (h : H x = some (.ins A.rq dx fs)) (r : RpF K (hid x H) fs (rG b n)) : ∃ q, RqAt A.rq x q b n H := rq_of h r
def tsA (K : PySem.W.Frag) (A : Ad) (a : Addr) (cls : Value) (d : Option Addr) : TS := tSeq (tAsg (tOp (rPlus K) (tCB (rListOf K) (tCons (tCallS (PureSp K R_codes) (fun _ => E0) (tCons (tXf a cls d A.rf "message" (tVar 4)) tNil)) tNil)) (tCB (rListOf K) (tCons (tXf a cls d A.rf "further" (tVar 4)) tNil))) (gName 5))
  (tRet (tOp (rPlus K) (tOp (rPlus K) (tLst (tCons (tC (.int 1)) (tCons (tXf a cls d A.rf "order" (tVar 4)) tNil))) (tCallS (NewSp K R_low_first) (fun _ => E0) (tCons (tCB (rLen K) (tCons (tVar 5) tNil)) (tCons (tC (.int 4)) tNil)))) (tVar 5)))
theorem ok_answered (D : Df K mg "answered" s_answered ["library", "octets"] f fd) (T : Txt K mg A) (g_Request_init : Mc P w K mg base CX0 1 "Request" A.rq (MkSp K A.rf A.rq R_Request)) (g_Request_whole : Mt P w K mg base CX0 13 A.rq "whole" (spWhole K A)) (g_octets_of : Cl P w K mg base CX0 6 "octets_of" (NewSp K (R_octets 4)))
    (g_Library_call : Mt P w K mg base (L2N.CX P w) 196 A.li "call" (spCall K A)) (g_codes : ClH P w K mg base 1 "codes_of" (PureSp K R_codes)) (g_low : ClH P w K mg base 1 "low_first" (NewSp K R_low_first)) : Cl P w K mg base CX0 197 "answered" (spAns K A) := by
  refine D.cl (D.fn.ok sc_answered (fun vs H Q E h => ?_) (fun cdv _ outer s H vs Q E hr h => ⟨_, (pss_cons (ps_asg (pe_mt0X g_Request_whole hr (by omega) pass0 (pe_mkX g_Request_init hr (by omega) pass0 (by rfl) (pa_cons (pv 1) pa_nil))) (pg_tupK K (n := 2) (by rfl) (pgs_cons (pg_name (i := 2) sc_answered.nd rfl (Or.inl rfl)) (pgs_cons (pg_name (i := 3) sc_answered.nd rfl (Or.inl rfl)) pgs_nil))))
    (pss_cons (ps_expr (pe_bmK K PySem.F.plainAttrs_list PySem.F.slot_list_extend PySem.F.type_list_extend (mt_extendGK K) (pv 3) (pa_cons (pe_op op_times (pe_lst (pa_cons (C8.pe_gc rfl T.c_NOTHING) pa_nil)) (pe_op op_minus (C8.pe_gc rfl T.c_MOST_ARGUMENTS) (pe_callB (call_lenGK K) (by rfl) T.b_len bt_len (pa_cons (pv 3) pa_nil)))) pa_nil)))
    (pss_one (L2N.ps_try_as (i := 4) (tb := fun W => tRet (tOp (rPlus K) (tLst (tCons (tC (.int 0)) tNil)) (tCall (NewSp K (R_octets 4)) [] E0 (tCons (L2H.tMethH A.li "call" (spCall K A) (WE W) (tVar 0) (tCons (tVar 2) (tCons (tVar 3) tNil))) tNil)))) (ts := tsA K A) (Wout := fun _ _ _ _ => False) rfl rfl sc_answered.nd rfl rfl ⟨rfl, by decide, Or.inl T.m_Refused⟩ (fun u s' ⟨_, _, _, _, _, _, _, _, _, _, _, _, _, _, _, _, w⟩ => w.elim)
      (fun W pn xe tk _ => pss_one (ps_ret (pe_op (op_plusK K) (pe_lst (pa_cons pe_int pa_nil)) (pe_cl g_octets_of (show Room 196 _ from hr) (by omega) pass0 (by rfl) (pa_cons (pe_mtS g_Library_call (show Room 196 _ from hr) (by omega) (fun σ => L2N.passAt tk σ) (pv 0) (pa_cons (pv 2) (pa_cons (pv 3) pa_nil))) pa_nil)))))
      (fun a oe cls d pn hz hf => pss_cons (ps_set (i := 5) sc_answered.nd rfl (Or.inl rfl) (pe_op (op_plusK K) (pe_callTy (call_listGK K) (by rfl) T.b_list bt_list (pa_cons (pe_clH g_codes (roomMark hr _) (by omega) ⟨(a, oe), ⟨rfl, hf.elim fun vs h => ⟨vs, h, hz.2.2 vs h⟩⟩, List.mem_cons_self⟩ (by rfl) (pa_cons (pe_xf T.x_Fields T.n_Refused_message hz.zc hf (pv 4)) pa_nil)) pa_nil)) (pe_callTy (call_listGK K) (by rfl) T.b_list bt_list (pa_cons (pe_xf T.x_Fields T.n_Refused_further hz.zc hf (pv 4)) pa_nil))))
        (pss_one (ps_ret (pe_op (op_plusK K) (pe_op (op_plusK K) (pe_lst (pa_cons pe_int (pa_cons (pe_xf T.x_Fields T.n_Refused_order hz.zc hf (pv 4)) pa_nil))) (pe_clH g_low (roomMark hr _) (by omega) ⟨(a, oe), ⟨rfl, hf.elim fun vs h => ⟨vs, h, hz.2.2 vs h⟩⟩, List.mem_cons_self⟩ (by rfl) (pa_cons (pe_callB (call_lenGK K) (by rfl) T.b_len bt_len (pa_cons (pv 5) pa_nil)) (pa_cons pe_int pa_nil)))) (pv 5))))))))), ?_⟩))
  · obtain ⟨a, o, q, bs, m, b, dr, l, bs', r, out, rfl, _⟩ := h
    rfl
  · obtain ⟨a, o, q, bs, m, b, dr, l, bs', r, out, rfl, ra, L, hm, ro, hb, hrd, hok, hl3, pc, hbs, res, k⟩ := h
    have e0 : Env K H (L2.start N_answered [.ref a, o]) [some (libD A q), some (octD b), none, none, none, none] := env_begin (.cons ra (.cons ro .nil))
    obtain ⟨kv0, hq0, _⟩ := L.ex
    -- the request
    refine s_seq (asg_of (meth_of (mk_fresh (R := R_Request) (gs := rG b 0) (ev_cons (ev_var (i := 1) rfl) ev_nil) ⟨b, rfl, rfl⟩ e0 fun x dx fs H1 nx s1 hx1 rf => ?_)))
    obtain ⟨qo, rq⟩ := rq_of hx1 rf
    refine ⟨x, dx, fs, rfl, hx1, look_none rf ((rlkP (by decide +kernel)).trans (rlkP (by decide +kernel))), x, qo, b, dr, l, rfl, rq, hb, hrd, hok, fun t p vs H2 np s2 h2 r2 st => ?_⟩
    refine ⟨t, _, rfl, st, rfl, _, _, rfl, _, _, rfl, rfl, ?_⟩
    have s02 : Same H (hid x H2) := s1.trans s2
    have sH2 : Same H H2 := s02.trans hid_same
    have np0 : H p = none := by
      cases hp : H p with
      | none => rfl
      | some u =>
        have := hid_same _ _ (s1 p u hp)
        rw [np] at this
        cases this
    have a0 := Acc.start (K := K) (i := 3) np0 sH2 h2 (r2.mono hid_same) (by rw [← plDs_map_taken]; exact plDs_still _) (e0.set 2 (d := .v (.int (dr : Nat))) (.v (.int (dr : Nat)))) (by simp [L2.start, N_answered]) (by simp)
    try dsimp only
    refine s_seq (a_ext (es := List.replicate (3 - l.length) (plD .undef)) a0 rfl (EvN.toD ((ev_opN (EvN.toD (ev_lst (ev_cons (ev_one T.t_NOTHING) ev_nil))) (ev_op ev_c (ev_cb (ev_cons (ev_var (i := 3) rfl) ev_nil) rc_lenL) rv_minus) (rv_timesL ?_ (by simp))).to ?_)) ?_ ?_ fun H3 a3 => ?_)
    · rw [List.length_map]
      omega
    · rw [List.length_map, rep_flat]
      have e3 : ((3 : Int) - ((l.length : Nat) : Int)).toNat = 3 - l.length := by omega
      rw [e3]
      rfl
    · refine stills_iff.mpr fun d hd => ?_
      rw [List.eq_of_mem_replicate hd]
      rfl
    · rw [List.length_map, List.length_replicate]
      omega
    rw [padD] at a3
    have s03 := a3.out
    have L3 := L.grow s03
    try dsimp only
    -- the call
    refine retOp_of ((ev_lst (ev_cons ev_c ev_nil)) _ H3 a3.all _ fun p0 vs0 H4 n4 s4 h4 r4 => ?_)
    have L4 := L3.grow s4
    obtain ⟨kv4, hq4, _⟩ := L4.ex
    have e4 := a3.all.mono s4
    obtain ⟨v0, g0, g1⟩ := e4.get (i := 0) rfl
    obtain ⟨v2, g2, g3⟩ := e4.get (i := 2) rfl
    obtain ⟨v3, g4, g5⟩ := e4.get (i := 3) rfl
    have ev2 := g3.v_eq
    subst ev2
    have ra4 := g1
    have hp0 : p0 ≠ q := fun z => by
      rw [z, hq4] at h4
      cases h4
    cases g1 with
    | obj ho rf1 =>
      rename_i a1 dx1 fs1
      refine ⟨_, g0, a1, dx1, fs1, rfl, ho, look_none rf1 (show (libG q).lookup _ = none from (lkP (by decide +kernel)).trans lkN), _, g2, _, g4, a1, v3, q, bs, m, padded l, dr, bs', r, rfl, ra4, L4, by omega, g5, pc, fun d hd v H5 s5 L5 r5 => ?_, fun er he b5 H5 s5 xe => ?_⟩
      · subst hd
        cases res with
        | ok an sz =>
          rename_i pp
          refine ⟨[d], bD (wr pp), .cons r5 .nil, ⟨pp, d, rfl, an, sz, rfl⟩, fun p6 ws6 H6 n6 s6 h6 r6 => ?_⟩
          have h5 : H5 p0 = some (.lst vs0) := hid_same _ _ (s5 p0 _ (by rw [hid_ne hp0]; exact h4))
          have r5' : RpL K H5 vs0 [.v (.int 0)] := by
            have e := sc_rpl (c := V.int) (l := [0]) r4
            rw [e]
            exact rpl_sc V.int [0]
          have L6 := L5.grow s6
          obtain ⟨kv6, hq6, _⟩ := L6.ex
          refine rv_plusL (ds := [.v (.int 0)]) (es := bD (wr pp)) ?_ _ _ H6 (.lst (s6 _ _ h5) (r5'.mono s6)) (.lst h6 r6) _ fun p7 ws7 H7 n7 s7 h7 r7 => ?_
          · rw [bD_len]
            exact Nat.le_trans (show _ ≤ 1000000 by simp; omega) (by decide)
          · refine k p7 ws7 H7 ?_ (((hid_mono (s03.trans s4)).trans s5).trans (hid_mono (s6.trans s7))) (L6.grow s7) h7 r7
            cases hp : H p7 with
            | none => rfl
            | some u =>
              have hpq : p7 ≠ q := fun z => by
                rw [z, hq6] at n7
                cases n7
              have := s6 _ _ (hid_same _ _ (s5 p7 _ (by rw [hid_ne hpq]; exact (s03.trans s4) _ _ hp)))
              rw [n7] at this
              cases this
      · subst he
        cases res with
        | err hc hu hz =>
          rename_i c u
          have hb5 := hbs _ rfl
          refine ⟨true, T.e_Refused, fun _ ax hax => ?_, fun z => by cases z⟩
          obtain ⟨fs5, t5, hx5, lo, lm, lf, st5⟩ := xe
          have hcps : (strOf u).cps.toList = u.map fun c => c.toNat := by simp [strOf]
          have za : (strOf u).cps.all (· < 128) = true := by
            simp only [strOf, List.all_toArray, List.all_map, List.all_eq_true]
            intro y hy
            exact decide_eq_true (hu y hy)
          have zs : (strOf u).cps.size ≤ 1000000 := by
            simp only [strOf, List.size_toArray, List.length_map]
            omega
          have hcod : ((strOf u).cps.toList.map fun c => Dat.v (.int (c : Nat))) = bD (u.map Rust.octetOf) := by
            rw [hcps, List.map_map]
            unfold bD o8
            rw [List.map_map]
            apply List.map_congr_left
            intro y hy
            have := hu y hy
            simp only [Function.comp]
            rw [octet_nat (by omega)]
          unfold tsA
          refine s_seq (opAsg_of ⟨_, rfl, rfl, rfl, b5, fs5, _, rfl, hx5, lm, [.v (.str (strOf u))], _, .cons (.v _) .nil, ⟨strOf u, rfl, za, zs, rfl⟩, fun v6 H6 s6 r6 => ?_⟩)
          rw [hcod] at r6
          refine nil_of ?_
          refine rc_listT (K := K) _ _ (.cons r6 .nil) _ fun p7 ws7 H7 n7 s7 h7 r7 => ?_
          refine ⟨_, rfl, rfl, rfl, b5, fs5, _, rfl, (s6.trans s7) _ _ hx5, lf, ?_⟩
          refine nil_of ?_
          refine rc_listT (K := K) (ds := []) _ _ (.cons (.tup (same_t (s6.trans s7) st5) .nil) .nil) _ fun p8 ws8 H8 n8 s8 h8 r8 => ?_
          refine rv_plusL (K := K) (ds := bD (u.map Rust.octetOf)) (es := []) ?_ _ _ H8 (.lst (s8 _ _ h7) (r7.mono s8)) (.lst h8 r8) _ fun p9 ws9 H9 n9 s9 h9 r9 => ?_
          · rw [bD_len, List.length_map]
            exact Nat.le_trans (show _ ≤ 1000000 by simp; omega) (by decide)
          rw [List.append_nil] at r9
          have s59 : Same H5 H9 := ((s6.trans s7).trans s8).trans s9
          refine asg_nx ?_
          try dsimp only
          refine retOp_of ⟨_, rfl, rfl, rfl, b5, fs5, _, rfl, s59 _ _ hx5, lo, by show 2 ≤ sizeLine; decide, fun p10 n10 => ?_⟩
          have s10 : Same H9 (upd H9 p10 (.lst [.int 1, .int (c : Nat)])) := same_new n10
          have h10 : (upd H9 p10 (.lst [.int 1, .int (c : Nat)])) p10 = some (.lst [.int 1, .int (c : Nat)]) := upd_same
          generalize upd H9 p10 (.lst [.int 1, .int (c : Nat)]) = H10 at s10 h10 ⊢
          have hl9 : (bD (u.map Rust.octetOf)).length = u.length := by rw [bD_len, List.length_map]
          refine ⟨.ref p9, rfl, nil_of ?_⟩
          refine rc_lenL (K := K) (ds := bD (u.map Rust.octetOf)) _ _ (.cons (.lst (s10 _ _ h9) (r9.mono s10)) .nil) _ fun v11 H11 s11 r11 => ?_
          have e11 := r11.v_eq
          subst e11
          rw [hl9]
          refine cst_of ?_
          refine ⟨[.v (.int (u.length : Nat)), .v (.int (4 : Nat))], _, .cons (.v _) (.cons (.v _) .nil), ⟨u.length, 4, rfl, by decide, rfl⟩, fun p12 ws12 H12 n12 s12 h12 r12 => ?_⟩
          refine rv_plusL (K := K) (ds := [.v (.int 1), .v (.int (c : Nat))]) (es := sc nI (lowN 4 u.length)) ?_ _ _ H12 (.lst ((s11.trans s12) _ _ h10) (.cons (.v _) (.cons (.v _) .nil))) (.lst h12 r12) _ fun p13 ws13 H13 n13 s13 h13 r13 => ?_
          · simp only [List.length_map, lowN_len]
            exact Nat.le_trans (show 2 + 4 ≤ 6 by decide) (by decide)
          have s913 : Same H9 H13 := ((s10.trans s11).trans s12).trans s13
          refine var_of (v := .ref p9) rfl ?_
          refine rv_plusL (K := K) (ds := [.v (.int 1), .v (.int (c : Nat))] ++ sc nI (lowN 4 u.length)) (es := bD (u.map Rust.octetOf)) ?_ _ _ H13 (.lst h13 r13) (.lst (s913 _ _ h9) (r9.mono s913)) _ fun p14 ws14 H14 n14 s14 h14 r14 => ?_
          · simp only [List.length_append, List.length_map, lowN_len, hl9]
            exact Nat.le_trans (show _ ≤ 1000000 by simp; omega) (by decide)
          have s514 : Same H5 H14 := (s59.trans s913).trans s14
          have L5 : LibS K A q bs' (m + 1) H14 := by
            rw [hb5]
            exact ((L4.grow s5).grow s514).more
          refine k p14 ws14 H14 ?_ (hid_mono (((s03.trans s4).trans s5).trans s514)) L5 h14 ?_
          · cases hp : H p14 with
            | none => rfl
            | some v =>
              have := (s59.trans s913) _ _ (((s03.trans s4).trans s5) _ _ hp)
              rw [n14] at this
              cases this
          · have e8 : bD (1 :: UInt8.ofNat c :: (RWire.low 4 u.length ++ u.map Rust.octetOf)) = [.v (.int 1), .v (.int (c : Nat))] ++ sc nI (lowN 4 u.length) ++ bD (u.map Rust.octetOf) := by
              rw [← low_bD, List.append_assoc, bD_app]
              unfold bD o8
              simp
              omega
            rw [e8]
            exact r14
end
end Tg
end

section
set_option Elab.async false
set_option linter.all false
set_option maxRecDepth 100000
set_option maxHeartbeats 2000000
/-! A call beside a list that it does not see. -/
namespace Tg
open PySem PySem.Spec PyProof.Rows L2
/-- the def called on all but the list at p -/
def spFr (sp : Sp) : Sp := fun vs H Q _ => ∃ p xs, H p = some (.lst xs) ∧ sp vs (hid p H) (fun v H' => H' p = none → Q v (upd H' p (.lst xs))) E0
section
variable {P : Program} {w : World} {K : PySem.W.Frag} {mg : Str → Option Value} {base : Heap} {k : Nat} {f : Addr} {fd : FuncData} {ps : List Str} {sp : Sp}
theorem hok_hid {H : Hp} {h : Heap} {p : Addr} {xs : List V} (a : HOk P w H h) (hp : H p = some (.lst xs)) : HOk P w (hid p H) h := fun b u e => by
  have hb : b ≠ p := fun z => by
    rw [z] at e
    simp [hid] at e
  rw [hid_ne hb] at e
  have other : ∀ (c : Addr) (o : HO), (∀ ys, o ≠ .lst ys) → H c = some o → hid p H c = some o := fun c o no e => by
    rw [hid_ne fun z => ?_]
    · exact e
    · rw [z, hp] at e
      exact no xs (Option.some.inj e).symm
  exact (a b u e).stay (fun _ _ _ z => z) (fun c z => other c _ (fun _ y => by cases y) z) fun c ys z => other c _ (fun _ y => by cases y) z
theorem fn_frame (F : FnOk P w K mg base CX0 k f fd ps sp) : FnOk P w K mg base CX0 k f fd ps (spFr sp) := by
  refine ⟨fun vs H Q E h => ?_, fun A outer s H args us vs Q E hr e0 hb r h => ?_⟩
  · obtain ⟨p, xs, _, h⟩ := h
    exact F.len _ _ _ _ h
  · obtain ⟨p, xs, hp, h⟩ := h
    obtain ⟨z1, its, n, vr, get⟩ := e0.hok p _ hp
    have none_hid : ∀ {b : Addr}, H b = none → hid p H b = none := fun {b} e => by
      unfold hid
      split
      · rfl
      · exact e
    have nfr : p ∉ frs outer := fun z => by
      have := e0.frf p z
      rw [hp] at this
      cases this
    have e1 : Env0 P w K mg base A outer s (hid p H) := ⟨e0.frames, e0.mod, fun b o e => ⟨(e0.bs b o e).1, none_hid (e0.bs b o e).2⟩, e0.bsz, e0.funs, fun b z => none_hid (e0.frf b z), hok_hid e0.hok hp, e0.bare⟩
    refine codeAny_mono (F.run A outer s (hid p H) args us vs _ E0 hr e1 hb r h) fun res s' hq => ?_
    cases res with
    | error e => exact False.elim hq
    | ok fl =>
      cases fl with
      | next => exact False.elim hq
      | brk => exact False.elim hq
      | cont => exact False.elim hq
      | ret u =>
        obtain ⟨v, H', os, bare, un, hok, rv, q⟩ := hq
        have hpn : hid p H p = none := by simp [hid]
        have get' := un.keep p _ get hpn nfr (by simp)
        have gone := un.free p _ get hpn (by simp)
        have up : ∀ {b : Addr} {o : HO}, H' b = some o → upd H' p (.lst xs) b = some o := fun {b o} e => by
          rw [upd_ne (ne_of_none e gone)]
          exact e
        have low : ∀ {b : Addr} {o : HO}, (∀ ys, o ≠ .lst ys) → H b = some o → hid p H b = some o := fun {b o} no e => by
          rw [hid_ne fun z => ?_]
          · exact e
          · rw [z, hp] at e
            exact no xs (Option.some.inj e).symm
        refine ⟨v, upd H' p (.lst xs), os, bare, ⟨fun b o e n hb hx => un.keep b o e (none_hid n) hb hx, fun b o e n hb hx => un.slot b o e (none_hid n) hb hx, fun b o e n hx => ?_, un.there, fun b ys e => up (un.tups b ys (low (fun _ y => by cases y) e)), fun b o u e => up (un.frzs b o u (low (fun _ y => by cases y) e)), fun b pz e => ?_⟩, fun b u e => ?_, rv, q gone⟩
        · have hb : b ≠ p := fun z => by
            rw [z, hp] at n
            cases n
          rw [upd_ne hb]
          exact un.free b o e (none_hid n) hx
        · obtain ⟨more, hm⟩ := un.tbls b pz (low (fun _ y => by cases y) e)
          exact ⟨more, up hm⟩
        · by_cases hb : b = p
          · subst hb
            rw [upd_same] at e
            cases e
            exact ⟨z1, its, n, vr, get'⟩
          · rw [upd_ne hb] at e
            exact (hok b u e).stay (fun _ _ _ z => z) (fun c z => up z) fun c ys z => up z
theorem Cl.frame {x : Str} (c : Cl P w K mg base CX0 k x sp) : Cl P w K mg base CX0 k x (spFr sp) := by
  obtain ⟨f, fd, ps, F, h1, h2, h3⟩ := c.ex
  exact ⟨f, fd, ps, fn_frame F, h1, h2, h3⟩
end
end Tg
end

section
set_option Elab.async false
set_option linter.all false
set_option maxRecDepth 100000
set_option maxHeartbeats 1000000
/-! All calls, one after another. -/
namespace Tg
open PySem PySem.Spec PyProof.Rows L2
open R7292f
def encB (b : List UInt8) : List Int := 0 :: (b.length : Int) :: b.map fun c => (c.toNat : Int)
def outI (o : List UInt8) : List Int := (o.length : Int) :: o.map fun c => (c.toNat : Int)
inductive Run (A : Ad) : List (Option Spec.Change) → List (List UInt8) → List (List UInt8) → Prop
  | nil {bs : List (Option Spec.Change)} : Run A bs [] []
  | cons {bs bs' : List (Option Spec.Change)} {b out : List UInt8} {rs outs : List (List UInt8)} {dr : Nat} {l : List RWire.Value} {r : Except Err Dat} : b.length ≤ 1000000 → RWire.readRequest b = some (dr, l) → l.all (vok 9) = true → l.length ≤ 3 → PC A bs (padded l) dr bs' r → (∀ er, r = .error er → bs' = bs) → ResB r out →
      Run A bs' rs outs → Run A bs (b :: rs) (out :: outs)
theorem sql_mono {K : PySem.W.Frag} {H H' : Hp} {a : Addr} {xs : List V} (s : Same H H') (h : SqL K H a xs) : SqL K H' a xs := by
  rcases h with h | h
  · rcases h with h | ⟨o, h⟩
    · exact .inl (.inl (s _ _ h))
    · exact .inl (.inr ⟨o, s _ _ h⟩)
  · exact .inr h
structure Zst (K : PySem.W.Frag) (A : Ad) (H0 : Hp) (c : Addr) (L : List Int) (q : Addr) (bs : List (Option Spec.Change)) (m : Nat) (n : Nat) (ns : List Int) (p a : Addr) (σ : L2.St) (H : Hp) : Prop where
  S : Same H0 (hid q (hid p H))
  lib : LibS K A q bs m (hid p H)
  env : Env K (hid p H) σ [none, some (libD A q), none, some (.v (.int (n : Nat))), none, none]
  s0 : σ[0]? = some (some (.ref c))
  s1 : σ[1]? = some (some (.ref a))
  s2 : σ[2]? = some (some (.ref p))
  cal : SqL K H0 c (L.map V.int)
  lst : H p = some (.lst (ns.map V.int))
section
variable {P : Program} {w : World} {K : PySem.W.Frag} {mg : Str → Option Value} {base : Heap} {A : Ad} {f : Addr} {fd : FuncData} {H0 H H' : Hp} {c q p a : Addr} {L ns : List Int} {bs : List (Option Spec.Change)} {m n : Nat} {σ : L2.St}
theorem Zst.grow (z : Zst K A H0 c L q bs m n ns p a σ H) (s : Same H H') : Zst K A H0 c L q bs m n ns p a σ H' :=
  ⟨z.S.trans (hid_mono (hid_mono s)), z.lib.grow (hid_mono s), z.env.mono (hid_mono s), z.s0, z.s1, z.s2, z.cal, s _ _ z.lst⟩
theorem Zst.sq (z : Zst K A H0 c L q bs m n ns p a σ H) : SqL K H c (L.map V.int) := sql_mono (z.S.trans (hid_same.trans hid_same)) z.cal
def spTop (K : PySem.W.Frag) (A : Ad) : Sp := fun vs H Q _ => ∃ (c : Addr) (rs outs : List (List UInt8)), vs = [.ref c] ∧ SqL K H c ((rs.flatMap encB).map V.int) ∧ Run A (List.replicate 3 none) rs outs ∧ rs.length ≤ 1000 ∧ (outs.flatMap outI).length ≤ 10000000 ∧
  ∀ p H', H' p = some (.lst ((outs.flatMap outI).map V.int)) → Q (.ref p) H'
abbrev s_answers : Stmt := top 68
abbrev N_answers : List Str := ["calls", "library", "found", "at", "many", "answer"]
theorem sc_answers : FnScope N_answers ["calls"] (defScope s_answers) :=
  ⟨rfl, rfl, rfl, by decide +kernel, rfl, by decide +kernel, by decide +kernel⟩
theorem cut_ints {pre rest : List Int} {b : List UInt8} : cutV ((pre ++ encB b ++ rest).map V.int) (some ((pre.length : Int) + 2)) (some ((pre.length : Int) + 2 + (b.length : Int))) = b.map o8 := by
  have e1 : ((pre.length : Int) + 2) = ((pre.length + 2 : Nat) : Int) := by omega
  have e2 : ((pre.length + 2 : Nat) : Int) + (b.length : Int) = ((pre.length + 2 + b.length : Nat) : Int) := by omega
  rw [e1, e2]
  unfold cutV
  rw [HT.sIx_nat, HT.sIx_nat]
  have hl : ((pre ++ encB b ++ rest).map V.int).length = pre.length + 2 + b.length + rest.length := by
    simp [encB]
    omega
  rw [hl]
  have m1 : min (pre.length + 2) (pre.length + 2 + b.length + rest.length) = pre.length + 2 := by omega
  have m2 : min (pre.length + 2 + b.length) (pre.length + 2 + b.length + rest.length) = pre.length + 2 + b.length := by omega
  rw [m1, m2, Nat.add_sub_cancel_left]
  have e3 : (pre ++ encB b ++ rest).map V.int = (pre.map V.int ++ [.int 0, .int b.length]) ++ (b.map o8 ++ rest.map V.int) := by
    unfold encB o8
    simp
  have e4 : pre.length + 2 = (pre.map V.int ++ [V.int 0, .int b.length]).length := by simp
  rw [e3, e4, List.drop_left]
  have e5 : b.length = (b.map o8).length := by simp
  rw [e5, List.take_left]
theorem ok_answers (D : Df K mg "answers" s_answers ["calls"] f fd) (T : Txt K mg A) (g_Library_init : Mc P w K mg base CX0 1 "Library" A.li (spLib A)) (g_answered : Cl P w K mg base CX0 197 "answered" (spFr (spAns K A))) : FnOk P w K mg base CX0 198 f fd ["calls"] (spTop K A) := by
  refine D.fn.ok sc_answers (fun vs H Q E h => ?_) (fun cdv _ outer s H vs Q E hr h => ⟨_, (pss_cons (ps_set (i := 1) sc_answers.nd rfl (Or.inl rfl) (pe_mk0X g_Library_init hr (by omega) pass0 (by rfl)))
    (pss_cons (ps_set (i := 2) sc_answers.nd rfl (Or.inl rfl) (pe_lst pa_nil))
    (pss_cons (ps_set (i := 3) sc_answers.nd rfl (Or.inl rfl) pe_int)
    (pss_cons (ps_while PassesOwn.never (pt_cmpR op_ltI (pv 3) (pe_callB (call_lenGK K) (by rfl) T.b_len bt_len (pa_cons (pv 0) pa_nil)) (nomark _)) (pss_cons (ps_set (i := 4) sc_answers.nd rfl (Or.inl rfl) (pe_ix (ix_seqK K) (pv 0) (pe_op (op_plusK K) (pv 3) pe_int) (fun _ _ => rfl)))
    (pss_cons (ps_set (i := 5) sc_answers.nd rfl (Or.inl rfl) (pe_cl g_answered hr (by omega) pass0 (by rfl) (pa_cons (pv 1) (pa_cons (pe_callTy (call_listGK K) (by rfl) T.b_list bt_list (pa_cons (pe_slice (sl_gK K) (pv 0) (po_some (pe_op (op_plusK K) (pv 3) pe_int)) (po_some (pe_op (op_plusK K) (pe_op (op_plusK K) (pv 3) pe_int) (pv 4)))) pa_nil)) pa_nil))))
    (pss_cons (ps_aug (i := 3) sc_answers.nd rfl (Or.inl rfl) (pe_op (op_plusK K) pe_int (pv 4)) ip_add)
    (pss_cons (ps_expr (pe_bmK K PySem.F.plainAttrs_list PySem.F.slot_list_append PySem.F.type_list_append mt_append (pv 2) (pa_cons (pe_callB (call_lenGK K) (by rfl) T.b_len bt_len (pa_cons (pv 5) pa_nil)) pa_nil)))
    (pss_one (ps_expr (pe_bmK K PySem.F.plainAttrs_list PySem.F.slot_list_extend PySem.F.type_list_extend (mt_extendGK K) (pv 2) (pa_cons (pv 5) pa_nil)))))))))
    (pss_one (ps_ret (pv 2))))))), ?_⟩)
  · obtain ⟨c, rs, outs, rfl, _⟩ := h
    rfl
  · obtain ⟨c, rs, outs, rfl, hc, run, hrs, hos, k⟩ := h
    -- library, found, at
    refine s_seq ?_
    intro x dx nx ndx hne
    refine ⟨x, dx, rfl, upd_same, fun q dx' H1 nq hqx s1 h1 h2 => ⟨rfl, ?_⟩⟩
    have S1 : Same H H1 := fun b u e => by
      have hbx : b ≠ x := ne_of_none e nx
      have hbd : b ≠ dx := ne_of_none e ndx
      refine s1 b u ?_
      rw [hid_ne hbx, upd_ne hbx, upd_ne hbd]
      exact e
    have nqH : H q = none := by
      cases hq : H q with
      | none => rfl
      | some u =>
        rw [upd_ne hqx, upd_ne (ne_of_none hq ndx), hq] at nq
        cases nq
    refine asg_nx ?_
    try dsimp only
    refine s_seq ⟨by show 0 ≤ sizeLine; decide, fun p np => ?_⟩
    refine asg_nx ?_
    try dsimp only
    refine s_seq (asg_nx ?_)
    try dsimp only
    have npH : H p = none := S1.free np
    have hqp : q ≠ p := ne_of_none h2 np
    have hxp : x ≠ p := ne_of_none h1 np
    have eh : hid p (upd H1 p (.lst [])) = hid p H1 := hid_upd
    have z0 : Zst K A H c (rs.flatMap encB) q (List.replicate 3 none) 0 0 [] p x (((L2.start N_answers [.ref c]).set 1 (some (.ref x))).set 2 (some (.ref p)) |>.set 3 (some (.int (0 : Nat)))) (upd H1 p (.lst [])) := by
      have lib : Rp K (hid p H1) (.ref x) (libD A q) := .obj (by rw [hid_ne hxp]; exact h1) (.cons (.v _) .nil)
      refine ⟨?_, ?_, ?_, rfl, rfl, rfl, hc, upd_same⟩
      · rw [eh]
        exact hid_of (hid_of S1 npH) nqH
      · rw [eh]
        refine ⟨[], by rw [hid_ne hqp]; exact h2, Nat.le_refl _, fun i c' hc' => ?_⟩
        have : ((List.replicate 3 none : List (Option Spec.Change)).getD i none) = none := by
          rcases i with _ | _ | _ | i <;> rfl
        rw [this] at hc'
        cases hc'
      · rw [eh]
        exact .skip (.cons lib (.skip (.cons (.v _) (.skip (.skip .nil)))))
    refine s_seq ⟨fun mm σ H' => ∃ pre rest outs0 outsR bs m, rs = pre ++ rest ∧ outs = outs0 ++ outsR ∧ mm = rest.length ∧ Run A bs rest outsR ∧ m + rest.length ≤ rs.length ∧ Zst K A H c (rs.flatMap encB) q bs m (pre.flatMap encB).length (outs0.flatMap outI) p x σ H',
      ⟨_, [], rs, [], outs, _, 0, rfl, rfl, rfl, run, by omega, z0⟩, ?_⟩
    rintro mm σ H2 ⟨pre, rest, outs0, outsR, bs, m, ers, eouts, rfl, run2, hm, z⟩
    refine ⟨_, (z.env.get (i := 3) rfl).elim fun v hv => by have e := hv.2.v_eq; subst e; exact hv.1, _, z.s0, _, (rs.flatMap encB).length, rfl, .inl ⟨_, z.sq, (List.length_map _).symm⟩, _, _, rfl, rfl, _, rfl, ?_⟩
    have htest : ∀ x : Bool, decide ((((pre.flatMap encB).length : Nat) : Int) < (((rs.flatMap encB).length : Nat) : Int)) = x → (x = true ↔ rest ≠ []) := fun x hx => by
      have hlen : (rs.flatMap encB).length = (pre.flatMap encB).length + (rest.flatMap encB).length := by rw [ers, List.flatMap_append, List.length_append]
      rw [hlen] at hx
      cases rest with
      | nil =>
        have : x = false := by
          rw [← hx]
          exact decide_eq_false (by simp)
        simp [this]
      | cons b r =>
        have : x = true := by
          rw [← hx]
          refine decide_eq_true ?_
          rw [List.flatMap_cons, List.length_append]
          simp [encB]
          omega
        simp [this]
    generalize hdec : decide ((((pre.flatMap encB).length : Nat) : Int) < (((rs.flatMap encB).length : Nat) : Int)) = tb
    have ht := htest tb hdec
    cases run2 with
    | nil =>
      have : tb = false := by
        cases tb with
        | false => rfl
        | true => exact absurd rfl (ht.mp rfl)
      subst this
      dsimp only
      rw [if_neg (by decide)]
      refine ⟨_, z.s2, k p H2 ?_⟩
      rw [eouts, List.append_nil]
      exact z.lst
    | cons hb hrd hok hl3 pc hbs res run3 =>
      rename_i bs' b out rs' outs' dr l r
      have : tb = true := ht.mpr (by simp)
      subst this
      dsimp only
      rw [if_pos rfl]
      have eL : rs.flatMap encB = pre.flatMap encB ++ encB b ++ rs'.flatMap encB := by
        rw [ers, List.flatMap_append, List.flatMap_cons, List.append_assoc]
      refine ⟨fun σ' H' => Zst K A H c (rs.flatMap encB) q bs' (m + 1) ((pre ++ [b]).flatMap encB).length ((outs0 ++ [out]).flatMap outI) p x σ' H', fun σ' H' z' => ⟨rs'.length, by simp, pre ++ [b], rs', outs0 ++ [out], outs', bs', m + 1, by rw [ers]; simp, by rw [eouts]; simp, rfl, run3, by simp at hm; omega, z'⟩, ?_⟩
      have hs3 : σ[3]? = some (some (.int ((pre.flatMap encB).length : Nat))) := (z.env.get (i := 3) rfl).elim fun v hv => by
        have e := hv.2.v_eq
        subst e
        exact hv.1
      obtain ⟨vm, am, rm⟩ := atI_rpl (K := K) (H := H2) (rpl_sc V.int (rs.flatMap encB)) (i := (pre.flatMap encB).length + 1) (d := .v (.int (b.length : Nat))) (by rw [eL]; simp [encB])
      have em := rm.v_eq
      subst em
      have ec : (((pre.flatMap encB).length + 1 : Nat) : Int) = (((pre.flatMap encB).length : Nat) : Int) + 1 := by omega
      rw [ec] at am
      refine s_seq ⟨_, z.s0, _, hs3, .inl ⟨_, 1, rfl, rfl, .inl ⟨c, _, _, _, rfl, rfl, z.sq, am, ?_⟩⟩⟩
      refine asg_nx ?_
      try dsimp only
      have env1 := z.env.set 4 (d := .v (.int (b.length : Nat))) (.v (.int (b.length : Nat)))
      have s0' : (σ.set 4 (some (V.int (b.length : Nat))))[0]? = some (some (.ref c)) := by rw [List.getElem?_set_ne (by decide)]; exact z.s0
      have s1' : (σ.set 4 (some (V.int (b.length : Nat))))[1]? = some (some (.ref x)) := by rw [List.getElem?_set_ne (by decide)]; exact z.s1
      have s2' : (σ.set 4 (some (V.int (b.length : Nat))))[2]? = some (some (.ref p)) := by rw [List.getElem?_set_ne (by decide)]; exact z.s2
      have hlo : EvO K (tPart (tOp (rPlus K) (tVar 3) (tC (.int 2)))) ([none, some (libD A q), none, some (.v (.int ((pre.flatMap encB).length : Nat))), none, none].set 4 (some (.v (.int (b.length : Nat))))) (some ((((pre.flatMap encB).length : Nat) : Int) + 2)) := ev_oSome (ev_op (ev_var rfl) ev_c rv_plusI)
      have hhi : EvO K (tPart (tOp (rPlus K) (tOp (rPlus K) (tVar 3) (tC (.int 2))) (tVar 4))) ([none, some (libD A q), none, some (.v (.int ((pre.flatMap encB).length : Nat))), none, none].set 4 (some (.v (.int (b.length : Nat))))) (some ((((pre.flatMap encB).length : Nat) : Int) + 2 + (b.length : Nat))) := ev_oSome (ev_op (ev_op (ev_var rfl) ev_c rv_plusI) (ev_var rfl) rv_plusI)
      refine s_seq (asg_of ⟨_, s1', _, s0', hlo _ H2 (env1.mono hid_same) _ fun H3 s3 => hhi _ H3 ((env1.mono hid_same).mono s3) _ fun H4 s4 => .inl ⟨c, _, rfl, sql_mono (s3.trans s4) z.sq, fun p1 n1 => ?_⟩⟩)
      refine nil_of ⟨p1, _, rfl, .inl (SqL.of upd_same), fun p2 n2 => ?_⟩
      refine nil_of ?_
      have hys : cutV ((rs.flatMap encB).map V.int) (some ((((pre.flatMap encB).length : Nat) : Int) + 2)) (some ((((pre.flatMap encB).length : Nat) : Int) + 2 + (b.length : Nat))) = b.map o8 := by
        rw [eL]
        exact cut_ints
      rw [hys]
      have s26 : Same H2 (upd (upd H4 p1 (.lst (b.map o8))) p2 (.lst (b.map o8))) := (s3.trans s4).trans ((same_new n1).trans (same_new (by rw [← hys]; exact n2)))
      have h62 : (upd (upd H4 p1 (.lst (b.map o8))) p2 (.lst (b.map o8))) p2 = some (.lst (b.map o8)) := upd_same
      have n22 : H2 p2 = none := (s3.trans s4).free (by
        have n2' := n2
        by_cases e12 : p2 = p1
        · rw [e12]
          exact n1
        · rw [upd_ne e12] at n2'
          exact n2')
      generalize upd (upd H4 p1 (.lst (b.map o8))) p2 (.lst (b.map o8)) = H6 at s26 h62 ⊢
      have z6 := z.grow s26
      have hp2 : p2 ≠ p := fun e => by
        rw [e, z.lst] at n22
        cases n22
      have lib6 : Rp K (hid p H6) (.ref x) (libD A q) := (z6.env.get (i := 1) rfl).elim fun v hv => by
        have e := hv.1
        rw [z.s1] at e
        cases e
        exact hv.2
      refine ⟨p, _, z6.lst, x, .ref p2, q, bs, m, b, dr, l, bs', r, out, rfl, lib6, z6.lib, by omega, .lst (by rw [hid_ne hp2]; exact h62) (rpl_o8 b), hb, hrd, hok, hl3, pc, hbs, res, fun p3 ws H7 np3 s7 L7 h7 r7 gone => ?_⟩
      have ews := o8_rpl r7
      subst ews
      have hp3 : p3 ≠ p := fun e => by
        rw [e, gone] at h7
        cases h7
      have back : ∀ o, hid p (upd H7 p o) = H7 := fun o => by
        rw [hid_upd]
        funext y
        unfold hid
        split
        · rename_i e
          rw [e]
          exact gone.symm
        · rfl
      obtain ⟨kv6, hq6, _⟩ := z6.lib.ex
      have e7 : Env K H7 (σ.set 4 (some (V.int (b.length : Nat)))) ([none, some (libD A q), none, some (.v (.int ((pre.flatMap encB).length : Nat))), none, none].set 4 (some (.v (.int (b.length : Nat))))) := ((((env1.mono (hid_mono s26)).hidD hq6).mono s7).mono hid_same)
      refine asg_nx ?_
      try dsimp only
      have l8 : (upd H7 p (.lst ((outs0.flatMap outI).map V.int))) p = some (.lst ((outs0.flatMap outI).map V.int)) := upd_same
      have h8 : (upd H7 p (.lst ((outs0.flatMap outI).map V.int))) p3 = some (.lst (out.map o8)) := by rw [upd_ne hp3]; exact h7
      have tot : (outs0.flatMap outI).length + 1 + out.length ≤ 10000000 := by
        have := hos
        rw [eouts, List.flatMap_append, List.flatMap_cons, List.length_append, List.length_append] at this
        simp [outI] at this ⊢
        omega
      have sl : ∀ {i : Nat} {v : V}, i ≠ 4 → i ≠ 5 → i ≠ 3 → σ[i]? = some (some v) → ((((σ.set 4 (some (V.int (b.length : Nat)))).set 5 (some (.ref p3))).set 3 (some (.int ((((pre.flatMap encB).length : Nat) : Int) + (2 + (b.length : Nat)))))))[i]? = some (some v) := fun {i v} h4 h5 h3 e => by
        rw [List.getElem?_set_ne (Ne.symm h3), List.getElem?_set_ne (Ne.symm h5), List.getElem?_set_ne (Ne.symm h4)]
        exact e
      have six : σ.length = 6 := z.env.len
      refine s_seq ⟨.int ((pre.flatMap encB).length : Nat), by rw [List.getElem?_set_ne (by decide), List.getElem?_set_ne (by decide)]; exact hs3, .int (b.length : Nat), by rw [List.getElem?_set_ne (by decide), List.getElem?_set_self (by omega)], .inl ⟨2, _, rfl, rfl, _, _, rfl, rfl, ?_⟩⟩
      try dsimp only
      have hs5 : ((((σ.set 4 (some (V.int (b.length : Nat)))).set 5 (some (.ref p3))).set 3 (some (.int ((((pre.flatMap encB).length : Nat) : Int) + (2 + (b.length : Nat)))))))[5]? = some (some (.ref p3)) := by
        rw [List.getElem?_set_ne (by decide), List.getElem?_set_self (by simp; omega)]
      have hs2 := sl (by decide) (by decide) (by decide) z.s2
      refine s_seq ⟨_, hs2, .inl ⟨rfl, _, SqL.of l8⟩, _, hs5, _, out.length, rfl, .inl ⟨_, SqL.of h8, by simp⟩, nil_of ⟨p, _, _, rfl, rfl, l8, ?_, ?_⟩⟩
      · rw [List.length_map]
        exact Nat.lt_of_lt_of_le (show _ < 16000000 by omega) (by decide)
      try dsimp only
      have l9 : (upd (upd H7 p (.lst ((outs0.flatMap outI).map V.int))) p (.lst ((outs0.flatMap outI).map V.int ++ [.int (out.length : Nat)]))) p = some (.lst ((outs0.flatMap outI).map V.int ++ [.int (out.length : Nat)])) := upd_same
      have h9 : (upd (upd H7 p (.lst ((outs0.flatMap outI).map V.int))) p (.lst ((outs0.flatMap outI).map V.int ++ [.int (out.length : Nat)]))) p3 = some (.lst (out.map o8)) := by rw [upd_ne hp3]; exact h8
      refine ⟨_, hs2, .inl ⟨rfl, _, SqL.of l9⟩, _, hs5, nil_of (.inl ⟨p, _, _, _, rfl, rfl, l9, h9, ?_, ?_⟩)⟩
      · simp only [List.length_append, List.length_map, List.length_singleton]
        exact Nat.le_trans (show _ ≤ 16000000 by omega) (by decide)
      have hfin : hid p (upd (upd (upd H7 p (.lst ((outs0.flatMap outI).map V.int))) p (.lst ((outs0.flatMap outI).map V.int ++ [.int (out.length : Nat)]))) p (.lst ((outs0.flatMap outI).map V.int ++ [.int (out.length : Nat)] ++ out.map o8))) = H7 := by
        rw [hid_upd, hid_upd]
        exact back _
      have eat : (((pre ++ [b]).flatMap encB).length : Int) = (((pre.flatMap encB).length : Nat) : Int) + (2 + (b.length : Nat)) := by
        rw [List.flatMap_append, List.length_append]
        simp [encB]
        omega
      refine ⟨?_, ?_, ?_, sl (by decide) (by decide) (by decide) z.s0, sl (by decide) (by decide) (by decide) z.s1, hs2, z.cal, ?_⟩
      · rw [hfin]
        exact z6.S.trans s7
      · rw [hfin]
        exact L7
      · rw [hfin, eat]
        exact (((e7.drop 5 (some (.ref p3))).set 3 (d := .v (.int ((((pre.flatMap encB).length : Nat) : Int) + (2 + (b.length : Nat))))) (.v _)).forget 4)
      · rw [upd_same]
        congr 2
        rw [List.flatMap_append]
        simp [outI, o8]
end
end Tg
end

section
set_option Elab.async false
set_option linter.all false
set_option maxRecDepth 100000
set_option maxHeartbeats 400000
/-! The calls as they are handed in. -/
namespace Tg
open PySem PySem.Spec PyProof.Rows L2
open R7292f
theorem flat_calls : ∀ (f : Nat) (l : List Int) (cs : List (List (List Int))), PyFlat.calls PyZn85.shape f l = some cs → ∃ rows : List (List Int), cs = rows.map (fun r => [[0], r]) ∧ l = rows.flatMap fun r => 0 :: (r.length : Int) :: r
  | _, [], cs, h => by
    have e : cs = [] := by
      cases f_ : (0 : Nat) <;> first | (unfold PyFlat.calls at h; cases h; rfl)
    subst e
    exact ⟨[], rfl, rfl⟩
  | 0, p :: r, cs, h => by
    unfold PyFlat.calls at h
    cases h
  | f + 1, p :: r, cs, h => by
    unfold PyFlat.calls at h
    cases hc : PyFlat.call PyZn85.shape (p :: r) with
    | none =>
      rw [hc] at h
      cases h
    | some v =>
      obtain ⟨c, t⟩ := v
      rw [hc] at h
      simp only [] at h
      cases hr : PyFlat.calls PyZn85.shape f t with
      | none =>
        rw [hr] at h
        cases h
      | some cs' =>
        rw [hr] at h
        cases h
        obtain ⟨rows, e1, e2⟩ := flat_calls f t cs' hr
        unfold PyFlat.call PyZn85.shape at hc
        simp only [] at hc
        by_cases hp : p = 0
        · rw [if_pos hp] at hc
          simp only [] at hc
          rw [if_neg (by simp)] at hc
          rw [List.drop_zero] at hc
          cases r with
          | nil => simp [PyFlat.rows, PyFlat.row] at hc
          | cons n r' =>
            unfold PyFlat.rows PyFlat.row at hc
            simp only [] at hc
            by_cases hn : 0 ≤ n ∧ n.toNat ≤ r'.length
            · rw [if_pos hn] at hc
              simp only [PyFlat.rows] at hc
              cases hc
              refine ⟨r'.take n.toNat :: rows, by rw [e1, hp]; rfl, ?_⟩
              rw [List.flatMap_cons, ← e2, hp]
              have hl : ((r'.take n.toNat).length : Int) = n := by
                rw [List.length_take]
                omega
              rw [hl]
              simp
            · rw [if_neg hn] at hc
              cases hc
        · rw [if_neg hp] at hc
          cases hc
theorem whole_map (rows : List (List Int)) : ((rows.map fun r => [[0], r]).map PyZn85.whole) = rows.map fun r => [r] := by
  rw [List.map_map]
  apply List.map_congr_left
  intro r _
  rfl
theorem bytes_back {r : List Int} (h : NeutralIO.bytes r = true) : (Zn85Neutral.bytesOf r).map (fun c => (c.toNat : Int)) = r := by
  unfold Zn85Neutral.bytesOf
  rw [List.map_map]
  conv => rhs; rw [← List.map_id r]
  apply List.map_congr_left
  intro n hn
  have := List.all_eq_true.mp h n hn
  simp only [Bool.and_eq_true, decide_eq_true_eq] at this
  show ((UInt8.ofNat n.toNat).toNat : Int) = n
  simp
  omega
theorem enc_rows {rows : List (List Int)} (h : ∀ r ∈ rows, NeutralIO.bytes r = true) : (rows.flatMap fun r => 0 :: (r.length : Int) :: r) = (rows.map Zn85Neutral.bytesOf).flatMap encB := by
  induction rows with
  | nil => rfl
  | cons r rs ih =>
    rw [List.flatMap_cons, List.map_cons, List.flatMap_cons, ih fun x hx => h x (List.mem_cons_of_mem _ hx)]
    congr 1
    unfold encB
    rw [bytes_back (h r List.mem_cons_self)]
    simp [Zn85Neutral.bytesOf]
/-! ### signs -/
def AscS (s : String) : Prop := ∀ c ∈ s.toList, c.toNat < 128
theorem AscS.app {a b : String} (h1 : AscS a) (h2 : AscS b) : AscS (a ++ b) := fun c hc => by
  rw [String.toList_append] at hc
  rcases List.mem_append.mp hc with h | h
  · exact h1 c h
  · exact h2 c h
theorem asc_of {s : String} (h : (s.toList.all fun c => decide (c.toNat < 128)) = true) : AscS s := fun c hc => of_decide_eq_true (List.all_eq_true.mp h c hc)
theorem asc_num0 : ∀ n : Fin 301, ∀ c ∈ (toString n.val).toList, c.toNat < 128 := by decide +kernel
theorem asc_num {n : Nat} (h : n ≤ 300) : AscS (toString n) := asc_num0 ⟨n, by omega⟩
theorem asc_units {s : String} (h : AscS s) : ∀ x ∈ Spec.units s, x.toNat < 128 := by
  unfold Spec.units
  rw [units_small _ fun c hc => Nat.lt_trans (h c hc) (by decide)]
  intro x hx
  obtain ⟨c, hc, rfl⟩ := List.mem_map.mp hx
  have := h c hc
  simp
  omega
def AscE (e : Spec.Err) : Prop := ∀ x ∈ e.msg, x.toNat < 128
theorem asc_read {pre : String} (h : AscS pre) {tags : List Spec.Units} {u : Spec.Units} (hu : u.length ≤ 60) {e : Spec.Err} (he : Spec.readFilter pre tags u = .error e) : AscE e := by
  unfold Spec.readFilter at he
  cases hr : Spec.read (Spec.tokensOf u) with
  | error m =>
    rw [hr] at he
    cases he
    have := place_le (u := u) (n := m)
    exact asc_units ((h.app (asc_of (by decide +kernel))).app (asc_num (by omega)))
  | ok F =>
    rw [hr] at he
    simp only [] at he
    cases hf : (Spec.cut u).find? (Spec.isUnknown tags) with
    | none =>
      rw [hf] at he
      cases he
    | some t =>
      rw [hf] at he
      cases he
      have := cutBy_at _ _ _ t (List.mem_of_find?_eq_some hf)
      exact asc_units ((h.app (asc_of (by decide +kernel))).app (asc_num (by omega)))
theorem asc_farg {name : String} (h : AscS name) {tags : List Spec.Units} {p : Spec.Plain} {e : Spec.Err} (he : Spec.filterArg name tags p = .error e) : AscE e := by
  unfold Spec.filterArg at he
  cases ht : Spec.textIn p with
  | none =>
    rw [ht] at he
    cases he
    exact asc_units (h.app (asc_of (by decide +kernel)))
  | some u =>
    rw [ht] at he
    obtain ⟨_, hu⟩ := textIn_some ht
    exact asc_read (asc_of (by decide +kernel)) hu (show Spec.readFilter "" tags u = .error e from he)
theorem asc_tags {x : Spec.Plain} {e : Spec.Err} (he : Spec.tagsArg x = .error e) : AscE e := by
  unfold Spec.tagsArg at he
  have h' : Spec.andThen (Spec.orElse Spec.noTags (Spec.listIn 1 5 Spec.nameIn x)) (fun l => Spec.andThen (Spec.check Spec.sameTags (Spec.allDifferent l)) fun _ => .ok l) = .error e := he
  cases hl : Spec.listIn 1 5 Spec.nameIn x with
  | none =>
    rw [hl] at h'
    cases h'
    exact asc_units (asc_of (by decide +kernel))
  | some l =>
    rw [hl] at h'
    have h2 : Spec.andThen (Spec.check Spec.sameTags (Spec.allDifferent l)) (fun _ => (.ok l : Spec.Res (List Spec.Units))) = .error e := h'
    cases hd : Spec.allDifferent l with
    | true =>
      rw [hd] at h2
      cases h2
    | false =>
      rw [hd] at h2
      cases h2
      exact asc_units (asc_of (by decide +kernel))
theorem asc_all {tags : List Spec.Units} : ∀ (l : List (Spec.Units × Spec.Units)) (k : Nat) (e : Spec.Err), k + l.length ≤ 200 → (∀ x ∈ l, x.2.length ≤ 60) → Spec.readAll tags k l = .error e → AscE e
  | [], _, _, _, _, h => by cases h
  | x :: l, k, e, hk, hl, h => by
    unfold Spec.readAll at h
    cases hf : Spec.readFilter ("definition " ++ toString k ++ ": ") tags x.2 with
    | error e2 =>
      rw [hf] at h
      cases h
      simp at hk
      exact asc_read (((asc_of (by decide +kernel)).app (asc_num (by omega))).app (asc_of (by decide +kernel))) (hl x List.mem_cons_self) hf
    | ok F =>
      rw [hf] at h
      have h' : Spec.andThen (Spec.readAll tags (k + 1) l) (fun m => .ok ((x.1, Spec.tableOf tags F) :: m)) = .error e := h
      cases hr : Spec.readAll tags (k + 1) l with
      | ok m =>
        rw [hr] at h'
        cases h'
      | error e2 =>
        rw [hr] at h'
        cases h'
        exact asc_all l (k + 1) e (by simp at hk; omega) (fun y hy => hl y (List.mem_cons_of_mem _ hy)) hr
theorem asc_new {x y : Spec.Plain} {e : Spec.Err} (h : Spec.newFn x y = .error e) : AscE e := by
  rw [newFn_eq] at h
  cases ht : Spec.tagsArg x with
  | error e2 =>
    rw [ht] at h
    cases h
    exact asc_tags ht
  | ok tags =>
    rw [ht] at h
    simp only [] at h
    cases hl : Spec.listIn 0 5 Spec.pairIn y with
    | none =>
      rw [hl] at h
      cases h
      exact asc_units (asc_of (by decide +kernel))
    | some l =>
      rw [hl] at h
      simp only [] at h
      obtain ⟨_, _, hl5, hprs⟩ := listIn_some (g := fun e : Spec.Units × Spec.Units => .arr [.str e.1, .str e.2]) (fun x y h => (pairIn_some h).1) hl
      split at h
      · cases hr : Spec.readAll tags 0 l with
        | ok defs =>
          rw [hr] at h
          cases h
        | error e2 =>
          rw [hr] at h
          cases h
          exact asc_all l 0 e (by omega) (fun z hz => (pairIn_some (hprs z hz)).2.2) hr
      · cases h
        exact asc_units (asc_of (by decide +kernel))
end Tg
end

section
set_option Elab.async false
set_option linter.all false
set_option maxRecDepth 100000
set_option maxHeartbeats 400000
/-! What a call is due, as the doors' data. -/
namespace Tg
open PySem PySem.Spec PyProof.Rows L2
open R7292f
theorem narrowAll_mem : ∀ {l : List Spec.Plain}, Rust.narrowAll l = true → ∀ p ∈ l, Rust.narrow p = true
  | [], _, _, h => by cases h
  | v :: r, h, p, hp => by
    unfold Rust.narrowAll at h
    obtain ⟨h1, h2⟩ := Bool.and_eq_true_iff.mp h
    rcases List.mem_cons.mp hp with e | e
    · subst e
      exact h1
    · exact narrowAll_mem h2 p e
theorem nar_arr {l : List Spec.Plain} (h : Rust.narrow (.arr l) = true) : ∀ p ∈ l, Rust.narrow p = true := narrowAll_mem (by unfold Rust.narrow at h; exact h)
theorem nar_str {u : Spec.Units} (h : Rust.narrow (.str u) = true) : Rust.narrowText u = true := by
  unfold Rust.narrow Rust.wideTold at h
  simpa using h
theorem an_tup {d : Nat} {u : Spec.Units} (h : Rust.narrow (.str u) = true) : AnR (d + 1) (.str u) (plD (.str u)) := ⟨nar_str h, .inl rfl⟩
theorem an_lst {d : Nat} {u : Spec.Units} (h : Rust.narrow (.str u) = true) : AnR (d + 1) (.str u) (txtL u) := ⟨nar_str h, .inr rfl⟩
theorem an_map {α : Type} {d : Nat} {l : List α} {f : α → Spec.Plain} {g : α → Dat} (h : ∀ a ∈ l, AnR d (f a) (g a)) : AnR (d + 1) (.arr (l.map f)) (.tup [.v (.int 7), .tup (l.map g)]) := by
  refine ⟨_, rfl, by rw [List.length_map, List.length_map], fun i p y h1 h2 => ?_⟩
  rw [List.getElem?_map] at h1 h2
  cases hi : l[i]? with
  | none =>
    rw [hi] at h1
    cases h1
  | some a =>
    rw [hi] at h1 h2
    cases h1
    cases h2
    exact h a (List.mem_of_getElem? hi)
theorem an_names {d : Nat} {l : List Spec.Units} (h : Rust.narrow (Spec.namesPlain l) = true) : AnR (d + 2) (Spec.namesPlain l) (plD (Spec.namesPlain l)) := by
  have e : plD (Spec.namesPlain l) = .tup [.v (.int 7), .tup (l.map fun u => plD (.str u))] := by
    unfold Spec.namesPlain
    rw [plD, plDs_map, List.map_map]
    rfl
  rw [e]
  exact an_map fun u hu => an_tup (nar_arr h _ (List.mem_map_of_mem hu))
theorem res_ok {p : Spec.Plain} {d : Dat} (ha : AnR 4 p d) (hl : (RWire.writeAnswer (Rust.answerOf (.ret p))).length ≤ 65536) : ResB (.ok d) (RWire.writeAnswer (Rust.answerOf (.ret p))) := by
  have e : RWire.writeAnswer (Rust.answerOf (.ret p)) = 0 :: wr p := rfl
  rw [e] at hl ⊢
  exact .ok ha (by rw [List.length_cons] at hl; omega)
theorem res_err {e : Spec.Err} (ha : AscE e) (hl : (RWire.writeAnswer (Rust.answerOf (.fail e))).length ≤ 65536) : ResB (.error (errOf e)) (RWire.writeAnswer (Rust.answerOf (.fail e))) := by
  have h : RWire.writeAnswer (Rust.answerOf (.fail e)) = 1 :: UInt8.ofNat (Rust.classOf e.cls) :: (RWire.low 4 e.msg.length ++ e.msg.map Rust.octetOf) := by
    show 1 :: UInt8.ofNat (Rust.classOf e.cls) :: (RWire.low 4 (e.msg.map Rust.octetOf).length ++ e.msg.map Rust.octetOf) = _
    rw [List.length_map]
  rw [h] at hl ⊢
  refine .err (by cases e.cls <;> decide) ha ?_
  simp only [List.length_cons, List.length_append, List.length_map] at hl
  omega
theorem nar_of {p : Spec.Plain} (h : Rust.tellable (.ret p) = true) : Rust.narrow p = true := by
  unfold Rust.tellable at h
  exact (Bool.and_eq_true_iff.mp h).1
/-- what a call does and answers -/
def GotC (A : Ad) (w : Spec.World) (c : Spec.Call) (args : List Spec.Plain) (dr : Nat) : Prop :=
  ∃ r, PC A w.boards args dr (Spec.execute w c).1.boards r ∧ (∀ er, r = .error er → (Spec.execute w c).1.boards = w.boards) ∧ ResB r (RWire.writeAnswer (Rust.answerOf (Spec.execute w c).2))
def TellC (w : Spec.World) (c : Spec.Call) : Prop := Rust.tellable (Spec.execute w c).2 = true ∧ (RWire.writeAnswer (Rust.answerOf (Spec.execute w c).2)).length ≤ 65536
variable {A : Ad} {w : Spec.World} {args : List Spec.Plain}
theorem on_eq {i : Nat} {c : Spec.Change} (h : w.boards.getD i none = some c) (f : Spec.Change → Spec.World × Spec.Ans) : Spec.onChange w i f = f c := by
  unfold Spec.onChange
  rw [h]
theorem an_undef {d : Nat} : AnR (d + 1) .undef (.tup [.v (.int 0)]) := rfl
theorem an_null {d : Nat} : AnR (d + 1) .null nullD := rfl
theorem an_bool {d : Nat} (b : Bool) : AnR (d + 1) (.bool b) (tellD b) := rfl
theorem got_create {p : Nat} {x y : Spec.Plain} (h0 : args[0]? = some (.num (some (p : Int)))) (h1 : args[1]? = some x) (h2 : args[2]? = some y) (t : TellC w (.create p x y)) : GotC A w (.create p x y) args 0 := by
  unfold TellC at t
  unfold GotC
  have e : Spec.execute w (.create p x y) = Spec.made w p (Spec.newFn x y) := rfl
  rw [e] at t ⊢
  cases hn : Spec.newFn x y with
  | error er =>
    rw [hn] at t
    exact ⟨_, .newErr h0 h1 h2 hn, fun _ _ => rfl, res_err (asc_new hn) t.2⟩
  | ok c =>
    rw [hn] at t
    exact ⟨_, .newOk h0 h1 h2 hn, fun _ h => (by cases h), res_ok an_undef t.2⟩
theorem got_fol {i j p : Nat} {c d : Spec.Change} (h0 : args[0]? = some (.num (some (i : Int)))) (h1 : args[1]? = some (.num (some (j : Int)))) (h2 : args[2]? = some (.num (some (p : Int)))) (hc : w.boards.getD i none = some c) (hd : w.boards.getD j none = some d)
    (t : TellC w (.followedBy i j p)) : GotC A w (.followedBy i j p) args 1 := by
  unfold TellC at t
  unfold GotC
  have e : Spec.execute w (.followedBy i j p) = Spec.made w p (Spec.chainFn c d) := by
    show Spec.onChange w i _ = _
    rw [on_eq hc, on_eq hd]
  rw [e] at t ⊢
  cases hn : Spec.chainFn c d with
  | error er =>
    rw [hn] at t
    refine ⟨_, .folErr h0 h1 h2 hc hd hn, fun _ _ => rfl, res_err ?_ t.2⟩
    unfold Spec.chainFn at hn
    split at hn
    · cases hn
    · cases hn
      exact asc_units (asc_of (by decide +kernel))
  | ok e2 =>
    rw [hn] at t
    exact ⟨_, .folOk h0 h1 h2 hc hd hn, fun _ h => (by cases h), res_ok an_undef t.2⟩
theorem got_back {i p : Nat} {c : Spec.Change} (h0 : args[0]? = some (.num (some (i : Int)))) (h1 : args[1]? = some (.num (some (p : Int)))) (hc : w.boards.getD i none = some c) (t : TellC w (.back i p)) : GotC A w (.back i p) args 2 := by
  unfold TellC at t
  unfold GotC
  cases hl : Spec.isLossless c with
  | true =>
    have e : Spec.execute w (.back i p) = ({ w with boards := w.boards.set p (some (Spec.backOf c)) }, .ret (.bool true)) := by
      show Spec.onChange w i _ = _
      rw [on_eq hc, hl]
      rfl
    rw [e] at t ⊢
    exact ⟨_, .backYes h0 h1 hc hl, fun _ h => (by cases h), res_ok (an_bool true) t.2⟩
  | false =>
    have e : Spec.execute w (.back i p) = (w, .ret (.bool false)) := by
      show Spec.onChange w i _ = _
      rw [on_eq hc, hl]
      rfl
    rw [e] at t ⊢
    exact ⟨_, .backNo h0 h1 hc hl, fun _ h => (by cases h), res_ok (an_bool false) t.2⟩
theorem an_defs {c : Spec.Change} (h : Rust.narrow (Spec.definitionsPlain c) = true) : AnR 4 (Spec.definitionsPlain c) (defsD c) := by
  refine ⟨_, rfl, by rw [List.length_map, List.length_map, List.length_range], fun i p y h1 h2 => ?_⟩
  have hp := nar_arr h p (List.mem_of_getElem? h1)
  rw [List.getElem?_map] at h1 h2
  by_cases hi : i < c.defs.length
  · rw [List.getElem?_eq_getElem hi] at h1
    rw [List.getElem?_range hi] at h2
    cases h1
    cases h2
    refine ⟨_, rfl, rfl, fun j p' y' h3 h4 => ?_⟩
    have hp' := nar_arr hp p' (List.mem_of_getElem? h3)
    match j, h3, h4 with
    | 0, h3, h4 =>
      cases h3
      cases h4
      have e : (Spec.newTags c).getD i [] = c.defs[i].1 := by
        unfold Spec.newTags
        rw [List.getD_eq_getElem?_getD, List.getElem?_map, List.getElem?_eq_getElem hi]
        rfl
      rw [e]
      exact an_tup hp'
    | 1, h3, h4 =>
      cases h3
      cases h4
      rw [def_eq c hi]
      exact an_lst hp'
    | j + 2, h3, _ => cases h3
  · rw [List.getElem?_eq_none (by omega)] at h1
    cases h1
theorem an_lost {c : Spec.Change} (h : Rust.narrow (Spec.lostPlain c) = true) : AnR 4 (Spec.lostPlain c) (lostD c) := by
  have e : Spec.lostTags c = (List.range c.old.length).filter (lostM c) := List.filter_congr fun i _ => (lost_eq c i).symm
  have e2 : Spec.lostPlain c = .arr (((List.range c.old.length).filter (lostM c)).map fun i => .str (c.old.getD i [])) := by
    unfold Spec.lostPlain Spec.namesPlain
    rw [e, List.map_map]
    rfl
  rw [e2] at h ⊢
  exact an_map fun i hi => an_tup (nar_arr h _ (List.mem_map_of_mem hi))
theorem got_plain {dr : Nat} {c : Spec.Call} {p : Spec.Plain} {d : Dat} (e : Spec.execute w c = (w, .ret p)) (pc : PC A w.boards args dr w.boards (.ok d)) (ha : Rust.narrow p = true → AnR 4 p d) (t : TellC w c) : GotC A w c args dr := by
  unfold TellC at t
  unfold GotC
  rw [e] at t ⊢
  exact ⟨_, pc, fun _ h => (by cases h), res_ok (ha (nar_of t.1)) t.2⟩
theorem got_fail {dr : Nat} {c : Spec.Call} {e : Spec.Err} (h : Spec.execute w c = (w, .fail e)) (pc : PC A w.boards args dr w.boards (.error (errOf e))) (ha : AscE e) (t : TellC w c) : GotC A w c args dr := by
  unfold TellC at t
  unfold GotC
  rw [h] at t ⊢
  exact ⟨_, pc, fun _ _ => rfl, res_err ha t.2⟩
theorem got_apply {i : Nat} {c : Spec.Change} {y : Spec.Plain} (h0 : args[0]? = some (.num (some (i : Int)))) (h1 : args[1]? = some y) (hc : w.boards.getD i none = some c) (t : TellC w (.apply i y)) : GotC A w (.apply i y) args 4 := by
  cases hi : Spec.itemIn c.old y with
  | none =>
    refine got_fail ?_ (.applyErr h0 h1 hc hi) (asc_units (asc_of (by decide +kernel))) t
    show Spec.onChange w i _ = _
    rw [on_eq hc]
    unfold Spec.applyFn
    rw [hi]
    rfl
  | some l =>
    refine got_plain (p := Spec.namesPlain (Spec.tagsOf (Spec.newTags c) (Spec.imageOf c (Spec.maskOf c.old l)))) ?_ (.applyOk h0 h1 hc hi) an_names t
    show Spec.onChange w i _ = _
    rw [on_eq hc]
    unfold Spec.applyFn
    rw [hi]
    rfl
theorem got_filter {i dr : Nat} {c : Spec.Change} {y : Spec.Plain} {k : Spec.Call} {f : (Nat → Bool) → Spec.Plain} (h5 : 5 ≤ dr) (h9 : dr ≤ 9) (e : Spec.execute w k = (w, Spec.answer id (Spec.onFilter c y f))) (hf : ∀ on, Rust.narrow (f on) = true → AnR 4 (f on) (onF c dr on))
    (h0 : args[0]? = some (.num (some (i : Int)))) (h1 : args[1]? = some y) (hc : w.boards.getD i none = some c) (t : TellC w k) : GotC A w k args dr := by
  have pc : PC A w.boards args dr w.boards (onR c dr y) := .filter h0 h1 hc h5 h9
  unfold onR at pc
  unfold Spec.onFilter at e
  cases ha : Spec.filterArg "filter" c.old y with
  | error er =>
    rw [ha] at pc e
    exact got_fail e pc (asc_farg (asc_of (by decide +kernel)) ha) t
  | ok F =>
    rw [ha] at pc e
    exact got_plain e pc (hf _) t
theorem an_clash {c : Spec.Change} {on : Nat → Bool} (h : Rust.narrow (Spec.clashPlain c on) = true) : AnR 4 (Spec.clashPlain c on) (onF c 9 on) := by
  unfold onF
  rw [if_neg (by decide), if_neg (by decide), if_neg (by decide), ← clash_eq]
  unfold Spec.clashPlain at h ⊢
  cases hc : Spec.clash c on with
  | none => rfl
  | some p =>
    rw [hc] at h
    have h' : Rust.narrow (.arr [Spec.namesPlain (Spec.tagsOf c.old p.1), Spec.namesPlain (Spec.tagsOf c.old p.2)]) = true := h
    refine ⟨_, rfl, rfl, fun j p' y' h3 h4 => ?_⟩
    have hp' := nar_arr h' p' (List.mem_of_getElem? h3)
    match j, h3, h4 with
    | 0, h3, h4 =>
      cases h3
      cases h4
      exact an_names hp'
    | 1, h3, h4 =>
      cases h3
      cases h4
      exact an_names hp'
    | j + 2, h3, _ => cases h3
theorem an_survives {c : Spec.Change} {on : Nat → Bool} : AnR 4 (.bool (Spec.survives c on)) (onF c 5 on) := by
  unfold onF
  rw [if_pos rfl, survives_eq]
  exact an_bool _
theorem an_rewrite {c : Spec.Change} {on : Nat → Bool} (h : Rust.narrow (if Spec.survives c on then .str (Spec.newText c (Spec.least c on)) else .null) = true) : AnR 4 (if Spec.survives c on then .str (Spec.newText c (Spec.least c on)) else .null) (onF c 6 on) := by
  have e : onF c 6 on = if (6 : Nat) = 7 ∨ (clashM c.old.length (Spec.imageOf c) on).isNone = true then txtL (leastU c.old (Spec.newTags c) (Spec.imageOf c) on) else nullD := rfl
  rw [e, least_eq]
  rw [survives_eq] at h ⊢
  cases hc : (clashM c.old.length (Spec.imageOf c) on).isNone with
  | true =>
    rw [hc] at h
    rw [if_pos rfl, if_pos (.inr rfl)]
    exact an_lst h
  | false =>
    rw [if_neg (by decide), if_neg (by decide)]
    rfl
theorem an_least {c : Spec.Change} {on : Nat → Bool} (h : Rust.narrow (.str (Spec.newText c (Spec.least c on))) = true) : AnR 4 (.str (Spec.newText c (Spec.least c on))) (onF c 7 on) := by
  unfold onF
  rw [if_neg (by decide), if_pos (by decide), if_pos (.inl rfl), least_eq]
  exact an_lst h
theorem an_greatest {c : Spec.Change} {on : Nat → Bool} (h : Rust.narrow (.str (Spec.newText c (Spec.greatest c on))) = true) : AnR 4 (.str (Spec.newText c (Spec.greatest c on))) (onF c 8 on) := by
  unfold onF
  rw [if_neg (by decide), if_neg (by decide), if_pos rfl, greatest_eq]
  exact an_lst h
theorem map_beq {α : Type} (f g : α → Bool) : ∀ l : List α, (l.map f == l.map g) = l.all fun m => f m == g m
  | [] => rfl
  | x :: l => by
    rw [List.map_cons, List.map_cons, List.all_cons, List.cons_beq_cons, map_beq f g l]
theorem got_tags {dr : Nat} {x y z : Spec.Plain} {k : Spec.Call} (h : (dr = 12 ∧ k = .canonical x y) ∨ (dr = 13 ∧ k = .equivalent x y z) ∨ (dr = 14 ∧ k = .exampleItem x y z)) (h0 : args[0]? = some x) (h1 : args[1]? = some y) (h2 : args[2]? = some z) (t : TellC w k) : GotC A w k args dr := by
  have pc : PC A w.boards args dr w.boards (onTR dr x y z) := .tags h0 h1 h2 (by omega) (by omega)
  unfold onTR at pc
  cases hx : Spec.tagsArg x with
  | error er =>
    rw [hx] at pc
    refine got_fail ?_ pc (asc_tags hx) t
    rcases h with ⟨_, rfl⟩ | ⟨_, rfl⟩ | ⟨_, rfl⟩
    · show (w, Spec.answer id (Spec.andThen (Spec.tagsArg x) _)) = _
      rw [hx]
      rfl
    · show (w, Spec.answer id (Spec.andThen (Spec.tagsArg x) _)) = _
      rw [hx]
      rfl
    · show (w, Spec.answer id (Spec.andThen (Spec.tagsArg x) _)) = _
      rw [hx]
      rfl
  | ok tags =>
    rw [hx] at pc
    simp only [] at pc
    by_cases h12 : dr = 12
    · rw [if_pos h12] at pc
      obtain ⟨_, rfl⟩ : dr = 12 ∧ k = .canonical x y := by
        rcases h with h | ⟨h, _⟩ | ⟨h, _⟩
        · exact h
        · omega
        · omega
      have e : Spec.execute w (.canonical x y) = (w, Spec.answer id (Spec.andThen (Spec.filterArg "filter" tags y) fun a => .ok (.str (Spec.canonical tags (fun m => Spec.holds tags m a) Spec.never)))) := by
        show (w, Spec.answer id (Spec.andThen (Spec.tagsArg x) _)) = _
        rw [hx]
        rfl
      cases hy : Spec.filterArg "filter" tags y with
      | error er =>
        rw [hy] at pc e
        exact got_fail e pc (asc_farg (asc_of (by decide +kernel)) hy) t
      | ok F =>
        rw [hy] at pc e
        exact got_plain e pc an_lst t
    · rw [if_neg h12] at pc
      obtain ⟨g, e, hg⟩ : ∃ g : List Spec.Units → Spec.Filter → Spec.Filter → Spec.Plain, Spec.execute w k = (w, Spec.answer id (Spec.twoFn g x y z)) ∧ ∀ F G, Rust.narrow (g tags F G) = true → AnR 4 (g tags F G) (onT tags dr F G) := by
        rcases h with ⟨h, _⟩ | ⟨rfl, rfl⟩ | ⟨rfl, rfl⟩
        · omega
        · refine ⟨_, rfl, fun F G _ => ?_⟩
          unfold onT
          rw [if_pos rfl, map_beq]
          exact an_bool _
        · refine ⟨_, rfl, fun F G hn => ?_⟩
          unfold onT
          rw [if_neg (by decide)]
          cases he : Spec.exampleOf tags F G with
          | none => rfl
          | some m =>
            rw [he] at hn
            exact an_names hn
      unfold Spec.twoFn at e
      rw [hx] at e
      have e' : Spec.execute w k = (w, Spec.answer id (Spec.andThen (Spec.filterArg "first" tags y) fun a => Spec.andThen (Spec.filterArg "second" tags z) fun b => .ok (g tags a b))) := e
      cases hy : Spec.filterArg "first" tags y with
      | error er =>
        rw [hy] at pc e'
        exact got_fail e' pc (asc_farg (asc_of (by decide +kernel)) hy) t
      | ok F =>
        rw [hy] at pc e'
        have e2 : Spec.execute w k = (w, Spec.answer id (Spec.andThen (Spec.filterArg "second" tags z) fun b => .ok (g tags F b))) := e'
        cases hz : Spec.filterArg "second" tags z with
        | error er =>
          simp only [hz] at pc
          rw [hz] at e2
          exact got_fail e2 pc (asc_farg (asc_of (by decide +kernel)) hz) t
        | ok G =>
          simp only [hz] at pc
          rw [hz] at e2
          exact got_plain e2 pc (hg F G) t
end Tg
end

section
set_option Elab.async false
set_option linter.all false
set_option maxRecDepth 100000
set_option maxHeartbeats 400000
/-! All the calls that may occur. -/
namespace Tg
open PySem PySem.Spec PyProof.Rows L2
open R7292f
theorem noBig_mem : ∀ {l : List RWire.Value}, RWire.noBigMany l = true → ∀ v ∈ l, RWire.noBig v = true
  | [], _, _, h => by cases h
  | v :: r, h, x, hx => by
    unfold RWire.noBigMany at h
    obtain ⟨h1, h2⟩ := Bool.and_eq_true_iff.mp h
    rcases List.mem_cons.mp hx with e | e
    · subst e
      exact h1
    · exact noBig_mem h2 x e
theorem noBig_ent : ∀ {l : List (RWire.Text × RWire.Value)}, RWire.noBigEntries l = true → ∀ v ∈ l, RWire.noBig v.2 = true
  | [], _, _, h => by cases h
  | v :: r, h, x, hx => by
    unfold RWire.noBigEntries at h
    obtain ⟨h1, h2⟩ := Bool.and_eq_true_iff.mp h
    rcases List.mem_cons.mp hx with e | e
    · subst e
      exact h1
    · exact noBig_ent h2 x e
theorem noOct_mem : ∀ {l : List RWire.Value}, RWire.noOctetsMany l = true → ∀ v ∈ l, RWire.noOctets v = true
  | [], _, _, h => by cases h
  | v :: r, h, x, hx => by
    unfold RWire.noOctetsMany at h
    obtain ⟨h1, h2⟩ := Bool.and_eq_true_iff.mp h
    rcases List.mem_cons.mp hx with e | e
    · subst e
      exact h1
    · exact noOct_mem h2 x e
theorem noOct_ent : ∀ {l : List (RWire.Text × RWire.Value)}, RWire.noOctetsEntries l = true → ∀ v ∈ l, RWire.noOctets v.2 = true
  | [], _, _, h => by cases h
  | v :: r, h, x, hx => by
    unfold RWire.noOctetsEntries at h
    obtain ⟨h1, h2⟩ := Bool.and_eq_true_iff.mp h
    rcases List.mem_cons.mp hx with e | e
    · subst e
      exact h1
    · exact noOct_ent h2 x e
theorem noWide_mem : ∀ {l : List RWire.Value}, RWire.noWideMany l = true → ∀ v ∈ l, RWire.noWide v = true
  | [], _, _, h => by cases h
  | v :: r, h, x, hx => by
    unfold RWire.noWideMany at h
    obtain ⟨h1, h2⟩ := Bool.and_eq_true_iff.mp h
    rcases List.mem_cons.mp hx with e | e
    · subst e
      exact h1
    · exact noWide_mem h2 x e
theorem noWide_ent : ∀ {l : List (RWire.Text × RWire.Value)}, RWire.noWideEntries l = true → ∀ v ∈ l, RWire.noWide v.2 = true
  | [], _, _, h => by cases h
  | v :: r, h, x, hx => by
    unfold RWire.noWideEntries at h
    obtain ⟨h1, h2⟩ := Bool.and_eq_true_iff.mp h
    rcases List.mem_cons.mp hx with e | e
    · subst e
      exact h1
    · exact noWide_ent h2 x e
theorem vok_of : ∀ (n : Nat) (v : RWire.Value), RWire.noBig v = true → RWire.noOctets v = true → RWire.noWide v = true → Spec.Plain.shallow n (Rust.taken v) = true → vok (n + 1) v = true
  | _, .nothing, _, _, _, _ => rfl
  | _, .null, _, _, _, _ => rfl
  | _, .bool _, _, _, _, _ => rfl
  | _, .int _, _, _, _, _ => rfl
  | _, .text _, _, _, _, _ => rfl
  | _, .big _, h, _, _, _ => by cases h
  | _, .octets _, _, h, _, _ => by cases h
  | _, .wide _, _, _, h, _ => by cases h
  | 0, .list l, _, _, _, h => by
    rw [Rust.taken] at h
    cases h
  | 0, .record l, _, _, _, h => by
    rw [Rust.taken] at h
    cases h
  | n + 1, .list l, h1, h2, h3, h => by
    rw [Rust.taken, takenAll_map, Spec.Plain.shallow, List.all_map] at h
    refine List.all_eq_true.mpr fun v hv => vok_of n v ?_ ?_ ?_ (List.all_eq_true.mp h v hv)
    · exact noBig_mem (by rw [RWire.noBig] at h1; exact h1) v hv
    · exact noOct_mem (by rw [RWire.noOctets] at h2; exact h2) v hv
    · exact noWide_mem (by rw [RWire.noWide] at h3; exact h3) v hv
  | n + 1, .record l, h1, h2, h3, h => by
    rw [Rust.taken, takenFields_map, Spec.Plain.shallow] at h
    have h' := (Bool.and_eq_true_iff.mp h).2
    rw [List.all_map] at h'
    refine List.all_eq_true.mpr fun v hv => vok_of n v.2 ?_ ?_ ?_ (List.all_eq_true.mp h' v hv)
    · exact noBig_ent (by rw [RWire.noBig] at h1; exact h1) v hv
    · exact noOct_ent (by rw [RWire.noOctets] at h2; exact h2) v hv
    · exact noWide_ent (by rw [RWire.noWide] at h3; exact h3) v hv
theorem arg_at (l : List RWire.Value) (hl : l.length ≤ 3) {k : Nat} (hk : k < 3) : (padded l)[k]? = some (Rust.argAt (Rust.takenAll l) k) := by
  unfold padded Rust.argAt
  rw [takenAll_map, List.getD_eq_getElem?_getD]
  by_cases h : k < l.length
  · rw [List.getElem?_append_left (by rw [List.length_map]; exact h)]
    rw [List.getElem?_map, List.getElem?_eq_getElem h]
    rfl
  · rw [List.getElem?_append_right (by rw [List.length_map]; omega), List.length_map, List.getElem?_replicate, if_pos (by omega), List.getElem?_eq_none (by rw [List.length_map]; omega)]
    rfl
theorem slot_some {p : Spec.Plain} {s : Nat} (h : Rust.slotOf 2 p = some s) : p = .num (some (s : Int)) := by
  unfold Rust.slotOf at h
  cases p with
  | num x =>
    cases x with
    | none => cases h
    | some i =>
      have h' : (if decide (0 ≤ i) && Nat.ble i.toNat 2 then some i.toNat else none) = some s := h
      split at h'
      · rename_i hc
        cases h'
        have := of_decide_eq_true (Bool.and_eq_true_iff.mp hc).1
        have e : ((i.toNat : Nat) : Int) = i := by omega
        rw [e]
      · cases h'
  | _ => cases h
theorem vok_all {l : List RWire.Value} {n : Nat} (hk : Rust.ofKinds l = true) (hl : l.length ≤ n) (h : ∀ k, k < n → Spec.Plain.shallow 8 (Rust.argAt (Rust.takenAll l) k) = true) : l.all (vok 9) = true := by
  unfold Rust.ofKinds Rust.bigTold Rust.octetsTold Rust.wideTold at hk
  simp only [Bool.false_or, Bool.and_eq_true] at hk
  refine List.all_eq_true.mpr fun v hv => ?_
  obtain ⟨k, hkl, rfl⟩ := List.mem_iff_getElem.mp hv
  refine vok_of 8 _ (noBig_mem hk.1.1 _ hv) (noOct_mem hk.1.2 _ hv) (noWide_mem hk.2 _ hv) ?_
  have := h k (by omega)
  unfold Rust.argAt at this
  rw [takenAll_map, List.getD_eq_getElem?_getD, List.getElem?_map, List.getElem?_eq_getElem hkl] at this
  exact this
theorem taking_some {n : Nat} {l : List Spec.Plain} {o : Option Spec.Call} {c : Spec.Call} (h : Rust.taking n l o = some c) : l.length ≤ n ∧ o = some c := by
  unfold Rust.taking at h
  split at h
  · rename_i hl
    exact ⟨Nat.le_of_ble_eq_true hl, h⟩
  · cases h
theorem board {w : Spec.World} {i : Nat} (h : Spec.hasBoard w i = true) : ∃ c, w.boards.getD i none = some c := by
  unfold Spec.hasBoard at h
  exact Option.isSome_iff_exists.mp (Bool.and_eq_true_iff.mp h).2
theorem fits1 {x : Spec.Plain} (h : Spec.fits [x] = true) : Spec.Plain.shallow 8 x = true := by
  unfold Spec.fits at h
  exact List.all_eq_true.mp (Bool.and_eq_true_iff.mp h).1 x (by simp)
theorem fits2 {x y : Spec.Plain} (h : Spec.fits [x, y] = true) : Spec.Plain.shallow 8 x = true ∧ Spec.Plain.shallow 8 y = true := by
  unfold Spec.fits at h
  have := List.all_eq_true.mp (Bool.and_eq_true_iff.mp h).1
  exact ⟨this x (by simp), this y (by simp)⟩
theorem fits3 {x y z : Spec.Plain} (h : Spec.fits [x, y, z] = true) : Spec.Plain.shallow 8 x = true ∧ Spec.Plain.shallow 8 y = true ∧ Spec.Plain.shallow 8 z = true := by
  unfold Spec.fits at h
  have := List.all_eq_true.mp (Bool.and_eq_true_iff.mp h).1
  exact ⟨this x (by simp), this y (by simp), this z (by simp)⟩
theorem sh_num (s : Nat) : Spec.Plain.shallow 8 (.num (some (s : Int))) = true := by
  simp [Spec.Plain.shallow, RShim.F64.canon]
def Req (A : Ad) (w : Spec.World) (c : Spec.Call) (l : List RWire.Value) (dr : Nat) : Prop := l.all (vok 9) = true ∧ l.length ≤ 3 ∧ GotC A w c (padded l) dr
theorem req_of {A : Ad} {w : Spec.World} {c : Spec.Call} {l : List RWire.Value} {dr n : Nat} (hk : Rust.ofKinds l = true) (hl : l.length ≤ n) (hn : n ≤ 3) (h : ∀ k, k < n → Spec.Plain.shallow 8 (Rust.argAt (Rust.takenAll l) k) = true)
    (g : (∀ k, k < 3 → (padded l)[k]? = some (Rust.argAt (Rust.takenAll l) k)) → GotC A w c (padded l) dr) : Req A w c l dr :=
  ⟨vok_all hk hl h, by omega, g fun k hk => arg_at l (by omega) hk⟩
theorem sh_1 {l : List Spec.Plain} (h0 : Spec.Plain.shallow 8 (Rust.argAt l 0) = true) : ∀ k, k < 1 → Spec.Plain.shallow 8 (Rust.argAt l k) = true := fun k hk => by
  obtain rfl : k = 0 := by omega
  exact h0
theorem sh_2 {l : List Spec.Plain} (h0 : Spec.Plain.shallow 8 (Rust.argAt l 0) = true) (h1 : Spec.Plain.shallow 8 (Rust.argAt l 1) = true) : ∀ k, k < 2 → Spec.Plain.shallow 8 (Rust.argAt l k) = true := fun k hk => by
  obtain rfl | rfl : k = 0 ∨ k = 1 := by omega
  · exact h0
  · exact h1
theorem sh_3 {l : List Spec.Plain} (h0 : Spec.Plain.shallow 8 (Rust.argAt l 0) = true) (h1 : Spec.Plain.shallow 8 (Rust.argAt l 1) = true) (h2 : Spec.Plain.shallow 8 (Rust.argAt l 2) = true) : ∀ k, k < 3 → Spec.Plain.shallow 8 (Rust.argAt l k) = true := fun k hk => by
  obtain rfl | rfl | rfl : k = 0 ∨ k = 1 ∨ k = 2 := by omega
  · exact h0
  · exact h1
  · exact h2
theorem req_0 {A : Ad} {w : Spec.World} {c : Spec.Call} {l : List RWire.Value} (hk : Rust.ofKinds l = true) (hc0 : Rust.taking 3 (Rust.takenAll l) ((Rust.slotAt (Rust.takenAll l) 0 2).bind fun s0 => some (.create s0 (Rust.argAt (Rust.takenAll l) 1) (Rust.argAt (Rust.takenAll l) 2))) = some c) (hv : Spec.validInput w c = true) (t : TellC w c) : Req A w c l 0 := by
  have hlen : (Rust.takenAll l).length = l.length := by rw [takenAll_map, List.length_map]
  obtain ⟨hl, h⟩ := taking_some hc0
  obtain ⟨s0, z0, h⟩ := Option.bind_eq_some_iff.mp h
  cases h
  have q0 := slot_some z0
  have g0 : (∀ k, k < 3 → (padded l)[k]? = some (Rust.argAt (Rust.takenAll l) k)) → (padded l)[0]? = some (.num (some (s0 : Int))) := fun g => by rw [g 0 (by decide), q0]
  have hv' : (decide (s0 < Spec.slots) && Spec.fits [Rust.argAt (Rust.takenAll l) 1, Rust.argAt (Rust.takenAll l) 2]) = true := hv
  obtain ⟨f1, f2⟩ := fits2 (Bool.and_eq_true_iff.mp hv').2
  refine req_of hk (by omega : l.length ≤ 3) (by decide) (sh_3 (by rw [q0]; exact sh_num _) f1 f2) fun g => ?_
  exact got_create (g0 g) (g 1 (by decide)) (g 2 (by decide)) t
theorem req_1 {A : Ad} {w : Spec.World} {c : Spec.Call} {l : List RWire.Value} (hk : Rust.ofKinds l = true) (hc0 : Rust.taking 3 (Rust.takenAll l) ((Rust.slotAt (Rust.takenAll l) 0 2).bind fun s0 => ((Rust.slotAt (Rust.takenAll l) 1 2).bind fun s1 => ((Rust.slotAt (Rust.takenAll l) 2 2).bind fun s2 => some (.followedBy s0 s1 s2)))) = some c) (hv : Spec.validInput w c = true) (t : TellC w c) : Req A w c l 1 := by
  have hlen : (Rust.takenAll l).length = l.length := by rw [takenAll_map, List.length_map]
  obtain ⟨hl, h⟩ := taking_some hc0
  obtain ⟨s0, z0, h⟩ := Option.bind_eq_some_iff.mp h
  obtain ⟨s1, z1, h⟩ := Option.bind_eq_some_iff.mp h
  obtain ⟨s2, z2, h⟩ := Option.bind_eq_some_iff.mp h
  cases h
  have q0 := slot_some z0
  have g0 : (∀ k, k < 3 → (padded l)[k]? = some (Rust.argAt (Rust.takenAll l) k)) → (padded l)[0]? = some (.num (some (s0 : Int))) := fun g => by rw [g 0 (by decide), q0]
  have q1 := slot_some z1
  have g1 : (∀ k, k < 3 → (padded l)[k]? = some (Rust.argAt (Rust.takenAll l) k)) → (padded l)[1]? = some (.num (some (s1 : Int))) := fun g => by rw [g 1 (by decide), q1]
  have q2 := slot_some z2
  have g2 : (∀ k, k < 3 → (padded l)[k]? = some (Rust.argAt (Rust.takenAll l) k)) → (padded l)[2]? = some (.num (some (s2 : Int))) := fun g => by rw [g 2 (by decide), q2]
  have hv' : (Spec.hasBoard w s0 && Spec.hasBoard w s1 && decide (s2 < Spec.slots)) = true := hv
  have hv2 := Bool.and_eq_true_iff.mp (Bool.and_eq_true_iff.mp hv').1
  obtain ⟨c1, b1⟩ := board hv2.1
  obtain ⟨c2, b2⟩ := board hv2.2
  refine req_of hk (by omega : l.length ≤ 3) (by decide) (sh_3 (by rw [q0]; exact sh_num _) (by rw [q1]; exact sh_num _) (by rw [q2]; exact sh_num _)) fun g => ?_
  exact got_fol (g0 g) (g1 g) (g2 g) b1 b2 t
theorem req_2 {A : Ad} {w : Spec.World} {c : Spec.Call} {l : List RWire.Value} (hk : Rust.ofKinds l = true) (hc0 : Rust.taking 2 (Rust.takenAll l) ((Rust.slotAt (Rust.takenAll l) 0 2).bind fun s0 => ((Rust.slotAt (Rust.takenAll l) 1 2).bind fun s1 => some (.back s0 s1))) = some c) (hv : Spec.validInput w c = true) (t : TellC w c) : Req A w c l 2 := by
  have hlen : (Rust.takenAll l).length = l.length := by rw [takenAll_map, List.length_map]
  obtain ⟨hl, h⟩ := taking_some hc0
  obtain ⟨s0, z0, h⟩ := Option.bind_eq_some_iff.mp h
  obtain ⟨s1, z1, h⟩ := Option.bind_eq_some_iff.mp h
  cases h
  have q0 := slot_some z0
  have g0 : (∀ k, k < 3 → (padded l)[k]? = some (Rust.argAt (Rust.takenAll l) k)) → (padded l)[0]? = some (.num (some (s0 : Int))) := fun g => by rw [g 0 (by decide), q0]
  have q1 := slot_some z1
  have g1 : (∀ k, k < 3 → (padded l)[k]? = some (Rust.argAt (Rust.takenAll l) k)) → (padded l)[1]? = some (.num (some (s1 : Int))) := fun g => by rw [g 1 (by decide), q1]
  have hv' : (Spec.hasBoard w s0 && decide (s1 < Spec.slots)) = true := hv
  obtain ⟨c1, b1⟩ := board (Bool.and_eq_true_iff.mp hv').1
  refine req_of hk (by omega : l.length ≤ 2) (by decide) (sh_2 (by rw [q0]; exact sh_num _) (by rw [q1]; exact sh_num _)) fun g => ?_
  exact got_back (g0 g) (g1 g) b1 t
theorem req_3 {A : Ad} {w : Spec.World} {c : Spec.Call} {l : List RWire.Value} (hk : Rust.ofKinds l = true) (hc0 : Rust.taking 1 (Rust.takenAll l) ((Rust.slotAt (Rust.takenAll l) 0 2).bind fun s0 => some (.definitions s0)) = some c) (hv : Spec.validInput w c = true) (t : TellC w c) : Req A w c l 3 := by
  have hlen : (Rust.takenAll l).length = l.length := by rw [takenAll_map, List.length_map]
  obtain ⟨hl, h⟩ := taking_some hc0
  obtain ⟨s0, z0, h⟩ := Option.bind_eq_some_iff.mp h
  cases h
  have q0 := slot_some z0
  have g0 : (∀ k, k < 3 → (padded l)[k]? = some (Rust.argAt (Rust.takenAll l) k)) → (padded l)[0]? = some (.num (some (s0 : Int))) := fun g => by rw [g 0 (by decide), q0]
  obtain ⟨c1, b1⟩ := board hv
  refine req_of hk (by omega : l.length ≤ 1) (by decide) (sh_1 (by rw [q0]; exact sh_num _)) fun g => ?_
  exact got_plain (on_eq b1 _) (.defs (g0 g) b1) an_defs t
theorem req_4 {A : Ad} {w : Spec.World} {c : Spec.Call} {l : List RWire.Value} (hk : Rust.ofKinds l = true) (hc0 : Rust.taking 2 (Rust.takenAll l) ((Rust.slotAt (Rust.takenAll l) 0 2).bind fun s0 => some (.apply s0 (Rust.argAt (Rust.takenAll l) 1))) = some c) (hv : Spec.validInput w c = true) (t : TellC w c) : Req A w c l 4 := by
  have hlen : (Rust.takenAll l).length = l.length := by rw [takenAll_map, List.length_map]
  obtain ⟨hl, h⟩ := taking_some hc0
  obtain ⟨s0, z0, h⟩ := Option.bind_eq_some_iff.mp h
  cases h
  have q0 := slot_some z0
  have g0 : (∀ k, k < 3 → (padded l)[k]? = some (Rust.argAt (Rust.takenAll l) k)) → (padded l)[0]? = some (.num (some (s0 : Int))) := fun g => by rw [g 0 (by decide), q0]
  have hv' : (Spec.hasBoard w s0 && Spec.fits [Rust.argAt (Rust.takenAll l) 1]) = true := hv
  obtain ⟨c1, b1⟩ := board (Bool.and_eq_true_iff.mp hv').1
  have f1 := fits1 (Bool.and_eq_true_iff.mp hv').2
  refine req_of hk (by omega : l.length ≤ 2) (by decide) (sh_2 (by rw [q0]; exact sh_num _) f1) fun g => ?_
  exact got_apply (g0 g) (g 1 (by decide)) b1 t
theorem req_5 {A : Ad} {w : Spec.World} {c : Spec.Call} {l : List RWire.Value} (hk : Rust.ofKinds l = true) (hc0 : Rust.taking 2 (Rust.takenAll l) ((Rust.slotAt (Rust.takenAll l) 0 2).bind fun s0 => some (.survives s0 (Rust.argAt (Rust.takenAll l) 1))) = some c) (hv : Spec.validInput w c = true) (t : TellC w c) : Req A w c l 5 := by
  have hlen : (Rust.takenAll l).length = l.length := by rw [takenAll_map, List.length_map]
  obtain ⟨hl, h⟩ := taking_some hc0
  obtain ⟨s0, z0, h⟩ := Option.bind_eq_some_iff.mp h
  cases h
  have q0 := slot_some z0
  have g0 : (∀ k, k < 3 → (padded l)[k]? = some (Rust.argAt (Rust.takenAll l) k)) → (padded l)[0]? = some (.num (some (s0 : Int))) := fun g => by rw [g 0 (by decide), q0]
  have hv' : (Spec.hasBoard w s0 && Spec.fits [Rust.argAt (Rust.takenAll l) 1]) = true := hv
  obtain ⟨c1, b1⟩ := board (Bool.and_eq_true_iff.mp hv').1
  have f1 := fits1 (Bool.and_eq_true_iff.mp hv').2
  refine req_of hk (by omega : l.length ≤ 2) (by decide) (sh_2 (by rw [q0]; exact sh_num _) f1) fun g => ?_
  exact got_filter (f := fun t => .bool (Spec.survives c1 t)) (by decide) (by decide) (on_eq b1 _) (fun on _ => an_survives) (g0 g) (g 1 (by decide)) b1 t
theorem req_6 {A : Ad} {w : Spec.World} {c : Spec.Call} {l : List RWire.Value} (hk : Rust.ofKinds l = true) (hc0 : Rust.taking 2 (Rust.takenAll l) ((Rust.slotAt (Rust.takenAll l) 0 2).bind fun s0 => some (.rewrite s0 (Rust.argAt (Rust.takenAll l) 1))) = some c) (hv : Spec.validInput w c = true) (t : TellC w c) : Req A w c l 6 := by
  have hlen : (Rust.takenAll l).length = l.length := by rw [takenAll_map, List.length_map]
  obtain ⟨hl, h⟩ := taking_some hc0
  obtain ⟨s0, z0, h⟩ := Option.bind_eq_some_iff.mp h
  cases h
  have q0 := slot_some z0
  have g0 : (∀ k, k < 3 → (padded l)[k]? = some (Rust.argAt (Rust.takenAll l) k)) → (padded l)[0]? = some (.num (some (s0 : Int))) := fun g => by rw [g 0 (by decide), q0]
  have hv' : (Spec.hasBoard w s0 && Spec.fits [Rust.argAt (Rust.takenAll l) 1]) = true := hv
  obtain ⟨c1, b1⟩ := board (Bool.and_eq_true_iff.mp hv').1
  have f1 := fits1 (Bool.and_eq_true_iff.mp hv').2
  refine req_of hk (by omega : l.length ≤ 2) (by decide) (sh_2 (by rw [q0]; exact sh_num _) f1) fun g => ?_
  exact got_filter (f := fun t => if Spec.survives c1 t then .str (Spec.newText c1 (Spec.least c1 t)) else .null) (by decide) (by decide) (on_eq b1 _) (fun on => an_rewrite) (g0 g) (g 1 (by decide)) b1 t
theorem req_7 {A : Ad} {w : Spec.World} {c : Spec.Call} {l : List RWire.Value} (hk : Rust.ofKinds l = true) (hc0 : Rust.taking 2 (Rust.takenAll l) ((Rust.slotAt (Rust.takenAll l) 0 2).bind fun s0 => some (.least s0 (Rust.argAt (Rust.takenAll l) 1))) = some c) (hv : Spec.validInput w c = true) (t : TellC w c) : Req A w c l 7 := by
  have hlen : (Rust.takenAll l).length = l.length := by rw [takenAll_map, List.length_map]
  obtain ⟨hl, h⟩ := taking_some hc0
  obtain ⟨s0, z0, h⟩ := Option.bind_eq_some_iff.mp h
  cases h
  have q0 := slot_some z0
  have g0 : (∀ k, k < 3 → (padded l)[k]? = some (Rust.argAt (Rust.takenAll l) k)) → (padded l)[0]? = some (.num (some (s0 : Int))) := fun g => by rw [g 0 (by decide), q0]
  have hv' : (Spec.hasBoard w s0 && Spec.fits [Rust.argAt (Rust.takenAll l) 1]) = true := hv
  obtain ⟨c1, b1⟩ := board (Bool.and_eq_true_iff.mp hv').1
  have f1 := fits1 (Bool.and_eq_true_iff.mp hv').2
  refine req_of hk (by omega : l.length ≤ 2) (by decide) (sh_2 (by rw [q0]; exact sh_num _) f1) fun g => ?_
  exact got_filter (f := fun t => .str (Spec.newText c1 (Spec.least c1 t))) (by decide) (by decide) (on_eq b1 _) (fun on => an_least) (g0 g) (g 1 (by decide)) b1 t
theorem req_8 {A : Ad} {w : Spec.World} {c : Spec.Call} {l : List RWire.Value} (hk : Rust.ofKinds l = true) (hc0 : Rust.taking 2 (Rust.takenAll l) ((Rust.slotAt (Rust.takenAll l) 0 2).bind fun s0 => some (.greatest s0 (Rust.argAt (Rust.takenAll l) 1))) = some c) (hv : Spec.validInput w c = true) (t : TellC w c) : Req A w c l 8 := by
  have hlen : (Rust.takenAll l).length = l.length := by rw [takenAll_map, List.length_map]
  obtain ⟨hl, h⟩ := taking_some hc0
  obtain ⟨s0, z0, h⟩ := Option.bind_eq_some_iff.mp h
  cases h
  have q0 := slot_some z0
  have g0 : (∀ k, k < 3 → (padded l)[k]? = some (Rust.argAt (Rust.takenAll l) k)) → (padded l)[0]? = some (.num (some (s0 : Int))) := fun g => by rw [g 0 (by decide), q0]
  have hv' : (Spec.hasBoard w s0 && Spec.fits [Rust.argAt (Rust.takenAll l) 1]) = true := hv
  obtain ⟨c1, b1⟩ := board (Bool.and_eq_true_iff.mp hv').1
  have f1 := fits1 (Bool.and_eq_true_iff.mp hv').2
  refine req_of hk (by omega : l.length ≤ 2) (by decide) (sh_2 (by rw [q0]; exact sh_num _) f1) fun g => ?_
  exact got_filter (f := fun t => .str (Spec.newText c1 (Spec.greatest c1 t))) (by decide) (by decide) (on_eq b1 _) (fun on => an_greatest) (g0 g) (g 1 (by decide)) b1 t
theorem req_9 {A : Ad} {w : Spec.World} {c : Spec.Call} {l : List RWire.Value} (hk : Rust.ofKinds l = true) (hc0 : Rust.taking 2 (Rust.takenAll l) ((Rust.slotAt (Rust.takenAll l) 0 2).bind fun s0 => some (.clash s0 (Rust.argAt (Rust.takenAll l) 1))) = some c) (hv : Spec.validInput w c = true) (t : TellC w c) : Req A w c l 9 := by
  have hlen : (Rust.takenAll l).length = l.length := by rw [takenAll_map, List.length_map]
  obtain ⟨hl, h⟩ := taking_some hc0
  obtain ⟨s0, z0, h⟩ := Option.bind_eq_some_iff.mp h
  cases h
  have q0 := slot_some z0
  have g0 : (∀ k, k < 3 → (padded l)[k]? = some (Rust.argAt (Rust.takenAll l) k)) → (padded l)[0]? = some (.num (some (s0 : Int))) := fun g => by rw [g 0 (by decide), q0]
  have hv' : (Spec.hasBoard w s0 && Spec.fits [Rust.argAt (Rust.takenAll l) 1]) = true := hv
  obtain ⟨c1, b1⟩ := board (Bool.and_eq_true_iff.mp hv').1
  have f1 := fits1 (Bool.and_eq_true_iff.mp hv').2
  refine req_of hk (by omega : l.length ≤ 2) (by decide) (sh_2 (by rw [q0]; exact sh_num _) f1) fun g => ?_
  exact got_filter (f := Spec.clashPlain c1) (by decide) (by decide) (on_eq b1 _) (fun on => an_clash) (g0 g) (g 1 (by decide)) b1 t
theorem req_10 {A : Ad} {w : Spec.World} {c : Spec.Call} {l : List RWire.Value} (hk : Rust.ofKinds l = true) (hc0 : Rust.taking 1 (Rust.takenAll l) ((Rust.slotAt (Rust.takenAll l) 0 2).bind fun s0 => some (.isLossless s0)) = some c) (hv : Spec.validInput w c = true) (t : TellC w c) : Req A w c l 10 := by
  have hlen : (Rust.takenAll l).length = l.length := by rw [takenAll_map, List.length_map]
  obtain ⟨hl, h⟩ := taking_some hc0
  obtain ⟨s0, z0, h⟩ := Option.bind_eq_some_iff.mp h
  cases h
  have q0 := slot_some z0
  have g0 : (∀ k, k < 3 → (padded l)[k]? = some (Rust.argAt (Rust.takenAll l) k)) → (padded l)[0]? = some (.num (some (s0 : Int))) := fun g => by rw [g 0 (by decide), q0]
  obtain ⟨c1, b1⟩ := board hv
  refine req_of hk (by omega : l.length ≤ 1) (by decide) (sh_1 (by rw [q0]; exact sh_num _)) fun g => ?_
  exact got_plain (on_eq b1 _) (.less (g0 g) b1) (fun _ => an_bool _) t
theorem req_11 {A : Ad} {w : Spec.World} {c : Spec.Call} {l : List RWire.Value} (hk : Rust.ofKinds l = true) (hc0 : Rust.taking 1 (Rust.takenAll l) ((Rust.slotAt (Rust.takenAll l) 0 2).bind fun s0 => some (.lostTags s0)) = some c) (hv : Spec.validInput w c = true) (t : TellC w c) : Req A w c l 11 := by
  have hlen : (Rust.takenAll l).length = l.length := by rw [takenAll_map, List.length_map]
  obtain ⟨hl, h⟩ := taking_some hc0
  obtain ⟨s0, z0, h⟩ := Option.bind_eq_some_iff.mp h
  cases h
  have q0 := slot_some z0
  have g0 : (∀ k, k < 3 → (padded l)[k]? = some (Rust.argAt (Rust.takenAll l) k)) → (padded l)[0]? = some (.num (some (s0 : Int))) := fun g => by rw [g 0 (by decide), q0]
  obtain ⟨c1, b1⟩ := board hv
  refine req_of hk (by omega : l.length ≤ 1) (by decide) (sh_1 (by rw [q0]; exact sh_num _)) fun g => ?_
  exact got_plain (on_eq b1 _) (.lost (g0 g) b1) an_lost t
theorem req_12 {A : Ad} {w : Spec.World} {c : Spec.Call} {l : List RWire.Value} (hk : Rust.ofKinds l = true) (hc0 : Rust.taking 2 (Rust.takenAll l) (some (.canonical (Rust.argAt (Rust.takenAll l) 0) (Rust.argAt (Rust.takenAll l) 1))) = some c) (hv : Spec.validInput w c = true) (t : TellC w c) : Req A w c l 12 := by
  have hlen : (Rust.takenAll l).length = l.length := by rw [takenAll_map, List.length_map]
  obtain ⟨hl, h⟩ := taking_some hc0
  cases h
  obtain ⟨f0, f1⟩ := fits2 hv
  refine req_of hk (by omega : l.length ≤ 2) (by decide) (sh_2 f0 f1) fun g => ?_
  exact got_tags (z := Rust.argAt (Rust.takenAll l) 2) (.inl ⟨rfl, rfl⟩) (g 0 (by decide)) (g 1 (by decide)) (g 2 (by decide)) t
theorem req_13 {A : Ad} {w : Spec.World} {c : Spec.Call} {l : List RWire.Value} (hk : Rust.ofKinds l = true) (hc0 : Rust.taking 3 (Rust.takenAll l) (some (.equivalent (Rust.argAt (Rust.takenAll l) 0) (Rust.argAt (Rust.takenAll l) 1) (Rust.argAt (Rust.takenAll l) 2))) = some c) (hv : Spec.validInput w c = true) (t : TellC w c) : Req A w c l 13 := by
  have hlen : (Rust.takenAll l).length = l.length := by rw [takenAll_map, List.length_map]
  obtain ⟨hl, h⟩ := taking_some hc0
  cases h
  obtain ⟨f0, f1, f2⟩ := fits3 hv
  refine req_of hk (by omega : l.length ≤ 3) (by decide) (sh_3 f0 f1 f2) fun g => ?_
  exact got_tags (.inr (.inl ⟨rfl, rfl⟩)) (g 0 (by decide)) (g 1 (by decide)) (g 2 (by decide)) t
theorem req_14 {A : Ad} {w : Spec.World} {c : Spec.Call} {l : List RWire.Value} (hk : Rust.ofKinds l = true) (hc0 : Rust.taking 3 (Rust.takenAll l) (some (.exampleItem (Rust.argAt (Rust.takenAll l) 0) (Rust.argAt (Rust.takenAll l) 1) (Rust.argAt (Rust.takenAll l) 2))) = some c) (hv : Spec.validInput w c = true) (t : TellC w c) : Req A w c l 14 := by
  have hlen : (Rust.takenAll l).length = l.length := by rw [takenAll_map, List.length_map]
  obtain ⟨hl, h⟩ := taking_some hc0
  cases h
  obtain ⟨f0, f1, f2⟩ := fits3 hv
  refine req_of hk (by omega : l.length ≤ 3) (by decide) (sh_3 f0 f1 f2) fun g => ?_
  exact got_tags (.inr (.inr ⟨rfl, rfl⟩)) (g 0 (by decide)) (g 1 (by decide)) (g 2 (by decide)) t
theorem req_15 {A : Ad} {w : Spec.World} {c : Spec.Call} {l : List RWire.Value} (hk : Rust.ofKinds l = true) (hc0 : Rust.taking 2 (Rust.takenAll l) ((Rust.slotAt (Rust.takenAll l) 0 2).bind fun s0 => some (.withValue s0 (Rust.argAt (Rust.takenAll l) 1))) = some c) (hv : Spec.validInput w c = true) (t : TellC w c) : Req A w c l 15 := by
  have hlen : (Rust.takenAll l).length = l.length := by rw [takenAll_map, List.length_map]
  obtain ⟨hl, h⟩ := taking_some hc0
  obtain ⟨s0, z0, h⟩ := Option.bind_eq_some_iff.mp h
  cases h
  have q0 := slot_some z0
  have g0 : (∀ k, k < 3 → (padded l)[k]? = some (Rust.argAt (Rust.takenAll l) k)) → (padded l)[0]? = some (.num (some (s0 : Int))) := fun g => by rw [g 0 (by decide), q0]
  have hv' : (Spec.hasBoard w s0 && Spec.fits [Rust.argAt (Rust.takenAll l) 1]) = true := hv
  obtain ⟨c1, b1⟩ := board (Bool.and_eq_true_iff.mp hv').1
  have f1 := fits1 (Bool.and_eq_true_iff.mp hv').2
  refine req_of hk (by omega : l.length ≤ 2) (by decide) (sh_2 (by rw [q0]; exact sh_num _) f1) fun g => ?_
  exact got_fail rfl (.value (g0 g) b1) (asc_units (asc_of (by decide +kernel))) t
theorem req_call {A : Ad} {w : Spec.World} {c : Spec.Call} {l : List RWire.Value} {dr : Nat} (hk : Rust.ofKinds l = true) (hc : Rust.callOf dr (Rust.takenAll l) = some c) (hv : Spec.validInput w c = true) (t : TellC w c) : Req A w c l dr := by
  have hc0 : Rust.calls0 dr (Rust.takenAll l) = some c := by
    unfold Rust.callOf at hc
    split at hc
    · exact hc
    · cases hc
  unfold Rust.calls0 at hc0
  split at hc0
  · exact req_0 hk hc0 hv t
  · exact req_1 hk hc0 hv t
  · exact req_2 hk hc0 hv t
  · exact req_3 hk hc0 hv t
  · exact req_4 hk hc0 hv t
  · exact req_5 hk hc0 hv t
  · exact req_6 hk hc0 hv t
  · exact req_7 hk hc0 hv t
  · exact req_8 hk hc0 hv t
  · exact req_9 hk hc0 hv t
  · exact req_10 hk hc0 hv t
  · exact req_11 hk hc0 hv t
  · exact req_12 hk hc0 hv t
  · exact req_13 hk hc0 hv t
  · exact req_14 hk hc0 hv t
  · exact req_15 hk hc0 hv t
  · cases hc0
end Tg
end

section
set_option Elab.async false
set_option linter.all false
set_option maxRecDepth 100000
set_option maxHeartbeats 400000
/-! A stretch of calls. -/
namespace Tg
open PySem PySem.Spec PyProof.Rows L2
open R7292f
/-- the answers of a stretch -/
def outsOf : Spec.World → List (List UInt8) → List (List UInt8)
  | _, [] => []
  | w, b :: r => (Rust.step w b).2 :: outsOf (Rust.step w b).1 r
theorem run_goes (A : Ad) : ∀ (rs : List (List UInt8)) (w : Spec.World) (left : Nat), Rust.goes w left rs = true → (∀ b ∈ rs, b.length ≤ 1000000) → Run A w.boards rs (outsOf w rs)
  | [], _, _, _, _ => .nil
  | b :: rs, w, left, h, hb => by
    unfold Rust.goes at h
    cases ha : Rust.asked b with
    | none =>
      rw [ha] at h
      cases h
    | some c =>
      rw [ha] at h
      simp only [Bool.and_eq_true] at h
      obtain ⟨⟨⟨⟨hc, ht⟩, hl⟩, _⟩, hg⟩ := h
      have hst : Rust.step w b = ((Spec.step w c).1, RWire.writeAnswer (Rust.answerOf (Spec.step w c).2)) := by
        unfold Rust.step
        rw [ha]
        simp only []
        rw [if_pos hc]
      have hl' := Nat.le_of_ble_eq_true hl
      rw [hst] at hl'
      unfold Rust.asked at ha
      cases hr : RWire.readRequest b with
      | none =>
        rw [hr] at ha
        cases ha
      | some v =>
        obtain ⟨dr, l⟩ := v
        rw [hr] at ha
        simp only [] at ha
        split at ha
        · rename_i hk
          have hin : Spec.validInput w c = true := by
            unfold Rust.canBe Spec.within at hc
            exact (Bool.and_eq_true_iff.mp (Bool.and_eq_true_iff.mp hc).1).1
          obtain ⟨hv, hn, r, pc, hs, res⟩ := req_call (A := A) hk ha hin ⟨ht, hl'⟩
          unfold outsOf
          rw [hst]
          exact .cons (hb b List.mem_cons_self) hr hv hn pc hs res (run_goes A rs (Spec.step w c).1 _ hg fun x hx => hb x (List.mem_cons_of_mem _ hx))
        · cases ha
theorem told_eq : ∀ (rows : List (List Int)) (w : Spec.World), PyFlat.told (PyFlat.played (fun s c => Zn85Neutral.step s (c.headD [])) w (rows.map fun r => [r])) = (outsOf w (rows.map Zn85Neutral.bytesOf)).flatMap outI
  | [], _ => rfl
  | r :: rows, w => by
    have ih := told_eq rows (Rust.step w (Zn85Neutral.bytesOf r)).1
    unfold PyFlat.told at ih ⊢
    rw [List.map_cons, List.map_cons, PyFlat.played, outsOf, List.flatMap_cons, List.flatMap_cons]
    have e : (Zn85Neutral.step w ([r].headD [])).1 = (Rust.step w (Zn85Neutral.bytesOf r)).1 := rfl
    rw [e, ih]
    congr 1
    show (((Zn85Neutral.numbersOf (Rust.step w (Zn85Neutral.bytesOf r)).2).length : Int) :: Zn85Neutral.numbersOf (Rust.step w (Zn85Neutral.bytesOf r)).2) = outI _
    unfold outI Zn85Neutral.numbersOf
    rw [List.length_map]
    rfl
/-- the calls as they are handed in, and what is due -/
theorem asked_run (A : Ad) {L : List Int} (h : PyZn85.answers_asked L = true) : ∃ rs outs : List (List UInt8), L = rs.flatMap encB ∧ Run A (List.replicate 3 none) rs outs ∧ rs.length ≤ 1000 ∧ PyZn85.answers L = outs.flatMap outI ∧ (outs.flatMap outI).length ≤ 10000000 := by
  unfold PyZn85.answers_asked at h
  cases hc : PyZn85.calls L with
  | none =>
    rw [hc] at h
    cases h
  | some cs =>
    rw [hc] at h
    simp only [Bool.and_eq_true] at h
    obtain ⟨⟨h1, h2⟩, h3⟩ := h
    have hc' := hc
    unfold PyZn85.calls at hc
    cases hf : PyFlat.calls PyZn85.shape L.length L with
    | none =>
      rw [hf] at hc
      cases hc
    | some cs0 =>
      rw [hf] at hc
      cases hc
      obtain ⟨rows, rfl, e2⟩ := flat_calls _ _ _ hf
      rw [whole_map] at hc' h1 h2
      have hm : ((rows.map fun r => [r]).map fun c => c.headD []) = rows := by
        rw [List.map_map]
        conv => rhs; rw [← List.map_id rows]
        exact List.map_congr_left fun r _ => rfl
      rw [hm] at h2
      unfold Zn85Neutral.asked at h2
      obtain ⟨hb, h4⟩ := Bool.and_eq_true_iff.mp h2
      have hfit := (Bool.and_eq_true_iff.mp h4).2
      unfold Rust.fits at hfit
      simp only [Bool.and_eq_true] at hfit
      obtain ⟨⟨⟨f1, f2⟩, f3⟩, f4⟩ := hfit
      have hans : PyZn85.answers L = (outsOf Rust.start (rows.map Zn85Neutral.bytesOf)).flatMap outI := by
        unfold PyZn85.answers
        rw [hc']
        exact told_eq rows Rust.start
      have hlen : (PyZn85.answers L).length ≤ 10000000 := by
        unfold PyFlat.short at h3
        exact of_decide_eq_true h3
      refine ⟨rows.map Zn85Neutral.bytesOf, outsOf Rust.start (rows.map Zn85Neutral.bytesOf), ?_, ?_, ?_, hans, ?_⟩
      · rw [e2]
        exact enc_rows fun r hr => List.all_eq_true.mp hb r hr
      · exact run_goes A _ Rust.start _ f4 fun b hb => by
          have := Nat.le_of_ble_eq_true (List.all_eq_true.mp f2 b hb)
          unfold Rust.octetsMost at this
          omega
      · have := Nat.le_of_ble_eq_true f1
        unfold Rust.requestsMost at this
        omega
      · rw [← hans]
        exact hlen
end Tg
end

section
set_option Elab.async false
set_option linter.all false
set_option maxRecDepth 100000
set_option maxHeartbeats 4000000
/-! The defs as they stand, tied. (printed by genE5.py) -/
namespace Tg
open PySem PySem.Spec PyProof.Rows L2
abbrev Bnd (x qual : Str) (st : Stmt) (ps : List Str) : Prop := ∀ (kV doc pm : Value) (an : Option Addr) (cdv ct : Value) (us : List Value), us.length = ps.length → bindArgs (PySem.W.fnOf x qual (defArgs st) (defBody st) (defScope st) .none kV doc pm an cdv ct) ⟨us, []⟩ = pure (ps.zip us)
section
variable {K : PySem.W.Frag} {h : Heap} {mg : Str → Option Value} {x qual : Str} {st : Stmt} {ps : List Str} {f C : Addr} {oc : Value} {od an : Option Addr} {osl : Array (Option Value)} {kV doc pm cdv ct : Value}
theorem df_mk (X : K.In h) (G : h.Ns mainGlobals mg) (hb : Bnd x x st ps) (a : PySem.W.nsIn K mainGlobals x = some (some (.ref f)))
    (l : K.lookup f = some ⟨oc, od, .func (PySem.W.fnOf x x (defArgs st) (defBody st) (defScope st) .none kV doc pm an cdv ct), osl⟩) (c : PySem.W.codeIn K cdv x = true) (k : PySem.W.keepIn K (.ref f) = true) : ∃ f fd, Df K mg x st ps f fd :=
  ⟨_, _, fun_mk l c k, PySem.W.mg_of X G a, (fun_mk (st := st) l c k).binds hb⟩
theorem dm_mk (cl : Cls K C) (hb : Bnd x qual st ps) (a : PySem.W.findIn K (.ref C) x = some (some (.ref f))) (i : PySem.W.isFn K (.ref f) = true)
    (l : K.lookup f = some ⟨oc, od, .func (PySem.W.fnOf x qual (defArgs st) (defBody st) (defScope st) .none kV doc pm an cdv ct), osl⟩) (c : PySem.W.codeIn K cdv qual = true) (k : PySem.W.keepIn K (.ref f) = true) : ∃ f fd, Dm K C x qual st ps f fd :=
  ⟨_, _, fun_mk l c k, cl, ⟨a, i, k⟩, (fun_mk (st := st) l c k).binds hb⟩
theorem di_mk {cn : Str} (X : K.In h) (G : h.Ns mainGlobals mg) (hb : Bnd "__init__" qual st ps) (m : PySem.W.makesIn K C = true) (kc : PySem.W.keepIn K (.ref C) = true) (g : PySem.W.nsIn K mainGlobals cn = some (some (.ref C))) (a : PySem.W.findIn K (.ref C) "__init__" = some (some (.ref f))) (i : PySem.W.isFn K (.ref f) = true)
    (l : K.lookup f = some ⟨oc, od, .func (PySem.W.fnOf "__init__" qual (defArgs st) (defBody st) (defScope st) .none kV doc pm an cdv ct), osl⟩) (c : PySem.W.codeIn K cdv qual = true) (k : PySem.W.keepIn K (.ref f) = true) : ∃ f fd, Di K mg cn C qual st ps f fd :=
  ⟨_, _, fun_mk l c k, ⟨m, a, i, kc⟩, PySem.W.mg_of X G g, (fun_mk (st := st) l c k).binds hb⟩
/-- the error's class: its __init__ -/
structure Dr (K : PySem.W.Frag) (C : Addr) (qual : Str) (st : Stmt) (ps : List Str) (f : Addr) (fd : FuncData) : Prop where
  fn : Fun K "__init__" qual st f fd
  at_ : PySem.W.findIn K (.ref C) "__init__" = some (some (.ref f))
  ty : PySem.W.typeIn K (.ref f) = some (.type "function")
  b : Binds K fd ps []
theorem dr_mk (hb : Bnd "__init__" qual st ps) (a : PySem.W.findIn K (.ref C) "__init__" = some (some (.ref f))) (t : PySem.W.typeIn K (.ref f) = some (.type "function"))
    (l : K.lookup f = some ⟨oc, od, .func (PySem.W.fnOf "__init__" qual (defArgs st) (defBody st) (defScope st) .none kV doc pm an cdv ct), osl⟩) (c : PySem.W.codeIn K cdv qual = true) (k : PySem.W.keepIn K (.ref f) = true) : ∃ f fd, Dr K C qual st ps f fd :=
  ⟨_, _, fun_mk l c k, a, t, (fun_mk (st := st) l c k).binds hb⟩
/-- an error of the class at S is what «except S» names -/
theorem self_exm {S : Addr} (h1 : PySem.W.subIn K (.ref S) (.type "BaseException") = some true) (h2 : PySem.W.isClsIn K S = true) (h3 : PySem.W.typeIn K (.ref S) = some (.type "type")) (h4 : PySem.W.subIn K (.ref S) (.ref S) = some true) : PySem.W.exmOne K (.ref S) (.ref S) = some true := by
  have e1 : (PySem.W.subIn K (.ref S) (.type "BaseException") == some true) = true := by rw [h1] <;> rfl
  have e2 : ((PySem.W.clsIn K S).isSome && PySem.W.typeIn K (.ref S) == some (.type "type")) = true := by
    have h5 : (PySem.W.clsIn K S).isSome = true := h2
    rw [h5, h3] <;> rfl
  show (if (PySem.W.subIn K (.ref S) (.type "BaseException") == some true) = true then (if ((PySem.W.clsIn K S).isSome && PySem.W.typeIn K (.ref S) == some (.type "type")) = true then PySem.W.subIn K (.ref S) (.ref S) else none) else none) = some true
  rw [if_pos e1, if_pos e2]
  exact h4
theorem sq_mk {a : Addr} {o : Obj} {xs : List V} {us : List Value} (l : K.lookup a = some { cls := .type "tuple", data := .seq us.toArray us.length }) (hl : us.length ≤ 100) (r : Vals xs us) : ∀ H : Hp, SqT K H a xs := fun H =>
  .inr ⟨_, _, _, l, rfl, rfl, by
    have : (us.toArray).size = us.length := by simp
    rw [this]
    exact Nat.le_trans hl (by decide), by simpa using r⟩
end

theorem bd_is_letter : Bnd "is_letter" "is_letter" s_is_letter ["code"] := fun _ _ _ _ _ _ us hl => match us, hl with | [_], _ => rfl
theorem bd_many_items : Bnd "many_items" "many_items" s_many_items ["many"] := fun _ _ _ _ _ _ us hl => match us, hl with | [_], _ => rfl
theorem bd_has : Bnd "has" "has" s_has ["item", "tag"] := fun _ _ _ _ _ _ us hl => match us, hl with | [_, _], _ => rfl
theorem bd_integer : Bnd "integer" "integer" s_integer ["number"] := fun _ _ _ _ _ _ us hl => match us, hl with | [_], _ => rfl
theorem bd_truth : Bnd "truth" "truth" s_truth ["told"] := fun _ _ _ _ _ _ us hl => match us, hl with | [_], _ => rfl
theorem bd_listed : Bnd "listed" "listed" s_listed ["rows"] := fun _ _ _ _ _ _ us hl => match us, hl with | [_], _ => rfl
theorem bd_low_first : Bnd "low_first" "low_first" s_low_first ["number", "many"] := fun _ _ _ _ _ _ us hl => match us, hl with | [_, _], _ => rfl
theorem bd_all_terms : Bnd "all_terms" "all_terms" s_all_terms ["many"] := fun _ _ _ _ _ _ us hl => match us, hl with | [_], _ => rfl
theorem bd_fulfils : Bnd "fulfils" "fulfils" s_fulfils ["item", "term"] := fun _ _ _ _ _ _ us hl => match us, hl with | [_, _], _ => rfl
theorem bd_is_held : Bnd "is_held" "is_held" s_is_held ["term", "wanted", "free"] := fun _ _ _ _ _ _ us hl => match us, hl with | [_, _, _], _ => rfl
theorem bd_is_prime : Bnd "is_prime" "is_prime" s_is_prime ["term", "wanted", "free"] := fun _ _ _ _ _ _ us hl => match us, hl with | [_, _, _], _ => rfl
theorem bd_term_text : Bnd "term_text" "term_text" s_term_text ["term", "tags"] := fun _ _ _ _ _ _ us hl => match us, hl with | [_, _], _ => rfl
theorem bd_canonical : Bnd "canonical" "canonical" s_canonical ["tags", "wanted", "free"] := fun _ _ _ _ _ _ us hl => match us, hl with | [_, _, _], _ => rfl
theorem bd_wrong_kind : Bnd "wrong_kind" "wrong_kind" s_wrong_kind ["wrong", "message"] := fun _ _ _ _ _ _ us hl => match us, hl with | [_, _], _ => rfl
theorem bd_out_of_range : Bnd "out_of_range" "out_of_range" s_out_of_range ["wrong", "message"] := fun _ _ _ _ _ _ us hl => match us, hl with | [_, _], _ => rfl
theorem bd_integers : Bnd "integers" "integers" s_integers ["rows"] := fun _ _ _ _ _ _ us hl => match us, hl with | [_], _ => rfl
theorem bd_octets_of : Bnd "octets_of" "octets_of" s_octets_of ["value"] := fun _ _ _ _ _ _ us hl => match us, hl with | [_], _ => rfl
theorem bd_change_of : Bnd "change_of" "change_of" s_change_of ["old_tags", "new_tags", "tables"] := fun _ _ _ _ _ _ us hl => match us, hl with | [_, _, _], _ => rfl
theorem bd_is_name : Bnd "is_name" "is_name" s_is_name ["value"] := fun _ _ _ _ _ _ us hl => match us, hl with | [_], _ => rfl
theorem bd_is_text : Bnd "is_text" "is_text" s_is_text ["value"] := fun _ _ _ _ _ _ us hl => match us, hl with | [_], _ => rfl
theorem bd_names_in : Bnd "names_in" "names_in" s_names_in ["value"] := fun _ _ _ _ _ _ us hl => match us, hl with | [_], _ => rfl
theorem bd_is_definition : Bnd "is_definition" "is_definition" s_is_definition ["value"] := fun _ _ _ _ _ _ us hl => match us, hl with | [_], _ => rfl
theorem bd_tags_of : Bnd "tags_of" "tags_of" s_tags_of ["value"] := fun _ _ _ _ _ _ us hl => match us, hl with | [_], _ => rfl
theorem bd_filter_of : Bnd "filter_of" "filter_of" s_filter_of ["value", "name", "tags"] := fun _ _ _ _ _ _ us hl => match us, hl with | [_, _, _], _ => rfl
theorem bd_told_item : Bnd "told_item" "told_item" s_told_item ["item", "tags"] := fun _ _ _ _ _ _ us hl => match us, hl with | [_, _], _ => rfl
theorem bd_item_of : Bnd "item_of" "item_of" s_item_of ["value", "tags"] := fun _ _ _ _ _ _ us hl => match us, hl with | [_, _], _ => rfl
theorem bd_created : Bnd "created" "created" s_created ["given"] := fun _ _ _ _ _ _ us hl => match us, hl with | [_], _ => rfl
theorem bd_lost_tags : Bnd "lost_tags" "lost_tags" s_lost_tags ["change"] := fun _ _ _ _ _ _ us hl => match us, hl with | [_], _ => rfl
theorem bd_told_definitions : Bnd "told_definitions" "told_definitions" s_told_definitions ["change"] := fun _ _ _ _ _ _ us hl => match us, hl with | [_], _ => rfl
theorem bd_on_filter : Bnd "on_filter" "on_filter" s_on_filter ["change", "door", "value"] := fun _ _ _ _ _ _ us hl => match us, hl with | [_, _, _], _ => rfl
theorem bd_on_tags : Bnd "on_tags" "on_tags" s_on_tags ["door", "given"] := fun _ _ _ _ _ _ us hl => match us, hl with | [_, _], _ => rfl
theorem bd_codes_of : Bnd "codes_of" "codes_of" s_codes_of ["text"] := fun _ _ _ _ _ _ us hl => match us, hl with | [_], _ => rfl
theorem bd_answered : Bnd "answered" "answered" s_answered ["library", "octets"] := fun _ _ _ _ _ _ us hl => match us, hl with | [_, _], _ => rfl
theorem bd_answers : Bnd "answers" "answers" s_answers ["calls"] := fun _ _ _ _ _ _ us hl => match us, hl with | [_], _ => rfl
theorem bd_Parser_fail : Bnd "fail" "Parser.fail" s_Parser_fail ["self"] := fun _ _ _ _ _ _ us hl => match us, hl with | [_], _ => rfl
theorem bd_Parser_skip : Bnd "skip" "Parser.skip" s_Parser_skip ["self"] := fun _ _ _ _ _ _ us hl => match us, hl with | [_], _ => rfl
theorem bd_Parser_has_sign : Bnd "has_sign" "Parser.has_sign" s_Parser_has_sign ["self", "sign"] := fun _ _ _ _ _ _ us hl => match us, hl with | [_, _], _ => rfl
theorem bd_Parser_read_tag : Bnd "read_tag" "Parser.read_tag" s_Parser_read_tag ["self"] := fun _ _ _ _ _ _ us hl => match us, hl with | [_], _ => rfl
theorem bd_Parser_read_and : Bnd "read_and" "Parser.read_and" s_Parser_read_and ["self"] := fun _ _ _ _ _ _ us hl => match us, hl with | [_], _ => rfl
theorem bd_Parser_read_or : Bnd "read_or" "Parser.read_or" s_Parser_read_or ["self"] := fun _ _ _ _ _ _ us hl => match us, hl with | [_], _ => rfl
theorem bd_Parser_read_not : Bnd "read_not" "Parser.read_not" s_Parser_read_not ["self"] := fun _ _ _ _ _ _ us hl => match us, hl with | [_], _ => rfl
theorem bd_Request_number : Bnd "number" "Request.number" s_Request_number ["self", "many"] := fun _ _ _ _ _ _ us hl => match us, hl with | [_, _], _ => rfl
theorem bd_Request_plain : Bnd "plain" "Request.plain" s_Request_plain ["self"] := fun _ _ _ _ _ _ us hl => match us, hl with | [_], _ => rfl
theorem bd_Request_value : Bnd "value" "Request.value" s_Request_value ["self"] := fun _ _ _ _ _ _ us hl => match us, hl with | [_], _ => rfl
theorem bd_Request_whole : Bnd "whole" "Request.whole" s_Request_whole ["self"] := fun _ _ _ _ _ _ us hl => match us, hl with | [_], _ => rfl
theorem bd_Change_by_made : Bnd "by_made" "Change.by_made" s_Change_by_made ["self", "wanted"] := fun _ _ _ _ _ _ us hl => match us, hl with | [_, _], _ => rfl
theorem bd_Change_unreached : Bnd "unreached" "Change.unreached" s_Change_unreached ["self"] := fun _ _ _ _ _ _ us hl => match us, hl with | [_], _ => rfl
theorem bd_Change_least : Bnd "least" "Change.least" s_Change_least ["self", "wanted"] := fun _ _ _ _ _ _ us hl => match us, hl with | [_, _], _ => rfl
theorem bd_Change_greatest : Bnd "greatest" "Change.greatest" s_Change_greatest ["self", "wanted"] := fun _ _ _ _ _ _ us hl => match us, hl with | [_, _], _ => rfl
theorem bd_Change_is_lossless : Bnd "is_lossless" "Change.is_lossless" s_Change_is_lossless ["self"] := fun _ _ _ _ _ _ us hl => match us, hl with | [_], _ => rfl
theorem bd_Change_definition : Bnd "definition" "Change.definition" s_Change_definition ["self", "tag"] := fun _ _ _ _ _ _ us hl => match us, hl with | [_, _], _ => rfl
theorem bd_Change_back : Bnd "back" "Change.back" s_Change_back ["self"] := fun _ _ _ _ _ _ us hl => match us, hl with | [_], _ => rfl
theorem bd_Change_followed : Bnd "followed" "Change.followed" s_Change_followed ["self", "other"] := fun _ _ _ _ _ _ us hl => match us, hl with | [_, _], _ => rfl
theorem bd_Change_clash : Bnd "clash" "Change.clash" s_Change_clash ["self", "wanted"] := fun _ _ _ _ _ _ us hl => match us, hl with | [_, _], _ => rfl
theorem bd_Library_followed_by : Bnd "followed_by" "Library.followed_by" s_Library_followed_by ["self", "given"] := fun _ _ _ _ _ _ us hl => match us, hl with | [_, _], _ => rfl
theorem bd_Library_back : Bnd "back" "Library.back" s_Library_back ["self", "given"] := fun _ _ _ _ _ _ us hl => match us, hl with | [_, _], _ => rfl
theorem bd_Library_call : Bnd "call" "Library.call" s_Library_call ["self", "door", "given"] := fun _ _ _ _ _ _ us hl => match us, hl with | [_, _, _], _ => rfl
theorem bd_Parser_init : Bnd "__init__" "Parser.__init__" s_Parser_init ["self", "octets", "tags", "ahead"] := fun _ _ _ _ _ _ us hl => match us, hl with | [_, _, _, _], _ => rfl
theorem bd_Request_init : Bnd "__init__" "Request.__init__" s_Request_init ["self", "octets"] := fun _ _ _ _ _ _ us hl => match us, hl with | [_, _], _ => rfl
theorem bd_Change_init : Bnd "__init__" "Change.__init__" s_Change_init ["self", "old_tags", "new_tags", "made"] := fun _ _ _ _ _ _ us hl => match us, hl with | [_, _, _, _], _ => rfl
theorem bd_Library_init : Bnd "__init__" "Library.__init__" s_Library_init ["self"] := fun _ _ _ _ _ _ us hl => match us, hl with | [_], _ => rfl
theorem bd_Refused_init : Bnd "__init__" "Refused.__init__" s_Refused_init ["self", "order", "message", "further"] := fun _ _ _ _ _ _ us hl => match us, hl with | [_, _, _, _], _ => rfl
theorem tie {P : Program} {w : World} {K : PySem.W.Frag} {mg : Str → Option Value} {base : Heap} {A : Ad} {fa : Addr} {fda : FuncData} (T : Txt K mg A) (D_answers : Df K mg "answers" s_answers ["calls"] fa fda)
    (D_is_letter : ∃ f fd, Df K mg "is_letter" s_is_letter ["code"] f fd)
    (D_many_items : ∃ f fd, Df K mg "many_items" s_many_items ["many"] f fd)
    (D_has : ∃ f fd, Df K mg "has" s_has ["item", "tag"] f fd)
    (D_integer : ∃ f fd, Df K mg "integer" s_integer ["number"] f fd)
    (D_truth : ∃ f fd, Df K mg "truth" s_truth ["told"] f fd)
    (D_listed : ∃ f fd, Df K mg "listed" s_listed ["rows"] f fd)
    (D_low_first : ∃ f fd, Df K mg "low_first" s_low_first ["number", "many"] f fd)
    (D_all_terms : ∃ f fd, Df K mg "all_terms" s_all_terms ["many"] f fd)
    (D_fulfils : ∃ f fd, Df K mg "fulfils" s_fulfils ["item", "term"] f fd)
    (D_is_held : ∃ f fd, Df K mg "is_held" s_is_held ["term", "wanted", "free"] f fd)
    (D_is_prime : ∃ f fd, Df K mg "is_prime" s_is_prime ["term", "wanted", "free"] f fd)
    (D_term_text : ∃ f fd, Df K mg "term_text" s_term_text ["term", "tags"] f fd)
    (D_canonical : ∃ f fd, Df K mg "canonical" s_canonical ["tags", "wanted", "free"] f fd)
    (D_wrong_kind : ∃ f fd, Df K mg "wrong_kind" s_wrong_kind ["wrong", "message"] f fd)
    (D_out_of_range : ∃ f fd, Df K mg "out_of_range" s_out_of_range ["wrong", "message"] f fd)
    (D_integers : ∃ f fd, Df K mg "integers" s_integers ["rows"] f fd)
    (D_octets_of : ∃ f fd, Df K mg "octets_of" s_octets_of ["value"] f fd)
    (D_change_of : ∃ f fd, Df K mg "change_of" s_change_of ["old_tags", "new_tags", "tables"] f fd)
    (D_is_name : ∃ f fd, Df K mg "is_name" s_is_name ["value"] f fd)
    (D_is_text : ∃ f fd, Df K mg "is_text" s_is_text ["value"] f fd)
    (D_names_in : ∃ f fd, Df K mg "names_in" s_names_in ["value"] f fd)
    (D_is_definition : ∃ f fd, Df K mg "is_definition" s_is_definition ["value"] f fd)
    (D_tags_of : ∃ f fd, Df K mg "tags_of" s_tags_of ["value"] f fd)
    (D_filter_of : ∃ f fd, Df K mg "filter_of" s_filter_of ["value", "name", "tags"] f fd)
    (D_told_item : ∃ f fd, Df K mg "told_item" s_told_item ["item", "tags"] f fd)
    (D_item_of : ∃ f fd, Df K mg "item_of" s_item_of ["value", "tags"] f fd)
    (D_created : ∃ f fd, Df K mg "created" s_created ["given"] f fd)
    (D_lost_tags : ∃ f fd, Df K mg "lost_tags" s_lost_tags ["change"] f fd)
    (D_told_definitions : ∃ f fd, Df K mg "told_definitions" s_told_definitions ["change"] f fd)
    (D_on_filter : ∃ f fd, Df K mg "on_filter" s_on_filter ["change", "door", "value"] f fd)
    (D_on_tags : ∃ f fd, Df K mg "on_tags" s_on_tags ["door", "given"] f fd)
    (D_codes_of : ∃ f fd, Df K mg "codes_of" s_codes_of ["text"] f fd)
    (D_answered : ∃ f fd, Df K mg "answered" s_answered ["library", "octets"] f fd)
    (D_Parser_fail : ∃ f fd, Dm K A.pa "fail" "Parser.fail" s_Parser_fail ["self"] f fd)
    (D_Parser_skip : ∃ f fd, Dm K A.pa "skip" "Parser.skip" s_Parser_skip ["self"] f fd)
    (D_Parser_has_sign : ∃ f fd, Dm K A.pa "has_sign" "Parser.has_sign" s_Parser_has_sign ["self", "sign"] f fd)
    (D_Parser_read_tag : ∃ f fd, Dm K A.pa "read_tag" "Parser.read_tag" s_Parser_read_tag ["self"] f fd)
    (D_Parser_read_and : ∃ f fd, Dm K A.pa "read_and" "Parser.read_and" s_Parser_read_and ["self"] f fd)
    (D_Parser_read_or : ∃ f fd, Dm K A.pa "read_or" "Parser.read_or" s_Parser_read_or ["self"] f fd)
    (D_Parser_read_not : ∃ f fd, Dm K A.pa "read_not" "Parser.read_not" s_Parser_read_not ["self"] f fd)
    (D_Request_number : ∃ f fd, Dm K A.rq "number" "Request.number" s_Request_number ["self", "many"] f fd)
    (D_Request_plain : ∃ f fd, Dm K A.rq "plain" "Request.plain" s_Request_plain ["self"] f fd)
    (D_Request_value : ∃ f fd, Dm K A.rq "value" "Request.value" s_Request_value ["self"] f fd)
    (D_Request_whole : ∃ f fd, Dm K A.rq "whole" "Request.whole" s_Request_whole ["self"] f fd)
    (D_Change_by_made : ∃ f fd, Dm K A.ch "by_made" "Change.by_made" s_Change_by_made ["self", "wanted"] f fd)
    (D_Change_unreached : ∃ f fd, Dm K A.ch "unreached" "Change.unreached" s_Change_unreached ["self"] f fd)
    (D_Change_least : ∃ f fd, Dm K A.ch "least" "Change.least" s_Change_least ["self", "wanted"] f fd)
    (D_Change_greatest : ∃ f fd, Dm K A.ch "greatest" "Change.greatest" s_Change_greatest ["self", "wanted"] f fd)
    (D_Change_is_lossless : ∃ f fd, Dm K A.ch "is_lossless" "Change.is_lossless" s_Change_is_lossless ["self"] f fd)
    (D_Change_definition : ∃ f fd, Dm K A.ch "definition" "Change.definition" s_Change_definition ["self", "tag"] f fd)
    (D_Change_back : ∃ f fd, Dm K A.ch "back" "Change.back" s_Change_back ["self"] f fd)
    (D_Change_followed : ∃ f fd, Dm K A.ch "followed" "Change.followed" s_Change_followed ["self", "other"] f fd)
    (D_Change_clash : ∃ f fd, Dm K A.ch "clash" "Change.clash" s_Change_clash ["self", "wanted"] f fd)
    (D_Library_followed_by : ∃ f fd, Dm K A.li "followed_by" "Library.followed_by" s_Library_followed_by ["self", "given"] f fd)
    (D_Library_back : ∃ f fd, Dm K A.li "back" "Library.back" s_Library_back ["self", "given"] f fd)
    (D_Library_call : ∃ f fd, Dm K A.li "call" "Library.call" s_Library_call ["self", "door", "given"] f fd)
    (D_Parser_init : ∃ f fd, Di K mg "Parser" A.pa "Parser.__init__" s_Parser_init ["self", "octets", "tags", "ahead"] f fd)
    (D_Request_init : ∃ f fd, Di K mg "Request" A.rq "Request.__init__" s_Request_init ["self", "octets"] f fd)
    (D_Change_init : ∃ f fd, Di K mg "Change" A.ch "Change.__init__" s_Change_init ["self", "old_tags", "new_tags", "made"] f fd)
    (D_Library_init : ∃ f fd, Di K mg "Library" A.li "Library.__init__" s_Library_init ["self"] f fd)
    (D_Refused_init : ∃ f fd, Dr K A.rf "Refused.__init__" s_Refused_init ["self", "order", "message", "further"] f fd) :
    FnOk P w K mg base CX0 198 fa fda ["calls"] (spTop K A) := by
  obtain ⟨_, _, D_is_letter⟩ := D_is_letter
  obtain ⟨_, _, D_many_items⟩ := D_many_items
  obtain ⟨_, _, D_has⟩ := D_has
  obtain ⟨_, _, D_integer⟩ := D_integer
  obtain ⟨_, _, D_truth⟩ := D_truth
  obtain ⟨_, _, D_listed⟩ := D_listed
  obtain ⟨_, _, D_low_first⟩ := D_low_first
  obtain ⟨_, _, D_all_terms⟩ := D_all_terms
  obtain ⟨_, _, D_fulfils⟩ := D_fulfils
  obtain ⟨_, _, D_is_held⟩ := D_is_held
  obtain ⟨_, _, D_is_prime⟩ := D_is_prime
  obtain ⟨_, _, D_term_text⟩ := D_term_text
  obtain ⟨_, _, D_canonical⟩ := D_canonical
  obtain ⟨_, _, D_wrong_kind⟩ := D_wrong_kind
  obtain ⟨_, _, D_out_of_range⟩ := D_out_of_range
  obtain ⟨_, _, D_integers⟩ := D_integers
  obtain ⟨_, _, D_octets_of⟩ := D_octets_of
  obtain ⟨_, _, D_change_of⟩ := D_change_of
  obtain ⟨_, _, D_is_name⟩ := D_is_name
  obtain ⟨_, _, D_is_text⟩ := D_is_text
  obtain ⟨_, _, D_names_in⟩ := D_names_in
  obtain ⟨_, _, D_is_definition⟩ := D_is_definition
  obtain ⟨_, _, D_tags_of⟩ := D_tags_of
  obtain ⟨_, _, D_filter_of⟩ := D_filter_of
  obtain ⟨_, _, D_told_item⟩ := D_told_item
  obtain ⟨_, _, D_item_of⟩ := D_item_of
  obtain ⟨_, _, D_created⟩ := D_created
  obtain ⟨_, _, D_lost_tags⟩ := D_lost_tags
  obtain ⟨_, _, D_told_definitions⟩ := D_told_definitions
  obtain ⟨_, _, D_on_filter⟩ := D_on_filter
  obtain ⟨_, _, D_on_tags⟩ := D_on_tags
  obtain ⟨_, _, D_codes_of⟩ := D_codes_of
  obtain ⟨_, _, D_answered⟩ := D_answered
  obtain ⟨_, _, D_Parser_fail⟩ := D_Parser_fail
  obtain ⟨_, _, D_Parser_skip⟩ := D_Parser_skip
  obtain ⟨_, _, D_Parser_has_sign⟩ := D_Parser_has_sign
  obtain ⟨_, _, D_Parser_read_tag⟩ := D_Parser_read_tag
  obtain ⟨_, _, D_Parser_read_and⟩ := D_Parser_read_and
  obtain ⟨_, _, D_Parser_read_or⟩ := D_Parser_read_or
  obtain ⟨_, _, D_Parser_read_not⟩ := D_Parser_read_not
  obtain ⟨_, _, D_Request_number⟩ := D_Request_number
  obtain ⟨_, _, D_Request_plain⟩ := D_Request_plain
  obtain ⟨_, _, D_Request_value⟩ := D_Request_value
  obtain ⟨_, _, D_Request_whole⟩ := D_Request_whole
  obtain ⟨_, _, D_Change_by_made⟩ := D_Change_by_made
  obtain ⟨_, _, D_Change_unreached⟩ := D_Change_unreached
  obtain ⟨_, _, D_Change_least⟩ := D_Change_least
  obtain ⟨_, _, D_Change_greatest⟩ := D_Change_greatest
  obtain ⟨_, _, D_Change_is_lossless⟩ := D_Change_is_lossless
  obtain ⟨_, _, D_Change_definition⟩ := D_Change_definition
  obtain ⟨_, _, D_Change_back⟩ := D_Change_back
  obtain ⟨_, _, D_Change_followed⟩ := D_Change_followed
  obtain ⟨_, _, D_Change_clash⟩ := D_Change_clash
  obtain ⟨_, _, D_Library_followed_by⟩ := D_Library_followed_by
  obtain ⟨_, _, D_Library_back⟩ := D_Library_back
  obtain ⟨_, _, D_Library_call⟩ := D_Library_call
  obtain ⟨_, _, D_Parser_init⟩ := D_Parser_init
  obtain ⟨_, _, D_Request_init⟩ := D_Request_init
  obtain ⟨_, _, D_Change_init⟩ := D_Change_init
  obtain ⟨_, _, D_Library_init⟩ := D_Library_init
  obtain ⟨_, _, D_Refused_init⟩ := D_Refused_init
  have g_is_letter := ok_is_letter (P := P) (w := w) (base := base) D_is_letter T
  have g_many_items := ok_many_items (P := P) (w := w) (base := base) D_many_items T
  have g_has := ok_has (P := P) (w := w) (base := base) D_has T
  have g_integer := ok_integer (P := P) (w := w) (base := base) D_integer T
  have g_truth := ok_truth (P := P) (w := w) (base := base) D_truth T
  have g_listed := ok_listed (P := P) (w := w) (base := base) D_listed T
  have g_low_first := ok_low_first (P := P) (w := w) (base := base) D_low_first T
  have g_all_terms := ok_all_terms (P := P) (w := w) (base := base) D_all_terms T
  have g_fulfils := ok_fulfils (P := P) (w := w) (base := base) D_fulfils T g_has
  have g_is_held := ok_is_held (P := P) (w := w) (base := base) D_is_held T g_fulfils
  have g_is_prime := ok_is_prime (P := P) (w := w) (base := base) D_is_prime T g_fulfils g_is_held
  have g_term_text := ok_term_text (P := P) (w := w) (base := base) D_term_text T
  have g_canonical := ok_canonical (P := P) (w := w) (base := base) D_canonical T g_all_terms g_is_prime g_term_text
  have g_ref : Mr P w K mg base 1 A.rf (spRef A.rf) := ⟨_, _, _, D_Refused_init.at_, D_Refused_init.ty, ok_Refused D_Refused_init.fn T, D_Refused_init.b⟩
  have g_wrong_kind := ok_wrong_kind (P := P) (w := w) (base := base) D_wrong_kind T g_ref
  have g_out_of_range := ok_out_of_range (P := P) (w := w) (base := base) D_out_of_range T g_ref
  have g_Parser_fail := ok_fail (P := P) (w := w) (base := base) D_Parser_fail T g_out_of_range
  have g_Parser_fail2 := ok_fail2 (P := P) (w := w) (base := base) D_Parser_fail T g_out_of_range
  have g_Parser_skip := ok_skip (P := P) (w := w) (base := base) D_Parser_skip T
  have g_Parser_has_sign := ok_has_sign (P := P) (w := w) (base := base) D_Parser_has_sign T g_Parser_skip
  have g_Parser_read_tag := ok_read_tag (P := P) (w := w) (base := base) D_Parser_read_tag T g_is_letter g_Parser_fail g_Parser_skip g_many_items g_has
  have g_Parser_read_or : Mt P w K mg base (L2N.CX P w) 191 A.pa "read_or" (spRd K A 0 61) := (ok_reads (P := P) (w := w) (base := base) D_Parser_read_or D_Parser_read_and D_Parser_read_not T g_Parser_has_sign g_Parser_fail g_many_items g_Parser_read_tag 61).2
  have g_Parser_init : Mc P w K mg base (L2N.CX P w) 192 "Parser" A.pa (MkSp K A.rf A.pa R_Parser) := ok_Parser (k := 191) D_Parser_init T (by omega) g_Parser_skip g_Parser_fail2 g_Parser_read_or g_out_of_range
  have g_Request_number := ok_number (P := P) (w := w) (base := base) D_Request_number T
  have g_Request_plain := ok_plain (P := P) (w := w) (base := base) D_Request_plain T g_Request_number
  have g_integers := ok_integers (P := P) (w := w) (base := base) D_integers
  have g_value : ∀ d, Mt P w K mg base CX0 (d + 3) A.rq "value" (spVal K A d) := fun d => by
    induction d with
    | zero =>
      refine D_Request_value.mt' (D_Request_value.fn.ok sc_Request_value (fun vs H Q E h => ?_) (fun cdv _ outer s H vs Q E hr h => ?_))
      · obtain ⟨a, q, b, n, j, v, rest, _, _, _, _, _, h, _⟩ := h
        cases h
      · obtain ⟨a, q, b, n, j, v, rest, _, _, _, _, _, h, _⟩ := h
        cases h
    | succ d ih => exact ok_value D_Request_value T g_Request_number g_Request_plain g_integer g_integers ih
  have g_Request_init := ok_Request (P := P) (w := w) (base := base) D_Request_init T
  have g_Request_whole := ok_whole D_Request_whole T g_Request_number (g_value 9)
  have g_oct : ∀ d, Cl P w K mg base CX0 (d + 2) "octets_of" (NewSp K (R_octets d)) := fun d => by
    induction d with
    | zero => exact ok_octets0 D_octets_of
    | succ d ih => exact ok_octets D_octets_of T g_low_first ih
  have g_Change_init := ok_Change (P := P) (w := w) (base := base) D_Change_init T
  have g_Change_by_made := ok_by_made (P := P) (w := w) (base := base) D_Change_by_made T g_many_items
  have g_Change_unreached := ok_unreached (P := P) (w := w) (base := base) D_Change_unreached T g_Change_by_made
  have g_Change_least := ok_least (P := P) (w := w) (base := base) D_Change_least T g_canonical g_Change_by_made g_Change_unreached
  have g_Change_greatest := ok_greatest (P := P) (w := w) (base := base) D_Change_greatest T g_canonical g_Change_by_made g_Change_unreached
  have g_Change_is_lossless := ok_lossless (P := P) (w := w) (base := base) D_Change_is_lossless T
  have g_Change_definition := ok_definition (P := P) (w := w) (base := base) D_Change_definition T g_canonical g_has
  have g_Change_back := ok_back (P := P) (w := w) (base := base) D_Change_back T g_many_items g_Change_init
  have g_Change_followed := ok_followed (P := P) (w := w) (base := base) D_Change_followed T g_Change_init
  have g_Change_clash := ok_clash (P := P) (w := w) (base := base) D_Change_clash T
  have g_change_of := ok_change_of (P := P) (w := w) (base := base) D_change_of T g_many_items g_Change_init
  have g_is_name := ok_is_name (P := P) (w := w) (base := base) D_is_name T g_is_letter
  have g_is_text := ok_is_text (P := P) (w := w) (base := base) D_is_text T
  have g_names_in := ok_names_in (P := P) (w := w) (base := base) D_names_in T
  have g_is_definition := ok_is_definition (P := P) (w := w) (base := base) D_is_definition T g_is_text g_is_name
  have g_tags_of := ok_tags_of (P := P) (w := w) (base := base) D_tags_of T g_is_name g_wrong_kind g_names_in g_out_of_range
  have g_filter_of := ok_filter_of (P := P) (w := w) (base := base) D_filter_of T g_wrong_kind g_is_text g_Parser_init
  have g_told_item := ok_told_item (P := P) (w := w) (base := base) D_told_item T g_listed g_has
  have g_item_of := ok_item_of (P := P) (w := w) (base := base) D_item_of T g_is_name g_names_in g_wrong_kind
  have g_created := ok_created (P := P) (w := w) (base := base) D_created T g_tags_of g_is_definition g_wrong_kind g_out_of_range g_Parser_init g_change_of
  have g_lost_tags := ok_lost_tags (P := P) (w := w) (base := base) D_lost_tags T g_has g_Change_clash g_listed
  have g_told_definitions := ok_told_definitions (P := P) (w := w) (base := base) D_told_definitions T g_listed g_Change_definition
  have g_on_filter := ok_on_filter (P := P) (w := w) (base := base) D_on_filter T g_filter_of g_Change_clash g_truth g_Change_least g_Change_greatest g_listed g_told_item
  have g_on_tags := ok_on_tags (P := P) (w := w) (base := base) D_on_tags T g_tags_of g_filter_of g_canonical g_truth g_told_item
  have g_Library_followed_by := ok_followed_by (P := P) (w := w) (base := base) D_Library_followed_by T g_out_of_range g_Change_followed
  have g_Library_back := ok_lback (P := P) (w := w) (base := base) D_Library_back T g_Change_is_lossless g_truth g_Change_back
  have g_Library_init := ok_Library (P := P) (w := w) (base := base) D_Library_init T
  have g_Library_call := ok_call (P := P) (w := w) (base := base) D_Library_call T g_created g_Library_followed_by g_Library_back g_on_tags g_wrong_kind g_told_definitions g_told_item g_item_of g_on_filter g_truth g_Change_is_lossless g_lost_tags
  have g_codes := ok_codes (P := P) (w := w) (base := base) D_codes_of T
  have g_low := ok_low_firstH (P := P) (w := w) (base := base) D_low_first T
  have g_answered := ok_answered (P := P) (w := w) (base := base) D_answered T g_Request_init g_Request_whole (g_oct 4) g_Library_call g_codes g_low
  exact ok_answers D_answers T g_Library_init g_answered.frame

end Tg
end

section
set_option Elab.async false
set_option linter.all false
set_option maxRecDepth 100000
set_option maxHeartbeats 4000000
/-! The written part's facts, put together. (printed by genE6.py) -/
namespace Tg
open PySem PySem.Spec PyProof.Rows L2
section
variable {K : PySem.W.Frag} {h : Heap} {mg : Str → Option Value}
theorem ci_mk {x : Str} {i : Int} {t : Tok} (X : K.In h) (G : h.Ns mainGlobals mg) (a : PySem.W.nsIn K mainGlobals x = some (some (.int i t))) : ∃ u, mg x = some u ∧ RelV (.int i) u := ⟨_, PySem.W.mg_of X G a, _, rfl⟩
theorem cr_mk {x : Str} {c : Addr} (X : K.In h) (G : h.Ns mainGlobals mg) (a : PySem.W.nsIn K mainGlobals x = some (some (.ref c))) : ∃ u, mg x = some u ∧ RelV (.ref c) u := ⟨_, PySem.W.mg_of X G a, rfl⟩
theorem tn_mk {a : Addr} {n : Nat} {xs : List V} {us : List Value} (l : K.lookup a = some { cls := .type "tuple", data := .seq us.toArray n }) (hl : us.length ≤ 100) (r : Vals xs us) : ∀ H : Hp, SqT K H a xs := fun H =>
  .inr ⟨_, _, _, l, rfl, rfl, by
    have : (us.toArray).size = us.length := by simp
    rw [this]
    exact Nat.le_trans hl (by decide), by simpa using r⟩
theorem ti_mk1 {a : Addr} {n : Nat} {i : Int} {t : Tok} (l : K.lookup a = some { cls := .type "tuple", data := .seq #[.int i t] n }) : ∀ H : Hp, SqT K H a [.int i] :=
  tn_mk (us := [.int i t]) l (by simp) (.cons ⟨_, rfl⟩ .nil)
theorem ti_mk6 {a : Addr} {n : Nat} {i1 i2 i3 i4 i5 i6 : Int} {t1 t2 t3 t4 t5 t6 : Tok} (l : K.lookup a = some { cls := .type "tuple", data := .seq #[.int i1 t1, .int i2 t2, .int i3 t3, .int i4 t4, .int i5 t5, .int i6 t6] n }) : ∀ H : Hp, SqT K H a [.int i1, .int i2, .int i3, .int i4, .int i5, .int i6] :=
  tn_mk (us := [.int i1 t1, .int i2 t2, .int i3 t3, .int i4 t4, .int i5 t5, .int i6 t6]) l (by simp) (.cons ⟨_, rfl⟩ (.cons ⟨_, rfl⟩ (.cons ⟨_, rfl⟩ (.cons ⟨_, rfl⟩ (.cons ⟨_, rfl⟩ (.cons ⟨_, rfl⟩ .nil))))))
theorem drx {C f : Addr} {qual : Str} {st : Stmt} {ps : List Str} {oc : Value} {od an : Option Addr} {osl : Array (Option Value)} {kV doc pm cdv ct : Value} (_ : K.In h) (hb : Bnd "__init__" qual st ps) (a : PySem.W.findIn K (.ref C) "__init__" = some (some (.ref f))) (t : PySem.W.typeIn K (.ref f) = some (.type "function"))
    (l : K.lookup f = some ⟨oc, od, .func (PySem.W.fnOf "__init__" qual (defArgs st) (defBody st) (defScope st) .none kV doc pm an cdv ct), osl⟩) (c : PySem.W.codeIn K cdv qual = true) (k : PySem.W.keepIn K (.ref f) = true) : ∃ f fd, Dr K C qual st ps f fd := dr_mk hb a t l c k
theorem na_mk {C : Addr} {f : Str} (n : PySem.W.findIn K (.ref C) f = some none) : NoAttr K C f := n
theorem cls_mk {C : Addr} (pg : PySem.W.plainGet K C Str.empty = true) (hd : PySem.W.hasDictIn K C = true) (po : PySem.W.plainOver K C = true) (sa : PySem.W.findIn K (.ref C) "__setattr__" = some (some (.builtin "object.__setattr__"))) : Cls K C := ⟨pg, hd, po, sa⟩
theorem oex_mk {C N : Addr} {nm q : Str} {bs bm : List Value} {sn : List Str} {sub : List Value} {ab : Bool} {col : Option Bool} {dd : Option Addr} {m0 m1 m2 m3 m5 : Option Value}
    (xl : K.lookup C = some (excClassObj nm q C N bs bm true sn sub ab col dd m0 m1 m2 m3 m5 "ValueError.__new__")) (xr : PySem.HandSPX.refsVE bm = true) (sa : PySem.W.findIn K (.ref C) "__setattr__" = some (some (.builtin "object.__setattr__")))
    (exC : PySem.W.subIn K (.ref C) (.type "BaseException") = some true) (tyC : PySem.W.typeIn K (.ref C) = some (.type "type")) (kC : PySem.W.keepIn K (.ref C) = true) : OexC K C := ⟨⟨_, _, _, _, _, _, _, _, _, _, _, _, _, _, _, xl, xr⟩, sa, exC, tyC, kC⟩
theorem xf_mk {C : Addr} (ga : PySem.W.findIn K (.ref C) "__getattribute__" = some (some (.builtin "BaseException.__getattribute__"))) (gg : PySem.W.findIn K (.ref C) "__getattr__" = some none)
    (exC : PySem.W.subIn K (.ref C) (.type "BaseException") = some true) (hdC : PySem.W.hasDictIn K C = true) : XfC K C := ⟨ga, gg, exC, hdC⟩
end
theorem cut {P Q : Prop} (h : P) (f : P → Q) : Q := f h
/-- where the written part holds them -/
abbrev AD : Ad := ⟨106, 127, 224, 334, 456, 15, 16, 17, 18, 145⟩
theorem cutT {K : PySem.W.Frag} {h : Heap} {mg : Str → Option Value} {Q : Prop} (_ : K.In h) (t : Txt K mg AD) (f : Txt K mg AD → Q) : Q := f t
theorem last {P : Program} {w : World} {K : PySem.W.Frag} {mg : Str → Option Value} {A : Ad} {fa f : Addr} {h : Heap} {oc : Value} {od an : Option Addr} {osl : Array (Option Value)} {kV doc pm cdv ct : Value} (X : K.In h) (G : h.Ns mainGlobals mg) (hmg : mg "answers" = some (.ref fa)) (T : Txt K mg A)
    (a : PySem.W.nsIn K mainGlobals "answers" = some (some (.ref f))) (l : K.lookup f = some ⟨oc, od, .func (PySem.W.fnOf "answers" "answers" (defArgs s_answers) (defBody s_answers) (defScope s_answers) .none kV doc pm an cdv ct), osl⟩)
    (c : PySem.W.codeIn K cdv "answers" = true) (k : PySem.W.keepIn K (.ref f) = true)
    (D_is_letter : ∃ f fd, Df K mg "is_letter" s_is_letter ["code"] f fd)
    (D_many_items : ∃ f fd, Df K mg "many_items" s_many_items ["many"] f fd)
    (D_has : ∃ f fd, Df K mg "has" s_has ["item", "tag"] f fd)
    (D_integer : ∃ f fd, Df K mg "integer" s_integer ["number"] f fd)
    (D_truth : ∃ f fd, Df K mg "truth" s_truth ["told"] f fd)
    (D_listed : ∃ f fd, Df K mg "listed" s_listed ["rows"] f fd)
    (D_low_first : ∃ f fd, Df K mg "low_first" s_low_first ["number", "many"] f fd)
    (D_all_terms : ∃ f fd, Df K mg "all_terms" s_all_terms ["many"] f fd)
    (D_fulfils : ∃ f fd, Df K mg "fulfils" s_fulfils ["item", "term"] f fd)
    (D_is_held : ∃ f fd, Df K mg "is_held" s_is_held ["term", "wanted", "free"] f fd)
    (D_is_prime : ∃ f fd, Df K mg "is_prime" s_is_prime ["term", "wanted", "free"] f fd)
    (D_term_text : ∃ f fd, Df K mg "term_text" s_term_text ["term", "tags"] f fd)
    (D_canonical : ∃ f fd, Df K mg "canonical" s_canonical ["tags", "wanted", "free"] f fd)
    (D_wrong_kind : ∃ f fd, Df K mg "wrong_kind" s_wrong_kind ["wrong", "message"] f fd)
    (D_out_of_range : ∃ f fd, Df K mg "out_of_range" s_out_of_range ["wrong", "message"] f fd)
    (D_integers : ∃ f fd, Df K mg "integers" s_integers ["rows"] f fd)
    (D_octets_of : ∃ f fd, Df K mg "octets_of" s_octets_of ["value"] f fd)
    (D_change_of : ∃ f fd, Df K mg "change_of" s_change_of ["old_tags", "new_tags", "tables"] f fd)
    (D_is_name : ∃ f fd, Df K mg "is_name" s_is_name ["value"] f fd)
    (D_is_text : ∃ f fd, Df K mg "is_text" s_is_text ["value"] f fd)
    (D_names_in : ∃ f fd, Df K mg "names_in" s_names_in ["value"] f fd)
    (D_is_definition : ∃ f fd, Df K mg "is_definition" s_is_definition ["value"] f fd)
    (D_tags_of : ∃ f fd, Df K mg "tags_of" s_tags_of ["value"] f fd)
    (D_filter_of : ∃ f fd, Df K mg "filter_of" s_filter_of ["value", "name", "tags"] f fd)
    (D_told_item : ∃ f fd, Df K mg "told_item" s_told_item ["item", "tags"] f fd)
    (D_item_of : ∃ f fd, Df K mg "item_of" s_item_of ["value", "tags"] f fd)
    (D_created : ∃ f fd, Df K mg "created" s_created ["given"] f fd)
    (D_lost_tags : ∃ f fd, Df K mg "lost_tags" s_lost_tags ["change"] f fd)
    (D_told_definitions : ∃ f fd, Df K mg "told_definitions" s_told_definitions ["change"] f fd)
    (D_on_filter : ∃ f fd, Df K mg "on_filter" s_on_filter ["change", "door", "value"] f fd)
    (D_on_tags : ∃ f fd, Df K mg "on_tags" s_on_tags ["door", "given"] f fd)
    (D_codes_of : ∃ f fd, Df K mg "codes_of" s_codes_of ["text"] f fd)
    (D_answered : ∃ f fd, Df K mg "answered" s_answered ["library", "octets"] f fd)
    (D_Parser_fail : ∃ f fd, Dm K A.pa "fail" "Parser.fail" s_Parser_fail ["self"] f fd)
    (D_Parser_skip : ∃ f fd, Dm K A.pa "skip" "Parser.skip" s_Parser_skip ["self"] f fd)
    (D_Parser_has_sign : ∃ f fd, Dm K A.pa "has_sign" "Parser.has_sign" s_Parser_has_sign ["self", "sign"] f fd)
    (D_Parser_read_tag : ∃ f fd, Dm K A.pa "read_tag" "Parser.read_tag" s_Parser_read_tag ["self"] f fd)
    (D_Parser_read_and : ∃ f fd, Dm K A.pa "read_and" "Parser.read_and" s_Parser_read_and ["self"] f fd)
    (D_Parser_read_or : ∃ f fd, Dm K A.pa "read_or" "Parser.read_or" s_Parser_read_or ["self"] f fd)
    (D_Parser_read_not : ∃ f fd, Dm K A.pa "read_not" "Parser.read_not" s_Parser_read_not ["self"] f fd)
    (D_Request_number : ∃ f fd, Dm K A.rq "number" "Request.number" s_Request_number ["self", "many"] f fd)
    (D_Request_plain : ∃ f fd, Dm K A.rq "plain" "Request.plain" s_Request_plain ["self"] f fd)
    (D_Request_value : ∃ f fd, Dm K A.rq "value" "Request.value" s_Request_value ["self"] f fd)
    (D_Request_whole : ∃ f fd, Dm K A.rq "whole" "Request.whole" s_Request_whole ["self"] f fd)
    (D_Change_by_made : ∃ f fd, Dm K A.ch "by_made" "Change.by_made" s_Change_by_made ["self", "wanted"] f fd)
    (D_Change_unreached : ∃ f fd, Dm K A.ch "unreached" "Change.unreached" s_Change_unreached ["self"] f fd)
    (D_Change_least : ∃ f fd, Dm K A.ch "least" "Change.least" s_Change_least ["self", "wanted"] f fd)
    (D_Change_greatest : ∃ f fd, Dm K A.ch "greatest" "Change.greatest" s_Change_greatest ["self", "wanted"] f fd)
    (D_Change_is_lossless : ∃ f fd, Dm K A.ch "is_lossless" "Change.is_lossless" s_Change_is_lossless ["self"] f fd)
    (D_Change_definition : ∃ f fd, Dm K A.ch "definition" "Change.definition" s_Change_definition ["self", "tag"] f fd)
    (D_Change_back : ∃ f fd, Dm K A.ch "back" "Change.back" s_Change_back ["self"] f fd)
    (D_Change_followed : ∃ f fd, Dm K A.ch "followed" "Change.followed" s_Change_followed ["self", "other"] f fd)
    (D_Change_clash : ∃ f fd, Dm K A.ch "clash" "Change.clash" s_Change_clash ["self", "wanted"] f fd)
    (D_Library_followed_by : ∃ f fd, Dm K A.li "followed_by" "Library.followed_by" s_Library_followed_by ["self", "given"] f fd)
    (D_Library_back : ∃ f fd, Dm K A.li "back" "Library.back" s_Library_back ["self", "given"] f fd)
    (D_Library_call : ∃ f fd, Dm K A.li "call" "Library.call" s_Library_call ["self", "door", "given"] f fd)
    (D_Parser_init : ∃ f fd, Di K mg "Parser" A.pa "Parser.__init__" s_Parser_init ["self", "octets", "tags", "ahead"] f fd)
    (D_Request_init : ∃ f fd, Di K mg "Request" A.rq "Request.__init__" s_Request_init ["self", "octets"] f fd)
    (D_Change_init : ∃ f fd, Di K mg "Change" A.ch "Change.__init__" s_Change_init ["self", "old_tags", "new_tags", "made"] f fd)
    (D_Library_init : ∃ f fd, Di K mg "Library" A.li "Library.__init__" s_Library_init ["self"] f fd)
    (D_Refused_init : ∃ f fd, Dr K A.rf "Refused.__init__" s_Refused_init ["self", "order", "message", "further"] f fd) :
    ∃ fd : FuncData, (∀ (s : Shared) (us : List Value), us.length = (["calls"] : List Str).length → BindsTo s fd ⟨us, []⟩ ((["calls"] : List Str).zip us)) ∧ ∀ base : Heap, K.In base → base.Ns mainGlobals mg → FnOk P w K mg base CX0 198 fa fd ["calls"] (spTop K A) := by
  cases hmg.symm.trans (PySem.W.mg_of X G a)
  have F := fun_mk (st := s_answers) l c k
  have D : Df K mg "answers" s_answers ["calls"] _ _ := ⟨F, PySem.W.mg_of X G a, F.binds bd_answers⟩
  exact ⟨_, fun s us hu => .of_eq (bd_answers _ _ _ _ _ _ us hu), fun base _ _ => tie T D D_is_letter D_many_items D_has D_integer D_truth D_listed D_low_first D_all_terms D_fulfils D_is_held D_is_prime D_term_text D_canonical D_wrong_kind D_out_of_range D_integers D_octets_of D_change_of D_is_name D_is_text D_names_in D_is_definition D_tags_of D_filter_of D_told_item D_item_of D_created D_lost_tags D_told_definitions D_on_filter D_on_tags D_codes_of D_answered D_Parser_fail D_Parser_skip D_Parser_has_sign D_Parser_read_tag D_Parser_read_and D_Parser_read_or D_Parser_read_not D_Request_number D_Request_plain D_Request_value D_Request_whole D_Change_by_made D_Change_unreached D_Change_least D_Change_greatest D_Change_is_lossless D_Change_definition D_Change_back D_Change_followed D_Change_clash D_Library_followed_by D_Library_back D_Library_call D_Parser_init D_Request_init D_Change_init D_Library_init D_Refused_init⟩
end Tg
end

open PySem PySem.W PyProof.Rows
set_option maxRecDepth 100000 in
set_option maxHeartbeats 8000000 in
theorem PySem.Challenge.cw_tagshift_s01_answers_holds : PySem.Challenge.rw_tagshift_s01_answers.Holds := by
  w_on; k_headS; (case hw => exact ⟨[.list [.int 0, .int 14, .int 0, .int 0, .int 3, .int 4, .int 0, .int 0, .int 0, .int 0, .int 0, .int 0, .int 0, .int 0, .int 1, .int 1]], by decide +kernel, by decide +kernel⟩)
  k_fillS
  refine L2.walk_specK (r := PySem.Challenge.rw_tagshift_s01_answers) (k := 198) (CX := L2.CX0) (ps := ["calls"]) (sp := fun K => Tg.spTop K Tg.AD) (by decide +kernel) rfl rfl ⟨rfl, by decide, by decide⟩ (fun w h Y => PySem.W.kIn_of Y) ?F ?S (fun _ _ _ _ z => z)
  case F =>
    intro w mg fa h Y KX G hmg
    refine' Tg.cutT KX ⟨Tg.ci_mk KX G ?c_INTEGER, Tg.ci_mk KX G ?c_TEXT, Tg.ci_mk KX G ?c_LIST, Tg.ci_mk KX G ?c_RECORD, Tg.ci_mk KX G ?c_OCTETS, Tg.ci_mk KX G ?c_WORD, Tg.ci_mk KX G ?c_HALF, Tg.ci_mk KX G ?c_WANTED, Tg.ci_mk KX G ?c_UNWANTED, Tg.ci_mk KX G ?c_EITHER, Tg.ci_mk KX G ?c_SPACE, Tg.ci_mk KX G ?c_NOT, Tg.ci_mk KX G ?c_AND, Tg.ci_mk KX G ?c_OPEN, Tg.ci_mk KX G ?c_CLOSE, Tg.ci_mk KX G ?c_NONE, Tg.ci_mk KX G ?c_ALL, Tg.ci_mk KX G ?c_OR, Tg.ci_mk KX G ?c_MOST_ARGUMENTS, Tg.ci_mk KX G ?c_MOST_TAGS, Tg.ci_mk KX G ?c_MOST_NAME, Tg.ci_mk KX G ?c_MOST_TEXT, Tg.cr_mk (c := 15) KX G ?c_NOTHING, Tg.ti_mk1 (a := 15) ?t_NOTHING, Tg.cr_mk (c := 16) KX G ?c_NULL, Tg.ti_mk1 (a := 16) ?t_NULL, Tg.cr_mk (c := 17) KX G ?c_FALSE, Tg.ti_mk1 (a := 17) ?t_FALSE, Tg.cr_mk (c := 18) KX G ?c_TRUE, Tg.ti_mk1 (a := 18) ?t_TRUE, Tg.cr_mk (c := 145) KX G ?c_WEIGHTS, Tg.ti_mk6 (a := 145) ?t_WEIGHTS, PySem.W.mg_none_of KX G ?b_len, PySem.W.mg_none_of KX G ?b_tuple, PySem.W.mg_none_of KX G ?b_list, PySem.W.mg_none_of KX G ?b_all, PySem.W.mg_none_of KX G ?b_any, PySem.W.mg_none_of KX G ?b_sum, PySem.W.mg_none_of KX G ?b_str, PySem.W.mg_none_of KX G ?b_ord, PySem.W.mg_none_of KX G ?b_set, PySem.W.mg_none_of KX G ?b_zip, PySem.W.mg_none_of KX G ?b_range, Tg.cls_mk (C := 106) ?pg_Request ?hd_Request ?po_Request ?sa_Request, Tg.na_mk (C := 106) ?n_Request_octets, Tg.na_mk (C := 106) ?n_Request_at, Tg.cls_mk (C := 224) ?pg_Parser ?hd_Parser ?po_Parser ?sa_Parser, Tg.na_mk (C := 224) ?n_Parser_octets, Tg.na_mk (C := 224) ?n_Parser_tags, Tg.na_mk (C := 224) ?n_Parser_ahead, Tg.na_mk (C := 224) ?n_Parser_at, Tg.na_mk (C := 224) ?n_Parser_unknown, Tg.na_mk (C := 224) ?n_Parser_found, Tg.cls_mk (C := 334) ?pg_Change ?hd_Change ?po_Change ?sa_Change, Tg.na_mk (C := 334) ?n_Change_old_tags, Tg.na_mk (C := 334) ?n_Change_new_tags, Tg.na_mk (C := 334) ?n_Change_made, Tg.cls_mk (C := 456) ?pg_Library ?hd_Library ?po_Library ?sa_Library, Tg.na_mk (C := 456) ?n_Library_changes, Tg.oex_mk (C := 127) ?xl_1 ?xr_1 ?sa_Rf ?ex_Rf ?ty_Rf ?k_Rf, Tg.xf_mk (C := 127) ?ga_Rf ?gg_Rf ?ex2_Rf ?hd_Rf, Tg.na_mk (C := 127) ?n_Rf_order, Tg.na_mk (C := 127) ?n_Rf_message, Tg.na_mk (C := 127) ?n_Rf_further, PySem.W.mg_of (v := .ref 127) KX G ?m_Rf, Tg.self_exm (S := 127) ?h1_1 ?h2_1 ?h3_1 ?sub_self⟩ ?_
    (case c_INTEGER => k_is); (case c_TEXT => k_is); (case c_LIST => k_is); (case c_RECORD => k_is); (case c_OCTETS => k_is); (case c_WORD => k_is); (case c_HALF => k_is); (case c_WANTED => k_is)
    (case c_UNWANTED => k_is); (case c_EITHER => k_is); (case c_SPACE => k_is); (case c_NOT => k_is); (case c_AND => k_is); (case c_OPEN => k_is); (case c_CLOSE => k_is); (case c_NONE => k_is)
    (case c_ALL => k_is); (case c_OR => k_is); (case c_MOST_ARGUMENTS => k_is); (case c_MOST_TAGS => k_is); (case c_MOST_NAME => k_is); (case c_MOST_TEXT => k_is); (case c_NOTHING => k_is); (case t_NOTHING => k_is)
    (case c_NULL => k_is); (case t_NULL => k_is); (case c_FALSE => k_is); (case t_FALSE => k_is); (case c_TRUE => k_is); (case t_TRUE => k_is); (case c_WEIGHTS => k_is); (case t_WEIGHTS => k_is)
    (case b_len => k_is); (case b_tuple => k_is); (case b_list => k_is); (case b_all => k_is); (case b_any => k_is); (case b_sum => k_is); (case b_str => k_is); (case b_ord => k_is)
    (case b_set => k_is); (case b_zip => k_is); (case b_range => k_is); (case pg_Request => k_is); (case hd_Request => k_is); (case po_Request => k_is); (case sa_Request => k_is); (case n_Request_octets => k_is)
    (case n_Request_at => k_is); (case pg_Parser => k_is); (case hd_Parser => k_is); (case po_Parser => k_is); (case sa_Parser => k_is); (case n_Parser_octets => k_is); (case n_Parser_tags => k_is); (case n_Parser_ahead => k_is)
    (case n_Parser_at => k_is); (case n_Parser_unknown => k_is); (case n_Parser_found => k_is); (case pg_Change => k_is); (case hd_Change => k_is); (case po_Change => k_is); (case sa_Change => k_is); (case n_Change_old_tags => k_is)
    (case n_Change_new_tags => k_is); (case n_Change_made => k_is); (case pg_Library => k_is); (case hd_Library => k_is); (case po_Library => k_is); (case sa_Library => k_is); (case n_Library_changes => k_is); (case xl_1 => k_is)
    (case sa_Rf => k_is); (case ex_Rf => k_is); (case ty_Rf => k_is); (case k_Rf => k_is); (case ga_Rf => k_is); (case gg_Rf => k_is); (case ex2_Rf => k_is); (case hd_Rf => k_is)
    (case n_Rf_order => k_is); (case n_Rf_message => k_is); (case n_Rf_further => k_is); (case m_Rf => k_is); (case h1_1 => k_is); (case h2_1 => k_is); (case h3_1 => k_is); (case sub_self => first | rfl | k_is)
    (case xr_1 => decide +kernel)
    intro T
    refine' Tg.cut (Tg.df_mk KX G Tg.bd_is_letter ?a_1 ?l_1 ?c_1 ?k_1) ?_
    (case a_1 => k_is); (case l_1 => k_is); (case c_1 => k_is); (case k_1 => k_is)
    intro D_is_letter
    refine' Tg.cut (Tg.df_mk KX G Tg.bd_many_items ?a_2 ?l_2 ?c_2 ?k_2) ?_
    (case a_2 => k_is); (case l_2 => k_is); (case c_2 => k_is); (case k_2 => k_is)
    intro D_many_items
    refine' Tg.cut (Tg.df_mk KX G Tg.bd_has ?a_3 ?l_3 ?c_3 ?k_3) ?_
    (case a_3 => k_is); (case l_3 => k_is); (case c_3 => k_is); (case k_3 => k_is)
    intro D_has
    refine' Tg.cut (Tg.df_mk KX G Tg.bd_integer ?a_4 ?l_4 ?c_4 ?k_4) ?_
    (case a_4 => k_is); (case l_4 => k_is); (case c_4 => k_is); (case k_4 => k_is)
    intro D_integer
    refine' Tg.cut (Tg.df_mk KX G Tg.bd_truth ?a_5 ?l_5 ?c_5 ?k_5) ?_
    (case a_5 => k_is); (case l_5 => k_is); (case c_5 => k_is); (case k_5 => k_is)
    intro D_truth
    refine' Tg.cut (Tg.df_mk KX G Tg.bd_listed ?a_6 ?l_6 ?c_6 ?k_6) ?_
    (case a_6 => k_is); (case l_6 => k_is); (case c_6 => k_is); (case k_6 => k_is)
    intro D_listed
    refine' Tg.cut (Tg.df_mk KX G Tg.bd_low_first ?a_7 ?l_7 ?c_7 ?k_7) ?_
    (case a_7 => k_is); (case l_7 => k_is); (case c_7 => k_is); (case k_7 => k_is)
    intro D_low_first
    refine' Tg.cut (Tg.df_mk KX G Tg.bd_all_terms ?a_8 ?l_8 ?c_8 ?k_8) ?_
    (case a_8 => k_is); (case l_8 => k_is); (case c_8 => k_is); (case k_8 => k_is)
    intro D_all_terms
    refine' Tg.cut (Tg.df_mk KX G Tg.bd_fulfils ?a_9 ?l_9 ?c_9 ?k_9) ?_
    (case a_9 => k_is); (case l_9 => k_is); (case c_9 => k_is); (case k_9 => k_is)
    intro D_fulfils
    refine' Tg.cut (Tg.df_mk KX G Tg.bd_is_held ?a_10 ?l_10 ?c_10 ?k_10) ?_
    (case a_10 => k_is); (case l_10 => k_is); (case c_10 => k_is); (case k_10 => k_is)
    intro D_is_held
    refine' Tg.cut (Tg.df_mk KX G Tg.bd_is_prime ?a_11 ?l_11 ?c_11 ?k_11) ?_
    (case a_11 => k_is); (case l_11 => k_is); (case c_11 => k_is); (case k_11 => k_is)
    intro D_is_prime
    refine' Tg.cut (Tg.df_mk KX G Tg.bd_term_text ?a_12 ?l_12 ?c_12 ?k_12) ?_
    (case a_12 => k_is); (case l_12 => k_is); (case c_12 => k_is); (case k_12 => k_is)
    intro D_term_text
    refine' Tg.cut (Tg.df_mk KX G Tg.bd_canonical ?a_13 ?l_13 ?c_13 ?k_13) ?_
    (case a_13 => k_is); (case l_13 => k_is); (case c_13 => k_is); (case k_13 => k_is)
    intro D_canonical
    refine' Tg.cut (Tg.df_mk KX G Tg.bd_wrong_kind ?a_14 ?l_14 ?c_14 ?k_14) ?_
    (case a_14 => k_is); (case l_14 => k_is); (case c_14 => k_is); (case k_14 => k_is)
    intro D_wrong_kind
    refine' Tg.cut (Tg.df_mk KX G Tg.bd_out_of_range ?a_15 ?l_15 ?c_15 ?k_15) ?_
    (case a_15 => k_is); (case l_15 => k_is); (case c_15 => k_is); (case k_15 => k_is)
    intro D_out_of_range
    refine' Tg.cut (Tg.df_mk KX G Tg.bd_integers ?a_16 ?l_16 ?c_16 ?k_16) ?_
    (case a_16 => k_is); (case l_16 => k_is); (case c_16 => k_is); (case k_16 => k_is)
    intro D_integers
    refine' Tg.cut (Tg.df_mk KX G Tg.bd_octets_of ?a_17 ?l_17 ?c_17 ?k_17) ?_
    (case a_17 => k_is); (case l_17 => k_is); (case c_17 => k_is); (case k_17 => k_is)
    intro D_octets_of
    refine' Tg.cut (Tg.df_mk KX G Tg.bd_change_of ?a_18 ?l_18 ?c_18 ?k_18) ?_
    (case a_18 => k_is); (case l_18 => k_is); (case c_18 => k_is); (case k_18 => k_is)
    intro D_change_of
    refine' Tg.cut (Tg.df_mk KX G Tg.bd_is_name ?a_19 ?l_19 ?c_19 ?k_19) ?_
    (case a_19 => k_is); (case l_19 => k_is); (case c_19 => k_is); (case k_19 => k_is)
    intro D_is_name
    refine' Tg.cut (Tg.df_mk KX G Tg.bd_is_text ?a_20 ?l_20 ?c_20 ?k_20) ?_
    (case a_20 => k_is); (case l_20 => k_is); (case c_20 => k_is); (case k_20 => k_is)
    intro D_is_text
    refine' Tg.cut (Tg.df_mk KX G Tg.bd_names_in ?a_21 ?l_21 ?c_21 ?k_21) ?_
    (case a_21 => k_is); (case l_21 => k_is); (case c_21 => k_is); (case k_21 => k_is)
    intro D_names_in
    refine' Tg.cut (Tg.df_mk KX G Tg.bd_is_definition ?a_22 ?l_22 ?c_22 ?k_22) ?_
    (case a_22 => k_is); (case l_22 => k_is); (case c_22 => k_is); (case k_22 => k_is)
    intro D_is_definition
    refine' Tg.cut (Tg.df_mk KX G Tg.bd_tags_of ?a_23 ?l_23 ?c_23 ?k_23) ?_
    (case a_23 => k_is); (case l_23 => k_is); (case c_23 => k_is); (case k_23 => k_is)
    intro D_tags_of
    refine' Tg.cut (Tg.df_mk KX G Tg.bd_filter_of ?a_24 ?l_24 ?c_24 ?k_24) ?_
    (case a_24 => k_is); (case l_24 => k_is); (case c_24 => k_is); (case k_24 => k_is)
    intro D_filter_of
    refine' Tg.cut (Tg.df_mk KX G Tg.bd_told_item ?a_25 ?l_25 ?c_25 ?k_25) ?_
    (case a_25 => k_is); (case l_25 => k_is); (case c_25 => k_is); (case k_25 => k_is)
    intro D_told_item
    refine' Tg.cut (Tg.df_mk KX G Tg.bd_item_of ?a_26 ?l_26 ?c_26 ?k_26) ?_
    (case a_26 => k_is); (case l_26 => k_is); (case c_26 => k_is); (case k_26 => k_is)
    intro D_item_of
    refine' Tg.cut (Tg.df_mk KX G Tg.bd_created ?a_27 ?l_27 ?c_27 ?k_27) ?_
    (case a_27 => k_is); (case l_27 => k_is); (case c_27 => k_is); (case k_27 => k_is)
    intro D_created
    refine' Tg.cut (Tg.df_mk KX G Tg.bd_lost_tags ?a_28 ?l_28 ?c_28 ?k_28) ?_
    (case a_28 => k_is); (case l_28 => k_is); (case c_28 => k_is); (case k_28 => k_is)
    intro D_lost_tags
    refine' Tg.cut (Tg.df_mk KX G Tg.bd_told_definitions ?a_29 ?l_29 ?c_29 ?k_29) ?_
    (case a_29 => k_is); (case l_29 => k_is); (case c_29 => k_is); (case k_29 => k_is)
    intro D_told_definitions
    refine' Tg.cut (Tg.df_mk KX G Tg.bd_on_filter ?a_30 ?l_30 ?c_30 ?k_30) ?_
    (case a_30 => k_is); (case l_30 => k_is); (case c_30 => k_is); (case k_30 => k_is)
    intro D_on_filter
    refine' Tg.cut (Tg.df_mk KX G Tg.bd_on_tags ?a_31 ?l_31 ?c_31 ?k_31) ?_
    (case a_31 => k_is); (case l_31 => k_is); (case c_31 => k_is); (case k_31 => k_is)
    intro D_on_tags
    refine' Tg.cut (Tg.df_mk KX G Tg.bd_codes_of ?a_32 ?l_32 ?c_32 ?k_32) ?_
    (case a_32 => k_is); (case l_32 => k_is); (case c_32 => k_is); (case k_32 => k_is)
    intro D_codes_of
    refine' Tg.cut (Tg.df_mk KX G Tg.bd_answered ?a_33 ?l_33 ?c_33 ?k_33) ?_
    (case a_33 => k_is); (case l_33 => k_is); (case c_33 => k_is); (case k_33 => k_is)
    intro D_answered
    refine' Tg.cut (Tg.dm_mk (C := 224) T.k_Parser Tg.bd_Parser_fail ?a_34 ?i_1 ?l_34 ?c_34 ?k_34) ?_
    (case a_34 => k_is); (case i_1 => k_is); (case l_34 => k_is); (case c_34 => k_is); (case k_34 => k_is)
    intro D_Parser_fail
    refine' Tg.cut (Tg.dm_mk (C := 224) T.k_Parser Tg.bd_Parser_skip ?a_35 ?i_2 ?l_35 ?c_35 ?k_35) ?_
    (case a_35 => k_is); (case i_2 => k_is); (case l_35 => k_is); (case c_35 => k_is); (case k_35 => k_is)
    intro D_Parser_skip
    refine' Tg.cut (Tg.dm_mk (C := 224) T.k_Parser Tg.bd_Parser_has_sign ?a_36 ?i_3 ?l_36 ?c_36 ?k_36) ?_
    (case a_36 => k_is); (case i_3 => k_is); (case l_36 => k_is); (case c_36 => k_is); (case k_36 => k_is)
    intro D_Parser_has_sign
    refine' Tg.cut (Tg.dm_mk (C := 224) T.k_Parser Tg.bd_Parser_read_tag ?a_37 ?i_4 ?l_37 ?c_37 ?k_37) ?_
    (case a_37 => k_is); (case i_4 => k_is); (case l_37 => k_is); (case c_37 => k_is); (case k_37 => k_is)
    intro D_Parser_read_tag
    refine' Tg.cut (Tg.dm_mk (C := 224) T.k_Parser Tg.bd_Parser_read_and ?a_38 ?i_5 ?l_38 ?c_38 ?k_38) ?_
    (case a_38 => k_is); (case i_5 => k_is); (case l_38 => k_is); (case c_38 => k_is); (case k_38 => k_is)
    intro D_Parser_read_and
    refine' Tg.cut (Tg.dm_mk (C := 224) T.k_Parser Tg.bd_Parser_read_or ?a_39 ?i_6 ?l_39 ?c_39 ?k_39) ?_
    (case a_39 => k_is); (case i_6 => k_is); (case l_39 => k_is); (case c_39 => k_is); (case k_39 => k_is)
    intro D_Parser_read_or
    refine' Tg.cut (Tg.dm_mk (C := 224) T.k_Parser Tg.bd_Parser_read_not ?a_40 ?i_7 ?l_40 ?c_40 ?k_40) ?_
    (case a_40 => k_is); (case i_7 => k_is); (case l_40 => k_is); (case c_40 => k_is); (case k_40 => k_is)
    intro D_Parser_read_not
    refine' Tg.cut (Tg.dm_mk (C := 106) T.k_Request Tg.bd_Request_number ?a_41 ?i_8 ?l_41 ?c_41 ?k_41) ?_
    (case a_41 => k_is); (case i_8 => k_is); (case l_41 => k_is); (case c_41 => k_is); (case k_41 => k_is)
    intro D_Request_number
    refine' Tg.cut (Tg.dm_mk (C := 106) T.k_Request Tg.bd_Request_plain ?a_42 ?i_9 ?l_42 ?c_42 ?k_42) ?_
    (case a_42 => k_is); (case i_9 => k_is); (case l_42 => k_is); (case c_42 => k_is); (case k_42 => k_is)
    intro D_Request_plain
    refine' Tg.cut (Tg.dm_mk (C := 106) T.k_Request Tg.bd_Request_value ?a_43 ?i_10 ?l_43 ?c_43 ?k_43) ?_
    (case a_43 => k_is); (case i_10 => k_is); (case l_43 => k_is); (case c_43 => k_is); (case k_43 => k_is)
    intro D_Request_value
    refine' Tg.cut (Tg.dm_mk (C := 106) T.k_Request Tg.bd_Request_whole ?a_44 ?i_11 ?l_44 ?c_44 ?k_44) ?_
    (case a_44 => k_is); (case i_11 => k_is); (case l_44 => k_is); (case c_44 => k_is); (case k_44 => k_is)
    intro D_Request_whole
    refine' Tg.cut (Tg.dm_mk (C := 334) T.k_Change Tg.bd_Change_by_made ?a_45 ?i_12 ?l_45 ?c_45 ?k_45) ?_
    (case a_45 => k_is); (case i_12 => k_is); (case l_45 => k_is); (case c_45 => k_is); (case k_45 => k_is)
    intro D_Change_by_made
    refine' Tg.cut (Tg.dm_mk (C := 334) T.k_Change Tg.bd_Change_unreached ?a_46 ?i_13 ?l_46 ?c_46 ?k_46) ?_
    (case a_46 => k_is); (case i_13 => k_is); (case l_46 => k_is); (case c_46 => k_is); (case k_46 => k_is)
    intro D_Change_unreached
    refine' Tg.cut (Tg.dm_mk (C := 334) T.k_Change Tg.bd_Change_least ?a_47 ?i_14 ?l_47 ?c_47 ?k_47) ?_
    (case a_47 => k_is); (case i_14 => k_is); (case l_47 => k_is); (case c_47 => k_is); (case k_47 => k_is)
    intro D_Change_least
    refine' Tg.cut (Tg.dm_mk (C := 334) T.k_Change Tg.bd_Change_greatest ?a_48 ?i_15 ?l_48 ?c_48 ?k_48) ?_
    (case a_48 => k_is); (case i_15 => k_is); (case l_48 => k_is); (case c_48 => k_is); (case k_48 => k_is)
    intro D_Change_greatest
    refine' Tg.cut (Tg.dm_mk (C := 334) T.k_Change Tg.bd_Change_is_lossless ?a_49 ?i_16 ?l_49 ?c_49 ?k_49) ?_
    (case a_49 => k_is); (case i_16 => k_is); (case l_49 => k_is); (case c_49 => k_is); (case k_49 => k_is)
    intro D_Change_is_lossless
    refine' Tg.cut (Tg.dm_mk (C := 334) T.k_Change Tg.bd_Change_definition ?a_50 ?i_17 ?l_50 ?c_50 ?k_50) ?_
    (case a_50 => k_is); (case i_17 => k_is); (case l_50 => k_is); (case c_50 => k_is); (case k_50 => k_is)
    intro D_Change_definition
    refine' Tg.cut (Tg.dm_mk (C := 334) T.k_Change Tg.bd_Change_back ?a_51 ?i_18 ?l_51 ?c_51 ?k_51) ?_
    (case a_51 => k_is); (case i_18 => k_is); (case l_51 => k_is); (case c_51 => k_is); (case k_51 => k_is)
    intro D_Change_back
    refine' Tg.cut (Tg.dm_mk (C := 334) T.k_Change Tg.bd_Change_followed ?a_52 ?i_19 ?l_52 ?c_52 ?k_52) ?_
    (case a_52 => k_is); (case i_19 => k_is); (case l_52 => k_is); (case c_52 => k_is); (case k_52 => k_is)
    intro D_Change_followed
    refine' Tg.cut (Tg.dm_mk (C := 334) T.k_Change Tg.bd_Change_clash ?a_53 ?i_20 ?l_53 ?c_53 ?k_53) ?_
    (case a_53 => k_is); (case i_20 => k_is); (case l_53 => k_is); (case c_53 => k_is); (case k_53 => k_is)
    intro D_Change_clash
    refine' Tg.cut (Tg.dm_mk (C := 456) T.k_Library Tg.bd_Library_followed_by ?a_54 ?i_21 ?l_54 ?c_54 ?k_54) ?_
    (case a_54 => k_is); (case i_21 => k_is); (case l_54 => k_is); (case c_54 => k_is); (case k_54 => k_is)
    intro D_Library_followed_by
    refine' Tg.cut (Tg.dm_mk (C := 456) T.k_Library Tg.bd_Library_back ?a_55 ?i_22 ?l_55 ?c_55 ?k_55) ?_
    (case a_55 => k_is); (case i_22 => k_is); (case l_55 => k_is); (case c_55 => k_is); (case k_55 => k_is)
    intro D_Library_back
    refine' Tg.cut (Tg.dm_mk (C := 456) T.k_Library Tg.bd_Library_call ?a_56 ?i_23 ?l_56 ?c_56 ?k_56) ?_
    (case a_56 => k_is); (case i_23 => k_is); (case l_56 => k_is); (case c_56 => k_is); (case k_56 => k_is)
    intro D_Library_call
    refine' Tg.cut (Tg.di_mk (C := 224) (cn := "Parser") KX G Tg.bd_Parser_init ?m_1 ?kc_1 ?g_1 ?a_57 ?i_24 ?l_57 ?c_57 ?k_57) ?_
    (case m_1 => k_is); (case kc_1 => k_is); (case g_1 => k_is); (case a_57 => k_is); (case i_24 => k_is); (case l_57 => k_is); (case c_57 => k_is); (case k_57 => k_is)
    intro D_Parser_init
    refine' Tg.cut (Tg.di_mk (C := 106) (cn := "Request") KX G Tg.bd_Request_init ?m_2 ?kc_2 ?g_2 ?a_58 ?i_25 ?l_58 ?c_58 ?k_58) ?_
    (case m_2 => k_is); (case kc_2 => k_is); (case g_2 => k_is); (case a_58 => k_is); (case i_25 => k_is); (case l_58 => k_is); (case c_58 => k_is); (case k_58 => k_is)
    intro D_Request_init
    refine' Tg.cut (Tg.di_mk (C := 334) (cn := "Change") KX G Tg.bd_Change_init ?m_3 ?kc_3 ?g_3 ?a_59 ?i_26 ?l_59 ?c_59 ?k_59) ?_
    (case m_3 => k_is); (case kc_3 => k_is); (case g_3 => k_is); (case a_59 => k_is); (case i_26 => k_is); (case l_59 => k_is); (case c_59 => k_is); (case k_59 => k_is)
    intro D_Change_init
    refine' Tg.cut (Tg.di_mk (C := 456) (cn := "Library") KX G Tg.bd_Library_init ?m_4 ?kc_4 ?g_4 ?a_60 ?i_27 ?l_60 ?c_60 ?k_60) ?_
    (case m_4 => k_is); (case kc_4 => k_is); (case g_4 => k_is); (case a_60 => k_is); (case i_27 => k_is); (case l_60 => k_is); (case c_60 => k_is); (case k_60 => k_is)
    intro D_Library_init
    refine' Tg.cut (Tg.drx (C := 127) KX Tg.bd_Refused_init ?a_61 ?t_1 ?l_61 ?c_61 ?k_61) ?_
    (case a_61 => k_is); (case t_1 => k_is); (case l_61 => k_is); (case c_61 => k_is); (case k_61 => k_is)
    intro D_Refused_init
    refine' Tg.last KX G hmg T ?a_0 ?l_0 ?c_0 ?k_0 D_is_letter D_many_items D_has D_integer D_truth D_listed D_low_first D_all_terms D_fulfils D_is_held D_is_prime D_term_text D_canonical D_wrong_kind D_out_of_range D_integers D_octets_of D_change_of D_is_name D_is_text D_names_in D_is_definition D_tags_of D_filter_of D_told_item D_item_of D_created D_lost_tags D_told_definitions D_on_filter D_on_tags D_codes_of D_answered D_Parser_fail D_Parser_skip D_Parser_has_sign D_Parser_read_tag D_Parser_read_and D_Parser_read_or D_Parser_read_not D_Request_number D_Request_plain D_Request_value D_Request_whole D_Change_by_made D_Change_unreached D_Change_least D_Change_greatest D_Change_is_lossless D_Change_definition D_Change_back D_Change_followed D_Change_clash D_Library_followed_by D_Library_back D_Library_call D_Parser_init D_Request_init D_Change_init D_Library_init D_Refused_init
    (case a_0 => k_is); (case l_0 => k_is); (case c_0 => k_is); (case k_0 => k_is)
  case S =>
    intro K H xs a hO hwi hask hx
    cases hx with
    | cons h1 h2 =>
      cases h2
      cases h1 with
      | lst hs ha =>
        have e := L2.ints_dw a.1 _ ha
        subst e
        obtain ⟨rs, outs, e1, run, z1, e2, z2⟩ := Tg.asked_run Tg.AD (L := a.1) hask
        refine ⟨_, rs, outs, rfl, ?_, run, z1, z2, fun p H' hp => ?_⟩
        · rw [← e1]
          exact hs
        · have h := L2.Dw.lst (L2.SqL.of hp) (L2.dw_ints (K := K) (H := H') (outs.flatMap Tg.outI))
          rw [← e2] at h
          exact h
#print axioms PySem.Challenge.cw_tagshift_s01_answers_holds
